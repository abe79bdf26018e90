/-
  No cell of these rows narrows 'for every input' (looked for: loops, veiled, ifaces, maps, wideKeys, modest, calm, conditions, laid).
  DERIVED. THE GIVEN ROWS OF THIS SEAT. 12 by the template 'for every input the law returns true; each argument reads behind the call as it read before'; 0 by the template 'total and deterministic' (their statements: YtnhenfmegpjigaaTotals.lean).
  GIVEN WITH THE SEED: the statements are not yours to turn. If you find one false, say at which input.
  Laid BY PROGRAM, IN A SANDBOX (cutbox-rows.mjs): the forced cells as the released guide's own fill.sh prints them over the translation 422cdd640f31bf2f… (all of the seat's roots in one cut). By AI agents, Wed Nov 11 2026. No macro, syntax, notation, axiom, sorry.
-/
import Derived.Test.YtnhenfmegpjigaaChecked
import GoSem.Claim
import GoSem.ClaimJoined
import GoSem.ClaimMapViews
import Derived.JoinedTies
import Derived.KernelRfl
namespace Go.Proofs.Ytnhenfmegpjigaa
/- THE CELL 'sum', in the pinned program and in every row, IS THE sha256 OF THE DUMP (.gsa) THAT YtnhenfmegpjigaaProg.lean LOADS. Nothing in Lean hashes anything: it is a label: what it is worth is what the hold of that sum in a sandbox is worth. -/
noncomputable def Try.pinned : Pinned := { name := "ytnhenfmegpjigaa", sum := "422cdd640f31bf2f78ffc9f68c35ad36cc606b8362e309270404b201e0aa032c", checked := Try.checked }
namespace Rows
def none {H : Type} : Left H := { results := [], args := [] }

/-- 'laws.FnEventsPart': WHATEVER THE INPUT: true; the input reads as it did. -/
def fnEventsPartSpec : ChangeSpec := { name := "fnEventsPart", fn := fun _ => fun
  | [d1, d2] => { results := [.lit (.bool true)], args := [d1, d2] }
  | _ => none }
def fnEventsPartRow : OpenClaim := { program := "ytnhenfmegpjigaa", sum := "422cdd640f31bf2f78ffc9f68c35ad36cc606b8362e309270404b201e0aa032c", func := "loop.example/messkitchen/laws.FnEventsPart", spec := "fnEventsPart", apart := false }
def FnEventsPartSaid : Prop := fnEventsPartRow.holds Try.pinned (OpenSpec.ofChange fnEventsPartSpec)

/-- ITS FALSE NEIGHBOUR: 'it returns false'. Refute it at one input. -/
def fnEventsPartWrong : ChangeSpec := { name := "fnEventsPart", fn := fun _ => fun
  | [d1, d2] => { results := [.lit (.bool false)], args := [d1, d2] }
  | _ => none }
def FnEventsPartWrongFalsely : Prop := fnEventsPartRow.holds Try.pinned (OpenSpec.ofChange fnEventsPartWrong)

/-- 'laws.FnExactEventsValid': WHATEVER THE INPUT: true; the input reads as it did. -/
def fnExactEventsValidSpec : ChangeSpec := { name := "fnExactEventsValid", fn := fun _ => fun
  | [d] => { results := [.lit (.bool true)], args := [d] }
  | _ => none }
def fnExactEventsValidRow : OpenClaim := { program := "ytnhenfmegpjigaa", sum := "422cdd640f31bf2f78ffc9f68c35ad36cc606b8362e309270404b201e0aa032c", func := "loop.example/messkitchen/laws.FnExactEventsValid", spec := "fnExactEventsValid", apart := false }
def FnExactEventsValidSaid : Prop := fnExactEventsValidRow.holds Try.pinned (OpenSpec.ofChange fnExactEventsValidSpec)

/-- ITS FALSE NEIGHBOUR: 'it returns false'. Refute it at one input. -/
def fnExactEventsValidWrong : ChangeSpec := { name := "fnExactEventsValid", fn := fun _ => fun
  | [d] => { results := [.lit (.bool false)], args := [d] }
  | _ => none }
def FnExactEventsValidWrongFalsely : Prop := fnExactEventsValidRow.holds Try.pinned (OpenSpec.ofChange fnExactEventsValidWrong)

/-- 'laws.FnWatchServed': WHATEVER THE INPUT: true; the input reads as it did. -/
def fnWatchServedSpec : ChangeSpec := { name := "fnWatchServed", fn := fun _ => fun
  | [d] => { results := [.lit (.bool true)], args := [d] }
  | _ => none }
def fnWatchServedRow : OpenClaim := { program := "ytnhenfmegpjigaa", sum := "422cdd640f31bf2f78ffc9f68c35ad36cc606b8362e309270404b201e0aa032c", func := "loop.example/messkitchen/laws.FnWatchServed", spec := "fnWatchServed", apart := false }
def FnWatchServedSaid : Prop := fnWatchServedRow.holds Try.pinned (OpenSpec.ofChange fnWatchServedSpec)

/-- ITS FALSE NEIGHBOUR: 'it returns false'. Refute it at one input. -/
def fnWatchServedWrong : ChangeSpec := { name := "fnWatchServed", fn := fun _ => fun
  | [d] => { results := [.lit (.bool false)], args := [d] }
  | _ => none }
def FnWatchServedWrongFalsely : Prop := fnWatchServedRow.holds Try.pinned (OpenSpec.ofChange fnWatchServedWrong)

/-- 'laws.FnExactWatchServed': WHATEVER THE INPUT: true; the input reads as it did. -/
def fnExactWatchServedSpec : ChangeSpec := { name := "fnExactWatchServed", fn := fun _ => fun
  | [d1, d2] => { results := [.lit (.bool true)], args := [d1, d2] }
  | _ => none }
def fnExactWatchServedRow : OpenClaim := { program := "ytnhenfmegpjigaa", sum := "422cdd640f31bf2f78ffc9f68c35ad36cc606b8362e309270404b201e0aa032c", func := "loop.example/messkitchen/laws.FnExactWatchServed", spec := "fnExactWatchServed", apart := false }
def FnExactWatchServedSaid : Prop := fnExactWatchServedRow.holds Try.pinned (OpenSpec.ofChange fnExactWatchServedSpec)

/-- ITS FALSE NEIGHBOUR: 'it returns false'. Refute it at one input. -/
def fnExactWatchServedWrong : ChangeSpec := { name := "fnExactWatchServed", fn := fun _ => fun
  | [d1, d2] => { results := [.lit (.bool false)], args := [d1, d2] }
  | _ => none }
def FnExactWatchServedWrongFalsely : Prop := fnExactWatchServedRow.holds Try.pinned (OpenSpec.ofChange fnExactWatchServedWrong)

/-- 'laws.FnWatchOpen': WHATEVER THE INPUT: true; the input reads as it did. -/
def fnWatchOpenSpec : ChangeSpec := { name := "fnWatchOpen", fn := fun _ => fun
  | [d] => { results := [.lit (.bool true)], args := [d] }
  | _ => none }
def fnWatchOpenRow : OpenClaim := { program := "ytnhenfmegpjigaa", sum := "422cdd640f31bf2f78ffc9f68c35ad36cc606b8362e309270404b201e0aa032c", func := "loop.example/messkitchen/laws.FnWatchOpen", spec := "fnWatchOpen", unfollowed := true, recurses := true, apart := false }
def FnWatchOpenSaid : Prop := fnWatchOpenRow.holds Try.pinned (OpenSpec.ofChange fnWatchOpenSpec)

/-- ITS FALSE NEIGHBOUR: 'it returns false'. Refute it at one input. -/
def fnWatchOpenWrong : ChangeSpec := { name := "fnWatchOpen", fn := fun _ => fun
  | [d] => { results := [.lit (.bool false)], args := [d] }
  | _ => none }
def FnWatchOpenWrongFalsely : Prop := fnWatchOpenRow.holds Try.pinned (OpenSpec.ofChange fnWatchOpenWrong)

/-- 'laws.FnExactWatchOpen': WHATEVER THE INPUT: true; the input reads as it did. -/
def fnExactWatchOpenSpec : ChangeSpec := { name := "fnExactWatchOpen", fn := fun _ => fun
  | [d1, d2] => { results := [.lit (.bool true)], args := [d1, d2] }
  | _ => none }
def fnExactWatchOpenRow : OpenClaim := { program := "ytnhenfmegpjigaa", sum := "422cdd640f31bf2f78ffc9f68c35ad36cc606b8362e309270404b201e0aa032c", func := "loop.example/messkitchen/laws.FnExactWatchOpen", spec := "fnExactWatchOpen", unfollowed := true, recurses := true, apart := false }
def FnExactWatchOpenSaid : Prop := fnExactWatchOpenRow.holds Try.pinned (OpenSpec.ofChange fnExactWatchOpenSpec)

/-- ITS FALSE NEIGHBOUR: 'it returns false'. Refute it at one input. -/
def fnExactWatchOpenWrong : ChangeSpec := { name := "fnExactWatchOpen", fn := fun _ => fun
  | [d1, d2] => { results := [.lit (.bool false)], args := [d1, d2] }
  | _ => none }
def FnExactWatchOpenWrongFalsely : Prop := fnExactWatchOpenRow.holds Try.pinned (OpenSpec.ofChange fnExactWatchOpenWrong)

/-- 'laws.FnWatch': WHATEVER THE INPUT: true; the input reads as it did. -/
def fnWatchSpec : ChangeSpec := { name := "fnWatch", fn := fun _ => fun
  | [d] => { results := [.lit (.bool true)], args := [d] }
  | _ => none }
def fnWatchRow : OpenClaim := { program := "ytnhenfmegpjigaa", sum := "422cdd640f31bf2f78ffc9f68c35ad36cc606b8362e309270404b201e0aa032c", func := "loop.example/messkitchen/laws.FnWatch", spec := "fnWatch", unfollowed := true, recurses := true, apart := false }
def FnWatchSaid : Prop := fnWatchRow.holds Try.pinned (OpenSpec.ofChange fnWatchSpec)

/-- ITS FALSE NEIGHBOUR: 'it returns false'. Refute it at one input. -/
def fnWatchWrong : ChangeSpec := { name := "fnWatch", fn := fun _ => fun
  | [d] => { results := [.lit (.bool false)], args := [d] }
  | _ => none }
def FnWatchWrongFalsely : Prop := fnWatchRow.holds Try.pinned (OpenSpec.ofChange fnWatchWrong)

/-- 'laws.FnWatchBegin': WHATEVER THE INPUT: true; the input reads as it did. -/
def fnWatchBeginSpec : ChangeSpec := { name := "fnWatchBegin", fn := fun _ => fun
  | [d1, d2] => { results := [.lit (.bool true)], args := [d1, d2] }
  | _ => none }
def fnWatchBeginRow : OpenClaim := { program := "ytnhenfmegpjigaa", sum := "422cdd640f31bf2f78ffc9f68c35ad36cc606b8362e309270404b201e0aa032c", func := "loop.example/messkitchen/laws.FnWatchBegin", spec := "fnWatchBegin", unfollowed := true, recurses := true, apart := false }
def FnWatchBeginSaid : Prop := fnWatchBeginRow.holds Try.pinned (OpenSpec.ofChange fnWatchBeginSpec)

/-- ITS FALSE NEIGHBOUR: 'it returns false'. Refute it at one input. -/
def fnWatchBeginWrong : ChangeSpec := { name := "fnWatchBegin", fn := fun _ => fun
  | [d1, d2] => { results := [.lit (.bool false)], args := [d1, d2] }
  | _ => none }
def FnWatchBeginWrongFalsely : Prop := fnWatchBeginRow.holds Try.pinned (OpenSpec.ofChange fnWatchBeginWrong)

/-- 'laws.FnWatchDrop': WHATEVER THE INPUT: true; the input reads as it did. -/
def fnWatchDropSpec : ChangeSpec := { name := "fnWatchDrop", fn := fun _ => fun
  | [d1, d2] => { results := [.lit (.bool true)], args := [d1, d2] }
  | _ => none }
def fnWatchDropRow : OpenClaim := { program := "ytnhenfmegpjigaa", sum := "422cdd640f31bf2f78ffc9f68c35ad36cc606b8362e309270404b201e0aa032c", func := "loop.example/messkitchen/laws.FnWatchDrop", spec := "fnWatchDrop", unfollowed := true, recurses := true, apart := false }
def FnWatchDropSaid : Prop := fnWatchDropRow.holds Try.pinned (OpenSpec.ofChange fnWatchDropSpec)

/-- ITS FALSE NEIGHBOUR: 'it returns false'. Refute it at one input. -/
def fnWatchDropWrong : ChangeSpec := { name := "fnWatchDrop", fn := fun _ => fun
  | [d1, d2] => { results := [.lit (.bool false)], args := [d1, d2] }
  | _ => none }
def FnWatchDropWrongFalsely : Prop := fnWatchDropRow.holds Try.pinned (OpenSpec.ofChange fnWatchDropWrong)

/-- 'laws.FnWatchMade': WHATEVER THE INPUT: true; the input reads as it did. -/
def fnWatchMadeSpec : ChangeSpec := { name := "fnWatchMade", fn := fun _ => fun
  | [d] => { results := [.lit (.bool true)], args := [d] }
  | _ => none }
def fnWatchMadeRow : OpenClaim := { program := "ytnhenfmegpjigaa", sum := "422cdd640f31bf2f78ffc9f68c35ad36cc606b8362e309270404b201e0aa032c", func := "loop.example/messkitchen/laws.FnWatchMade", spec := "fnWatchMade", unfollowed := true, recurses := true, apart := false }
def FnWatchMadeSaid : Prop := fnWatchMadeRow.holds Try.pinned (OpenSpec.ofChange fnWatchMadeSpec)

/-- ITS FALSE NEIGHBOUR: 'it returns false'. Refute it at one input. -/
def fnWatchMadeWrong : ChangeSpec := { name := "fnWatchMade", fn := fun _ => fun
  | [d] => { results := [.lit (.bool false)], args := [d] }
  | _ => none }
def FnWatchMadeWrongFalsely : Prop := fnWatchMadeRow.holds Try.pinned (OpenSpec.ofChange fnWatchMadeWrong)

/-- 'laws.FnWatchOpenServed': WHATEVER THE INPUT: true; the input reads as it did. -/
def fnWatchOpenServedSpec : ChangeSpec := { name := "fnWatchOpenServed", fn := fun _ => fun
  | [d] => { results := [.lit (.bool true)], args := [d] }
  | _ => none }
def fnWatchOpenServedRow : OpenClaim := { program := "ytnhenfmegpjigaa", sum := "422cdd640f31bf2f78ffc9f68c35ad36cc606b8362e309270404b201e0aa032c", func := "loop.example/messkitchen/laws.FnWatchOpenServed", spec := "fnWatchOpenServed", unfollowed := true, recurses := true, apart := false }
def FnWatchOpenServedSaid : Prop := fnWatchOpenServedRow.holds Try.pinned (OpenSpec.ofChange fnWatchOpenServedSpec)

/-- ITS FALSE NEIGHBOUR: 'it returns false'. Refute it at one input. -/
def fnWatchOpenServedWrong : ChangeSpec := { name := "fnWatchOpenServed", fn := fun _ => fun
  | [d] => { results := [.lit (.bool false)], args := [d] }
  | _ => none }
def FnWatchOpenServedWrongFalsely : Prop := fnWatchOpenServedRow.holds Try.pinned (OpenSpec.ofChange fnWatchOpenServedWrong)

/-- 'laws.FnExactWatchWrong': WHATEVER THE INPUT: true; the input reads as it did. -/
def fnExactWatchWrongSpec : ChangeSpec := { name := "fnExactWatchWrong", fn := fun _ => fun
  | [d1, d2] => { results := [.lit (.bool true)], args := [d1, d2] }
  | _ => none }
def fnExactWatchWrongRow : OpenClaim := { program := "ytnhenfmegpjigaa", sum := "422cdd640f31bf2f78ffc9f68c35ad36cc606b8362e309270404b201e0aa032c", func := "loop.example/messkitchen/laws.FnExactWatchWrong", spec := "fnExactWatchWrong", unfollowed := true, recurses := true, apart := false }
def FnExactWatchWrongSaid : Prop := fnExactWatchWrongRow.holds Try.pinned (OpenSpec.ofChange fnExactWatchWrongSpec)

/-- ITS FALSE NEIGHBOUR: 'it returns false'. Refute it at one input. -/
def fnExactWatchWrongWrong : ChangeSpec := { name := "fnExactWatchWrong", fn := fun _ => fun
  | [d1, d2] => { results := [.lit (.bool false)], args := [d1, d2] }
  | _ => none }
def FnExactWatchWrongWrongFalsely : Prop := fnExactWatchWrongRow.holds Try.pinned (OpenSpec.ofChange fnExactWatchWrongWrong)

/- THE SECOND FORM. 'bulk': how many values and letters a reading holds, each counted each time it is reached (what is shared counts as often as it is met; a slice's spare places count too). A statement '..UptoSaid' is the law's where the arguments, and the package variables that the reading takes, are together of bulk at most 1048576: NARROWER than '..Said'. Prove '..Said' where nothing that the law and all that it calls make is longer than what came in: it says more and counts as full. Else prove '..UptoSaid'. A law counts once. -/
mutual
def uptoBulk {H : Type} : DataW H → Nat
  | .lit (.string bytes) => bytes.length + 1
  | .lit _ => 1
  | .nil => 1
  | .ptr d => uptoBulk d + 1
  | .slice elems spare => uptoBulkAll elems + uptoBulkAll spare + 1
  | .agg parts => uptoBulkAll parts + 1
  | .iface _ d => uptoBulk d + 1
  | .map entries => uptoBulkEntries entries + 1
  | .held _ => 1
def uptoBulkAll {H : Type} : List (DataW H) → Nat
  | [] => 0
  | d :: r => uptoBulk d + uptoBulkAll r
def uptoBulkEntries {H : Type} : List (Lit × DataW H) → Nat
  | [] => 0
  | x :: r => uptoBulkEntry x + uptoBulkEntries r
def uptoBulkEntry {H : Type} : Lit × DataW H → Nat
  | (.string bytes, d) => bytes.length + uptoBulk d + 1
  | (_, d) => uptoBulk d + 1
 end
def uptoSmall : (H : Type) → List (DataW H) → Bool := fun _ ds => decide (uptoBulkAll ds ≤ 1048576)
def OpenSpec.upto (s : _root_.Go.ChangeSpec) : _root_.Go.OpenSpec := { _root_.Go.OpenSpec.ofChange s with cond := some uptoSmall }

/-- 'laws.FnEventsPart', WHERE WHAT IT READS IS OF BULK AT MOST 1048576: true; the input reads as it did. -/
def fnEventsPartUptoRow : OpenClaim := { program := "ytnhenfmegpjigaa", sum := "422cdd640f31bf2f78ffc9f68c35ad36cc606b8362e309270404b201e0aa032c", func := "loop.example/messkitchen/laws.FnEventsPart", spec := "fnEventsPart", apart := false, narrowed := true }
def FnEventsPartUptoSaid : Prop := fnEventsPartUptoRow.holds Try.pinned (OpenSpec.upto fnEventsPartSpec)

/-- 'laws.FnExactEventsValid', WHERE WHAT IT READS IS OF BULK AT MOST 1048576: true; the input reads as it did. -/
def fnExactEventsValidUptoRow : OpenClaim := { program := "ytnhenfmegpjigaa", sum := "422cdd640f31bf2f78ffc9f68c35ad36cc606b8362e309270404b201e0aa032c", func := "loop.example/messkitchen/laws.FnExactEventsValid", spec := "fnExactEventsValid", apart := false, narrowed := true }
def FnExactEventsValidUptoSaid : Prop := fnExactEventsValidUptoRow.holds Try.pinned (OpenSpec.upto fnExactEventsValidSpec)

/-- 'laws.FnWatchServed', WHERE WHAT IT READS IS OF BULK AT MOST 1048576: true; the input reads as it did. -/
def fnWatchServedUptoRow : OpenClaim := { program := "ytnhenfmegpjigaa", sum := "422cdd640f31bf2f78ffc9f68c35ad36cc606b8362e309270404b201e0aa032c", func := "loop.example/messkitchen/laws.FnWatchServed", spec := "fnWatchServed", apart := false, narrowed := true }
def FnWatchServedUptoSaid : Prop := fnWatchServedUptoRow.holds Try.pinned (OpenSpec.upto fnWatchServedSpec)

/-- 'laws.FnExactWatchServed', WHERE WHAT IT READS IS OF BULK AT MOST 1048576: true; the input reads as it did. -/
def fnExactWatchServedUptoRow : OpenClaim := { program := "ytnhenfmegpjigaa", sum := "422cdd640f31bf2f78ffc9f68c35ad36cc606b8362e309270404b201e0aa032c", func := "loop.example/messkitchen/laws.FnExactWatchServed", spec := "fnExactWatchServed", apart := false, narrowed := true }
def FnExactWatchServedUptoSaid : Prop := fnExactWatchServedUptoRow.holds Try.pinned (OpenSpec.upto fnExactWatchServedSpec)

/-- 'laws.FnWatchOpen', WHERE WHAT IT READS IS OF BULK AT MOST 1048576: true; the input reads as it did. -/
def fnWatchOpenUptoRow : OpenClaim := { program := "ytnhenfmegpjigaa", sum := "422cdd640f31bf2f78ffc9f68c35ad36cc606b8362e309270404b201e0aa032c", func := "loop.example/messkitchen/laws.FnWatchOpen", spec := "fnWatchOpen", unfollowed := true, recurses := true, apart := false, narrowed := true }
def FnWatchOpenUptoSaid : Prop := fnWatchOpenUptoRow.holds Try.pinned (OpenSpec.upto fnWatchOpenSpec)

/-- 'laws.FnExactWatchOpen', WHERE WHAT IT READS IS OF BULK AT MOST 1048576: true; the input reads as it did. -/
def fnExactWatchOpenUptoRow : OpenClaim := { program := "ytnhenfmegpjigaa", sum := "422cdd640f31bf2f78ffc9f68c35ad36cc606b8362e309270404b201e0aa032c", func := "loop.example/messkitchen/laws.FnExactWatchOpen", spec := "fnExactWatchOpen", unfollowed := true, recurses := true, apart := false, narrowed := true }
def FnExactWatchOpenUptoSaid : Prop := fnExactWatchOpenUptoRow.holds Try.pinned (OpenSpec.upto fnExactWatchOpenSpec)

/-- 'laws.FnWatch', WHERE WHAT IT READS IS OF BULK AT MOST 1048576: true; the input reads as it did. -/
def fnWatchUptoRow : OpenClaim := { program := "ytnhenfmegpjigaa", sum := "422cdd640f31bf2f78ffc9f68c35ad36cc606b8362e309270404b201e0aa032c", func := "loop.example/messkitchen/laws.FnWatch", spec := "fnWatch", unfollowed := true, recurses := true, apart := false, narrowed := true }
def FnWatchUptoSaid : Prop := fnWatchUptoRow.holds Try.pinned (OpenSpec.upto fnWatchSpec)

/-- 'laws.FnWatchBegin', WHERE WHAT IT READS IS OF BULK AT MOST 1048576: true; the input reads as it did. -/
def fnWatchBeginUptoRow : OpenClaim := { program := "ytnhenfmegpjigaa", sum := "422cdd640f31bf2f78ffc9f68c35ad36cc606b8362e309270404b201e0aa032c", func := "loop.example/messkitchen/laws.FnWatchBegin", spec := "fnWatchBegin", unfollowed := true, recurses := true, apart := false, narrowed := true }
def FnWatchBeginUptoSaid : Prop := fnWatchBeginUptoRow.holds Try.pinned (OpenSpec.upto fnWatchBeginSpec)

/-- 'laws.FnWatchDrop', WHERE WHAT IT READS IS OF BULK AT MOST 1048576: true; the input reads as it did. -/
def fnWatchDropUptoRow : OpenClaim := { program := "ytnhenfmegpjigaa", sum := "422cdd640f31bf2f78ffc9f68c35ad36cc606b8362e309270404b201e0aa032c", func := "loop.example/messkitchen/laws.FnWatchDrop", spec := "fnWatchDrop", unfollowed := true, recurses := true, apart := false, narrowed := true }
def FnWatchDropUptoSaid : Prop := fnWatchDropUptoRow.holds Try.pinned (OpenSpec.upto fnWatchDropSpec)

/-- 'laws.FnWatchMade', WHERE WHAT IT READS IS OF BULK AT MOST 1048576: true; the input reads as it did. -/
def fnWatchMadeUptoRow : OpenClaim := { program := "ytnhenfmegpjigaa", sum := "422cdd640f31bf2f78ffc9f68c35ad36cc606b8362e309270404b201e0aa032c", func := "loop.example/messkitchen/laws.FnWatchMade", spec := "fnWatchMade", unfollowed := true, recurses := true, apart := false, narrowed := true }
def FnWatchMadeUptoSaid : Prop := fnWatchMadeUptoRow.holds Try.pinned (OpenSpec.upto fnWatchMadeSpec)

/-- 'laws.FnWatchOpenServed', WHERE WHAT IT READS IS OF BULK AT MOST 1048576: true; the input reads as it did. -/
def fnWatchOpenServedUptoRow : OpenClaim := { program := "ytnhenfmegpjigaa", sum := "422cdd640f31bf2f78ffc9f68c35ad36cc606b8362e309270404b201e0aa032c", func := "loop.example/messkitchen/laws.FnWatchOpenServed", spec := "fnWatchOpenServed", unfollowed := true, recurses := true, apart := false, narrowed := true }
def FnWatchOpenServedUptoSaid : Prop := fnWatchOpenServedUptoRow.holds Try.pinned (OpenSpec.upto fnWatchOpenServedSpec)

/-- 'laws.FnExactWatchWrong', WHERE WHAT IT READS IS OF BULK AT MOST 1048576: true; the input reads as it did. -/
def fnExactWatchWrongUptoRow : OpenClaim := { program := "ytnhenfmegpjigaa", sum := "422cdd640f31bf2f78ffc9f68c35ad36cc606b8362e309270404b201e0aa032c", func := "loop.example/messkitchen/laws.FnExactWatchWrong", spec := "fnExactWatchWrong", unfollowed := true, recurses := true, apart := false, narrowed := true }
def FnExactWatchWrongUptoSaid : Prop := fnExactWatchWrongUptoRow.holds Try.pinned (OpenSpec.upto fnExactWatchWrongSpec)

end Rows
end Go.Proofs.Ytnhenfmegpjigaa
