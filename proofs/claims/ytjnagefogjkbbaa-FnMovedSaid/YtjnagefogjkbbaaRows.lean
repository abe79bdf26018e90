/-
  No cell of these rows narrows 'for every input' (looked for: loops, veiled, ifaces, maps, wideKeys, modest, calm, conditions, laid).
  DERIVED. THE GIVEN ROWS OF THIS SEAT. 4 by the template 'for every input the law returns true; each argument reads behind the call as it read before'; 0 by the template 'total and deterministic' (their statements: YtjnagefogjkbbaaTotals.lean).
  GIVEN WITH THE SEED: the statements are not yours to turn. If you find one false, say at which input.
  Laid BY PROGRAM, IN A SANDBOX (cutbox-rows.mjs): the forced cells as the released guide's own fill.sh prints them over the translation 0bcec2a0324d9fae… (all of the seat's roots in one cut). By AI agents, Wed Nov 11 2026. No macro, syntax, notation, axiom, sorry.
-/
import Derived.Test.YtjnagefogjkbbaaChecked
import GoSem.Claim
import GoSem.ClaimJoined
import GoSem.ClaimMapViews
import Derived.JoinedTies
import Derived.KernelRfl
namespace Go.Proofs.Ytjnagefogjkbbaa
/- THE CELL 'sum', in the pinned program and in every row, IS THE sha256 OF THE DUMP (.gsa) THAT YtjnagefogjkbbaaProg.lean LOADS. Nothing in Lean hashes anything: it is a label: what it is worth is what the hold of that sum in a sandbox is worth. -/
noncomputable def Try.pinned : Pinned := { name := "ytjnagefogjkbbaa", sum := "0bcec2a0324d9fae4cef30bd4b6c9038d79497d3282c6fc88c7c3a8879ebcf09", checked := Try.checked }
namespace Rows
def none {H : Type} : Left H := { results := [], args := [] }

/-- 'laws.FnExactPlanDelay': WHATEVER THE INPUT: true; the input reads as it did. -/
def fnExactPlanDelaySpec : ChangeSpec := { name := "fnExactPlanDelay", fn := fun _ => fun
  | [d1, d2] => { results := [.lit (.bool true)], args := [d1, d2] }
  | _ => none }
def fnExactPlanDelayRow : OpenClaim := { program := "ytjnagefogjkbbaa", sum := "0bcec2a0324d9fae4cef30bd4b6c9038d79497d3282c6fc88c7c3a8879ebcf09", func := "loop.example/messkitchen/laws.FnExactPlanDelay", spec := "fnExactPlanDelay", apart := false }
def FnExactPlanDelaySaid : Prop := fnExactPlanDelayRow.holds Try.pinned (OpenSpec.ofChange fnExactPlanDelaySpec)

/-- ITS FALSE NEIGHBOUR: 'it returns false'. Refute it at one input. -/
def fnExactPlanDelayWrong : ChangeSpec := { name := "fnExactPlanDelay", fn := fun _ => fun
  | [d1, d2] => { results := [.lit (.bool false)], args := [d1, d2] }
  | _ => none }
def FnExactPlanDelayWrongFalsely : Prop := fnExactPlanDelayRow.holds Try.pinned (OpenSpec.ofChange fnExactPlanDelayWrong)

/-- 'laws.FnExactPlanMoved': WHATEVER THE INPUT: true; the input reads as it did. -/
def fnExactPlanMovedSpec : ChangeSpec := { name := "fnExactPlanMoved", fn := fun _ => fun
  | [d1, d2] => { results := [.lit (.bool true)], args := [d1, d2] }
  | _ => none }
def fnExactPlanMovedRow : OpenClaim := { program := "ytjnagefogjkbbaa", sum := "0bcec2a0324d9fae4cef30bd4b6c9038d79497d3282c6fc88c7c3a8879ebcf09", func := "loop.example/messkitchen/laws.FnExactPlanMoved", spec := "fnExactPlanMoved", apart := false }
def FnExactPlanMovedSaid : Prop := fnExactPlanMovedRow.holds Try.pinned (OpenSpec.ofChange fnExactPlanMovedSpec)

/-- ITS FALSE NEIGHBOUR: 'it returns false'. Refute it at one input. -/
def fnExactPlanMovedWrong : ChangeSpec := { name := "fnExactPlanMoved", fn := fun _ => fun
  | [d1, d2] => { results := [.lit (.bool false)], args := [d1, d2] }
  | _ => none }
def FnExactPlanMovedWrongFalsely : Prop := fnExactPlanMovedRow.holds Try.pinned (OpenSpec.ofChange fnExactPlanMovedWrong)

/-- 'laws.FnDelay': WHATEVER THE INPUT: true; the input reads as it did. -/
def fnDelaySpec : ChangeSpec := { name := "fnDelay", fn := fun _ => fun
  | [d] => { results := [.lit (.bool true)], args := [d] }
  | _ => none }
def fnDelayRow : OpenClaim := { program := "ytjnagefogjkbbaa", sum := "0bcec2a0324d9fae4cef30bd4b6c9038d79497d3282c6fc88c7c3a8879ebcf09", func := "loop.example/messkitchen/laws.FnDelay", spec := "fnDelay", apart := false }
def FnDelaySaid : Prop := fnDelayRow.holds Try.pinned (OpenSpec.ofChange fnDelaySpec)

/-- ITS FALSE NEIGHBOUR: 'it returns false'. Refute it at one input. -/
def fnDelayWrong : ChangeSpec := { name := "fnDelay", fn := fun _ => fun
  | [d] => { results := [.lit (.bool false)], args := [d] }
  | _ => none }
def FnDelayWrongFalsely : Prop := fnDelayRow.holds Try.pinned (OpenSpec.ofChange fnDelayWrong)

/-- 'laws.FnMoved': WHATEVER THE INPUT: true; the input reads as it did. -/
def fnMovedSpec : ChangeSpec := { name := "fnMoved", fn := fun _ => fun
  | [d] => { results := [.lit (.bool true)], args := [d] }
  | _ => none }
def fnMovedRow : OpenClaim := { program := "ytjnagefogjkbbaa", sum := "0bcec2a0324d9fae4cef30bd4b6c9038d79497d3282c6fc88c7c3a8879ebcf09", func := "loop.example/messkitchen/laws.FnMoved", spec := "fnMoved", apart := false }
def FnMovedSaid : Prop := fnMovedRow.holds Try.pinned (OpenSpec.ofChange fnMovedSpec)

/-- ITS FALSE NEIGHBOUR: 'it returns false'. Refute it at one input. -/
def fnMovedWrong : ChangeSpec := { name := "fnMoved", fn := fun _ => fun
  | [d] => { results := [.lit (.bool false)], args := [d] }
  | _ => none }
def FnMovedWrongFalsely : Prop := fnMovedRow.holds Try.pinned (OpenSpec.ofChange fnMovedWrong)

/- THE SECOND FORM. 'bulk': how many values and letters a reading holds, each counted each time it is reached (what is shared counts as often as it is met; a slice's spare places count too). A statement '..UptoSaid' is the law's where the arguments, and the package variables that the reading takes, are together of bulk at most 1048576: NARROWER than '..Said'. Prove '..Said' where nothing that the law and all that it calls make is longer than what came in: it says more and counts as full. Else prove '..UptoSaid'. A law counts once. -/
mutual
def uptoBulk {H : Type} : DataW H → Nat
  | .lit (.string bytes) => bytes.length + 1
  | .lit _ => 1
  | .nil => 1
  | .ptr d => uptoBulk d + 1
  | .slice elems spare => uptoBulkAll elems + uptoBulkAll spare + 1
  | .agg parts => uptoBulkAll parts + 1
  | .iface _ d => uptoBulk d + 1
  | .map entries => uptoBulkEntries entries + 1
  | .held _ => 1
def uptoBulkAll {H : Type} : List (DataW H) → Nat
  | [] => 0
  | d :: r => uptoBulk d + uptoBulkAll r
def uptoBulkEntries {H : Type} : List (Lit × DataW H) → Nat
  | [] => 0
  | x :: r => uptoBulkEntry x + uptoBulkEntries r
def uptoBulkEntry {H : Type} : Lit × DataW H → Nat
  | (.string bytes, d) => bytes.length + uptoBulk d + 1
  | (_, d) => uptoBulk d + 1
 end
def uptoSmall : (H : Type) → List (DataW H) → Bool := fun _ ds => decide (uptoBulkAll ds ≤ 1048576)
def OpenSpec.upto (s : _root_.Go.ChangeSpec) : _root_.Go.OpenSpec := { _root_.Go.OpenSpec.ofChange s with cond := some uptoSmall }

/-- 'laws.FnExactPlanDelay', WHERE WHAT IT READS IS OF BULK AT MOST 1048576: true; the input reads as it did. -/
def fnExactPlanDelayUptoRow : OpenClaim := { program := "ytjnagefogjkbbaa", sum := "0bcec2a0324d9fae4cef30bd4b6c9038d79497d3282c6fc88c7c3a8879ebcf09", func := "loop.example/messkitchen/laws.FnExactPlanDelay", spec := "fnExactPlanDelay", apart := false, narrowed := true }
def FnExactPlanDelayUptoSaid : Prop := fnExactPlanDelayUptoRow.holds Try.pinned (OpenSpec.upto fnExactPlanDelaySpec)

/-- 'laws.FnExactPlanMoved', WHERE WHAT IT READS IS OF BULK AT MOST 1048576: true; the input reads as it did. -/
def fnExactPlanMovedUptoRow : OpenClaim := { program := "ytjnagefogjkbbaa", sum := "0bcec2a0324d9fae4cef30bd4b6c9038d79497d3282c6fc88c7c3a8879ebcf09", func := "loop.example/messkitchen/laws.FnExactPlanMoved", spec := "fnExactPlanMoved", apart := false, narrowed := true }
def FnExactPlanMovedUptoSaid : Prop := fnExactPlanMovedUptoRow.holds Try.pinned (OpenSpec.upto fnExactPlanMovedSpec)

/-- 'laws.FnDelay', WHERE WHAT IT READS IS OF BULK AT MOST 1048576: true; the input reads as it did. -/
def fnDelayUptoRow : OpenClaim := { program := "ytjnagefogjkbbaa", sum := "0bcec2a0324d9fae4cef30bd4b6c9038d79497d3282c6fc88c7c3a8879ebcf09", func := "loop.example/messkitchen/laws.FnDelay", spec := "fnDelay", apart := false, narrowed := true }
def FnDelayUptoSaid : Prop := fnDelayUptoRow.holds Try.pinned (OpenSpec.upto fnDelaySpec)

/-- 'laws.FnMoved', WHERE WHAT IT READS IS OF BULK AT MOST 1048576: true; the input reads as it did. -/
def fnMovedUptoRow : OpenClaim := { program := "ytjnagefogjkbbaa", sum := "0bcec2a0324d9fae4cef30bd4b6c9038d79497d3282c6fc88c7c3a8879ebcf09", func := "loop.example/messkitchen/laws.FnMoved", spec := "fnMoved", apart := false, narrowed := true }
def FnMovedUptoSaid : Prop := fnMovedUptoRow.holds Try.pinned (OpenSpec.upto fnMovedSpec)

end Rows
end Go.Proofs.Ytjnagefogjkbbaa
