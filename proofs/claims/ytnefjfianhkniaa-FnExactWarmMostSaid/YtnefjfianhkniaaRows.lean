/-
  No cell of these rows narrows 'for every input' (looked for: loops, veiled, ifaces, maps, wideKeys, modest, calm, conditions, laid).
  DERIVED. THE GIVEN ROWS OF THIS SEAT. 11 by the template 'for every input the law returns true; each argument reads behind the call as it read before'; 0 by the template 'total and deterministic' (their statements: YtnefjfianhkniaaTotals.lean).
  GIVEN WITH THE SEED: the statements are not yours to turn. If you find one false, say at which input.
  Laid BY PROGRAM, IN A SANDBOX (cutbox-rows.mjs): the forced cells as the released guide's own fill.sh prints them over the translation d602c9c0aee1210e… (all of the seat's roots in one cut). By AI agents, Wed Nov 11 2026. No macro, syntax, notation, axiom, sorry.
-/
import Derived.Test.YtnefjfianhkniaaChecked
import GoSem.Claim
import GoSem.ClaimJoined
import GoSem.ClaimMapViews
import Derived.JoinedTies
import Derived.KernelRfl
namespace Go.Proofs.Ytnefjfianhkniaa
/- THE CELL 'sum', in the pinned program and in every row, IS THE sha256 OF THE DUMP (.gsa) THAT YtnefjfianhkniaaProg.lean LOADS. Nothing in Lean hashes anything: it is a label: what it is worth is what the hold of that sum in a sandbox is worth. -/
noncomputable def Try.pinned : Pinned := { name := "ytnefjfianhkniaa", sum := "d602c9c0aee1210e56690d02fc94b3b4233ee8e26357d5c1a4d54938bae56a0d", checked := Try.checked }
namespace Rows
def none {H : Type} : Left H := { results := [], args := [] }

/-- 'laws.FnExactReadingsValid': WHATEVER THE INPUT: true; the input reads as it did. -/
def fnExactReadingsValidSpec : ChangeSpec := { name := "fnExactReadingsValid", fn := fun _ => fun
  | [d] => { results := [.lit (.bool true)], args := [d] }
  | _ => none }
def fnExactReadingsValidRow : OpenClaim := { program := "ytnefjfianhkniaa", sum := "d602c9c0aee1210e56690d02fc94b3b4233ee8e26357d5c1a4d54938bae56a0d", func := "loop.example/messkitchen/laws.FnExactReadingsValid", spec := "fnExactReadingsValid", apart := false }
def FnExactReadingsValidSaid : Prop := fnExactReadingsValidRow.holds Try.pinned (OpenSpec.ofChange fnExactReadingsValidSpec)

/-- ITS FALSE NEIGHBOUR: 'it returns false'. Refute it at one input. -/
def fnExactReadingsValidWrong : ChangeSpec := { name := "fnExactReadingsValid", fn := fun _ => fun
  | [d] => { results := [.lit (.bool false)], args := [d] }
  | _ => none }
def FnExactReadingsValidWrongFalsely : Prop := fnExactReadingsValidRow.holds Try.pinned (OpenSpec.ofChange fnExactReadingsValidWrong)

/-- 'laws.FnWarmMost': WHATEVER THE INPUT: true; the input reads as it did. -/
def fnWarmMostSpec : ChangeSpec := { name := "fnWarmMost", fn := fun _ => fun
  | [d] => { results := [.lit (.bool true)], args := [d] }
  | _ => none }
def fnWarmMostRow : OpenClaim := { program := "ytnefjfianhkniaa", sum := "d602c9c0aee1210e56690d02fc94b3b4233ee8e26357d5c1a4d54938bae56a0d", func := "loop.example/messkitchen/laws.FnWarmMost", spec := "fnWarmMost", apart := false }
def FnWarmMostSaid : Prop := fnWarmMostRow.holds Try.pinned (OpenSpec.ofChange fnWarmMostSpec)

/-- ITS FALSE NEIGHBOUR: 'it returns false'. Refute it at one input. -/
def fnWarmMostWrong : ChangeSpec := { name := "fnWarmMost", fn := fun _ => fun
  | [d] => { results := [.lit (.bool false)], args := [d] }
  | _ => none }
def FnWarmMostWrongFalsely : Prop := fnWarmMostRow.holds Try.pinned (OpenSpec.ofChange fnWarmMostWrong)

/-- 'laws.FnExactWarmMost': WHATEVER THE INPUT: true; the input reads as it did. -/
def fnExactWarmMostSpec : ChangeSpec := { name := "fnExactWarmMost", fn := fun _ => fun
  | [d] => { results := [.lit (.bool true)], args := [d] }
  | _ => none }
def fnExactWarmMostRow : OpenClaim := { program := "ytnefjfianhkniaa", sum := "d602c9c0aee1210e56690d02fc94b3b4233ee8e26357d5c1a4d54938bae56a0d", func := "loop.example/messkitchen/laws.FnExactWarmMost", spec := "fnExactWarmMost", apart := false }
def FnExactWarmMostSaid : Prop := fnExactWarmMostRow.holds Try.pinned (OpenSpec.ofChange fnExactWarmMostSpec)

/-- ITS FALSE NEIGHBOUR: 'it returns false'. Refute it at one input. -/
def fnExactWarmMostWrong : ChangeSpec := { name := "fnExactWarmMost", fn := fun _ => fun
  | [d] => { results := [.lit (.bool false)], args := [d] }
  | _ => none }
def FnExactWarmMostWrongFalsely : Prop := fnExactWarmMostRow.holds Try.pinned (OpenSpec.ofChange fnExactWarmMostWrong)

/-- 'laws.FnWarmMostCold': WHATEVER THE INPUT: true; the input reads as it did. -/
def fnWarmMostColdSpec : ChangeSpec := { name := "fnWarmMostCold", fn := fun _ => fun
  | [d] => { results := [.lit (.bool true)], args := [d] }
  | _ => none }
def fnWarmMostColdRow : OpenClaim := { program := "ytnefjfianhkniaa", sum := "d602c9c0aee1210e56690d02fc94b3b4233ee8e26357d5c1a4d54938bae56a0d", func := "loop.example/messkitchen/laws.FnWarmMostCold", spec := "fnWarmMostCold", apart := false }
def FnWarmMostColdSaid : Prop := fnWarmMostColdRow.holds Try.pinned (OpenSpec.ofChange fnWarmMostColdSpec)

/-- ITS FALSE NEIGHBOUR: 'it returns false'. Refute it at one input. -/
def fnWarmMostColdWrong : ChangeSpec := { name := "fnWarmMostCold", fn := fun _ => fun
  | [d] => { results := [.lit (.bool false)], args := [d] }
  | _ => none }
def FnWarmMostColdWrongFalsely : Prop := fnWarmMostColdRow.holds Try.pinned (OpenSpec.ofChange fnWarmMostColdWrong)

/-- 'laws.FnExactWarmMinutes': WHATEVER THE INPUT: true; the input reads as it did. -/
def fnExactWarmMinutesSpec : ChangeSpec := { name := "fnExactWarmMinutes", fn := fun _ => fun
  | [d1, d2] => { results := [.lit (.bool true)], args := [d1, d2] }
  | _ => none }
def fnExactWarmMinutesRow : OpenClaim := { program := "ytnefjfianhkniaa", sum := "d602c9c0aee1210e56690d02fc94b3b4233ee8e26357d5c1a4d54938bae56a0d", func := "loop.example/messkitchen/laws.FnExactWarmMinutes", spec := "fnExactWarmMinutes", apart := false }
def FnExactWarmMinutesSaid : Prop := fnExactWarmMinutesRow.holds Try.pinned (OpenSpec.ofChange fnExactWarmMinutesSpec)

/-- ITS FALSE NEIGHBOUR: 'it returns false'. Refute it at one input. -/
def fnExactWarmMinutesWrong : ChangeSpec := { name := "fnExactWarmMinutes", fn := fun _ => fun
  | [d1, d2] => { results := [.lit (.bool false)], args := [d1, d2] }
  | _ => none }
def FnExactWarmMinutesWrongFalsely : Prop := fnExactWarmMinutesRow.holds Try.pinned (OpenSpec.ofChange fnExactWarmMinutesWrong)

/-- 'laws.FnWarm': WHATEVER THE INPUT: true; the input reads as it did. -/
def fnWarmSpec : ChangeSpec := { name := "fnWarm", fn := fun _ => fun
  | [d] => { results := [.lit (.bool true)], args := [d] }
  | _ => none }
def fnWarmRow : OpenClaim := { program := "ytnefjfianhkniaa", sum := "d602c9c0aee1210e56690d02fc94b3b4233ee8e26357d5c1a4d54938bae56a0d", func := "loop.example/messkitchen/laws.FnWarm", spec := "fnWarm", apart := false }
def FnWarmSaid : Prop := fnWarmRow.holds Try.pinned (OpenSpec.ofChange fnWarmSpec)

/-- ITS FALSE NEIGHBOUR: 'it returns false'. Refute it at one input. -/
def fnWarmWrong : ChangeSpec := { name := "fnWarm", fn := fun _ => fun
  | [d] => { results := [.lit (.bool false)], args := [d] }
  | _ => none }
def FnWarmWrongFalsely : Prop := fnWarmRow.holds Try.pinned (OpenSpec.ofChange fnWarmWrong)

/-- 'laws.FnWarmColder': WHATEVER THE INPUT: true; the input reads as it did. -/
def fnWarmColderSpec : ChangeSpec := { name := "fnWarmColder", fn := fun _ => fun
  | [d1, d2] => { results := [.lit (.bool true)], args := [d1, d2] }
  | _ => none }
def fnWarmColderRow : OpenClaim := { program := "ytnefjfianhkniaa", sum := "d602c9c0aee1210e56690d02fc94b3b4233ee8e26357d5c1a4d54938bae56a0d", func := "loop.example/messkitchen/laws.FnWarmColder", spec := "fnWarmColder", apart := false }
def FnWarmColderSaid : Prop := fnWarmColderRow.holds Try.pinned (OpenSpec.ofChange fnWarmColderSpec)

/-- ITS FALSE NEIGHBOUR: 'it returns false'. Refute it at one input. -/
def fnWarmColderWrong : ChangeSpec := { name := "fnWarmColder", fn := fun _ => fun
  | [d1, d2] => { results := [.lit (.bool false)], args := [d1, d2] }
  | _ => none }
def FnWarmColderWrongFalsely : Prop := fnWarmColderRow.holds Try.pinned (OpenSpec.ofChange fnWarmColderWrong)

/-- 'laws.FnWarmMore': WHATEVER THE INPUT: true; the input reads as it did. -/
def fnWarmMoreSpec : ChangeSpec := { name := "fnWarmMore", fn := fun _ => fun
  | [d] => { results := [.lit (.bool true)], args := [d] }
  | _ => none }
def fnWarmMoreRow : OpenClaim := { program := "ytnefjfianhkniaa", sum := "d602c9c0aee1210e56690d02fc94b3b4233ee8e26357d5c1a4d54938bae56a0d", func := "loop.example/messkitchen/laws.FnWarmMore", spec := "fnWarmMore", apart := false }
def FnWarmMoreSaid : Prop := fnWarmMoreRow.holds Try.pinned (OpenSpec.ofChange fnWarmMoreSpec)

/-- ITS FALSE NEIGHBOUR: 'it returns false'. Refute it at one input. -/
def fnWarmMoreWrong : ChangeSpec := { name := "fnWarmMore", fn := fun _ => fun
  | [d] => { results := [.lit (.bool false)], args := [d] }
  | _ => none }
def FnWarmMoreWrongFalsely : Prop := fnWarmMoreRow.holds Try.pinned (OpenSpec.ofChange fnWarmMoreWrong)

/-- 'laws.FnExactWarmUntil': WHATEVER THE INPUT: true; the input reads as it did. -/
def fnExactWarmUntilSpec : ChangeSpec := { name := "fnExactWarmUntil", fn := fun _ => fun
  | [d1, d2] => { results := [.lit (.bool true)], args := [d1, d2] }
  | _ => none }
def fnExactWarmUntilRow : OpenClaim := { program := "ytnefjfianhkniaa", sum := "d602c9c0aee1210e56690d02fc94b3b4233ee8e26357d5c1a4d54938bae56a0d", func := "loop.example/messkitchen/laws.FnExactWarmUntil", spec := "fnExactWarmUntil", apart := false }
def FnExactWarmUntilSaid : Prop := fnExactWarmUntilRow.holds Try.pinned (OpenSpec.ofChange fnExactWarmUntilSpec)

/-- ITS FALSE NEIGHBOUR: 'it returns false'. Refute it at one input. -/
def fnExactWarmUntilWrong : ChangeSpec := { name := "fnExactWarmUntil", fn := fun _ => fun
  | [d1, d2] => { results := [.lit (.bool false)], args := [d1, d2] }
  | _ => none }
def FnExactWarmUntilWrongFalsely : Prop := fnExactWarmUntilRow.holds Try.pinned (OpenSpec.ofChange fnExactWarmUntilWrong)

/-- 'laws.FnWarmUntil': WHATEVER THE INPUT: true; the input reads as it did. -/
def fnWarmUntilSpec : ChangeSpec := { name := "fnWarmUntil", fn := fun _ => fun
  | [d] => { results := [.lit (.bool true)], args := [d] }
  | _ => none }
def fnWarmUntilRow : OpenClaim := { program := "ytnefjfianhkniaa", sum := "d602c9c0aee1210e56690d02fc94b3b4233ee8e26357d5c1a4d54938bae56a0d", func := "loop.example/messkitchen/laws.FnWarmUntil", spec := "fnWarmUntil", apart := false }
def FnWarmUntilSaid : Prop := fnWarmUntilRow.holds Try.pinned (OpenSpec.ofChange fnWarmUntilSpec)

/-- ITS FALSE NEIGHBOUR: 'it returns false'. Refute it at one input. -/
def fnWarmUntilWrong : ChangeSpec := { name := "fnWarmUntil", fn := fun _ => fun
  | [d] => { results := [.lit (.bool false)], args := [d] }
  | _ => none }
def FnWarmUntilWrongFalsely : Prop := fnWarmUntilRow.holds Try.pinned (OpenSpec.ofChange fnWarmUntilWrong)

/-- 'laws.FnWarmUntilNone': WHATEVER THE INPUT: true; the input reads as it did. -/
def fnWarmUntilNoneSpec : ChangeSpec := { name := "fnWarmUntilNone", fn := fun _ => fun
  | [d] => { results := [.lit (.bool true)], args := [d] }
  | _ => none }
def fnWarmUntilNoneRow : OpenClaim := { program := "ytnefjfianhkniaa", sum := "d602c9c0aee1210e56690d02fc94b3b4233ee8e26357d5c1a4d54938bae56a0d", func := "loop.example/messkitchen/laws.FnWarmUntilNone", spec := "fnWarmUntilNone", apart := false }
def FnWarmUntilNoneSaid : Prop := fnWarmUntilNoneRow.holds Try.pinned (OpenSpec.ofChange fnWarmUntilNoneSpec)

/-- ITS FALSE NEIGHBOUR: 'it returns false'. Refute it at one input. -/
def fnWarmUntilNoneWrong : ChangeSpec := { name := "fnWarmUntilNone", fn := fun _ => fun
  | [d] => { results := [.lit (.bool false)], args := [d] }
  | _ => none }
def FnWarmUntilNoneWrongFalsely : Prop := fnWarmUntilNoneRow.holds Try.pinned (OpenSpec.ofChange fnWarmUntilNoneWrong)

/- THE SECOND FORM. 'bulk': how many values and letters a reading holds, each counted each time it is reached (what is shared counts as often as it is met; a slice's spare places count too). A statement '..UptoSaid' is the law's where the arguments, and the package variables that the reading takes, are together of bulk at most 1048576: NARROWER than '..Said'. Prove '..Said' where nothing that the law and all that it calls make is longer than what came in: it says more and counts as full. Else prove '..UptoSaid'. A law counts once. -/
mutual
def uptoBulk {H : Type} : DataW H → Nat
  | .lit (.string bytes) => bytes.length + 1
  | .lit _ => 1
  | .nil => 1
  | .ptr d => uptoBulk d + 1
  | .slice elems spare => uptoBulkAll elems + uptoBulkAll spare + 1
  | .agg parts => uptoBulkAll parts + 1
  | .iface _ d => uptoBulk d + 1
  | .map entries => uptoBulkEntries entries + 1
  | .held _ => 1
def uptoBulkAll {H : Type} : List (DataW H) → Nat
  | [] => 0
  | d :: r => uptoBulk d + uptoBulkAll r
def uptoBulkEntries {H : Type} : List (Lit × DataW H) → Nat
  | [] => 0
  | x :: r => uptoBulkEntry x + uptoBulkEntries r
def uptoBulkEntry {H : Type} : Lit × DataW H → Nat
  | (.string bytes, d) => bytes.length + uptoBulk d + 1
  | (_, d) => uptoBulk d + 1
 end
def uptoSmall : (H : Type) → List (DataW H) → Bool := fun _ ds => decide (uptoBulkAll ds ≤ 1048576)
def OpenSpec.upto (s : _root_.Go.ChangeSpec) : _root_.Go.OpenSpec := { _root_.Go.OpenSpec.ofChange s with cond := some uptoSmall }

/-- 'laws.FnExactReadingsValid', WHERE WHAT IT READS IS OF BULK AT MOST 1048576: true; the input reads as it did. -/
def fnExactReadingsValidUptoRow : OpenClaim := { program := "ytnefjfianhkniaa", sum := "d602c9c0aee1210e56690d02fc94b3b4233ee8e26357d5c1a4d54938bae56a0d", func := "loop.example/messkitchen/laws.FnExactReadingsValid", spec := "fnExactReadingsValid", apart := false, narrowed := true }
def FnExactReadingsValidUptoSaid : Prop := fnExactReadingsValidUptoRow.holds Try.pinned (OpenSpec.upto fnExactReadingsValidSpec)

/-- 'laws.FnWarmMost', WHERE WHAT IT READS IS OF BULK AT MOST 1048576: true; the input reads as it did. -/
def fnWarmMostUptoRow : OpenClaim := { program := "ytnefjfianhkniaa", sum := "d602c9c0aee1210e56690d02fc94b3b4233ee8e26357d5c1a4d54938bae56a0d", func := "loop.example/messkitchen/laws.FnWarmMost", spec := "fnWarmMost", apart := false, narrowed := true }
def FnWarmMostUptoSaid : Prop := fnWarmMostUptoRow.holds Try.pinned (OpenSpec.upto fnWarmMostSpec)

/-- 'laws.FnExactWarmMost', WHERE WHAT IT READS IS OF BULK AT MOST 1048576: true; the input reads as it did. -/
def fnExactWarmMostUptoRow : OpenClaim := { program := "ytnefjfianhkniaa", sum := "d602c9c0aee1210e56690d02fc94b3b4233ee8e26357d5c1a4d54938bae56a0d", func := "loop.example/messkitchen/laws.FnExactWarmMost", spec := "fnExactWarmMost", apart := false, narrowed := true }
def FnExactWarmMostUptoSaid : Prop := fnExactWarmMostUptoRow.holds Try.pinned (OpenSpec.upto fnExactWarmMostSpec)

/-- 'laws.FnWarmMostCold', WHERE WHAT IT READS IS OF BULK AT MOST 1048576: true; the input reads as it did. -/
def fnWarmMostColdUptoRow : OpenClaim := { program := "ytnefjfianhkniaa", sum := "d602c9c0aee1210e56690d02fc94b3b4233ee8e26357d5c1a4d54938bae56a0d", func := "loop.example/messkitchen/laws.FnWarmMostCold", spec := "fnWarmMostCold", apart := false, narrowed := true }
def FnWarmMostColdUptoSaid : Prop := fnWarmMostColdUptoRow.holds Try.pinned (OpenSpec.upto fnWarmMostColdSpec)

/-- 'laws.FnExactWarmMinutes', WHERE WHAT IT READS IS OF BULK AT MOST 1048576: true; the input reads as it did. -/
def fnExactWarmMinutesUptoRow : OpenClaim := { program := "ytnefjfianhkniaa", sum := "d602c9c0aee1210e56690d02fc94b3b4233ee8e26357d5c1a4d54938bae56a0d", func := "loop.example/messkitchen/laws.FnExactWarmMinutes", spec := "fnExactWarmMinutes", apart := false, narrowed := true }
def FnExactWarmMinutesUptoSaid : Prop := fnExactWarmMinutesUptoRow.holds Try.pinned (OpenSpec.upto fnExactWarmMinutesSpec)

/-- 'laws.FnWarm', WHERE WHAT IT READS IS OF BULK AT MOST 1048576: true; the input reads as it did. -/
def fnWarmUptoRow : OpenClaim := { program := "ytnefjfianhkniaa", sum := "d602c9c0aee1210e56690d02fc94b3b4233ee8e26357d5c1a4d54938bae56a0d", func := "loop.example/messkitchen/laws.FnWarm", spec := "fnWarm", apart := false, narrowed := true }
def FnWarmUptoSaid : Prop := fnWarmUptoRow.holds Try.pinned (OpenSpec.upto fnWarmSpec)

/-- 'laws.FnWarmColder', WHERE WHAT IT READS IS OF BULK AT MOST 1048576: true; the input reads as it did. -/
def fnWarmColderUptoRow : OpenClaim := { program := "ytnefjfianhkniaa", sum := "d602c9c0aee1210e56690d02fc94b3b4233ee8e26357d5c1a4d54938bae56a0d", func := "loop.example/messkitchen/laws.FnWarmColder", spec := "fnWarmColder", apart := false, narrowed := true }
def FnWarmColderUptoSaid : Prop := fnWarmColderUptoRow.holds Try.pinned (OpenSpec.upto fnWarmColderSpec)

/-- 'laws.FnWarmMore', WHERE WHAT IT READS IS OF BULK AT MOST 1048576: true; the input reads as it did. -/
def fnWarmMoreUptoRow : OpenClaim := { program := "ytnefjfianhkniaa", sum := "d602c9c0aee1210e56690d02fc94b3b4233ee8e26357d5c1a4d54938bae56a0d", func := "loop.example/messkitchen/laws.FnWarmMore", spec := "fnWarmMore", apart := false, narrowed := true }
def FnWarmMoreUptoSaid : Prop := fnWarmMoreUptoRow.holds Try.pinned (OpenSpec.upto fnWarmMoreSpec)

/-- 'laws.FnExactWarmUntil', WHERE WHAT IT READS IS OF BULK AT MOST 1048576: true; the input reads as it did. -/
def fnExactWarmUntilUptoRow : OpenClaim := { program := "ytnefjfianhkniaa", sum := "d602c9c0aee1210e56690d02fc94b3b4233ee8e26357d5c1a4d54938bae56a0d", func := "loop.example/messkitchen/laws.FnExactWarmUntil", spec := "fnExactWarmUntil", apart := false, narrowed := true }
def FnExactWarmUntilUptoSaid : Prop := fnExactWarmUntilUptoRow.holds Try.pinned (OpenSpec.upto fnExactWarmUntilSpec)

/-- 'laws.FnWarmUntil', WHERE WHAT IT READS IS OF BULK AT MOST 1048576: true; the input reads as it did. -/
def fnWarmUntilUptoRow : OpenClaim := { program := "ytnefjfianhkniaa", sum := "d602c9c0aee1210e56690d02fc94b3b4233ee8e26357d5c1a4d54938bae56a0d", func := "loop.example/messkitchen/laws.FnWarmUntil", spec := "fnWarmUntil", apart := false, narrowed := true }
def FnWarmUntilUptoSaid : Prop := fnWarmUntilUptoRow.holds Try.pinned (OpenSpec.upto fnWarmUntilSpec)

/-- 'laws.FnWarmUntilNone', WHERE WHAT IT READS IS OF BULK AT MOST 1048576: true; the input reads as it did. -/
def fnWarmUntilNoneUptoRow : OpenClaim := { program := "ytnefjfianhkniaa", sum := "d602c9c0aee1210e56690d02fc94b3b4233ee8e26357d5c1a4d54938bae56a0d", func := "loop.example/messkitchen/laws.FnWarmUntilNone", spec := "fnWarmUntilNone", apart := false, narrowed := true }
def FnWarmUntilNoneUptoSaid : Prop := fnWarmUntilNoneUptoRow.holds Try.pinned (OpenSpec.upto fnWarmUntilNoneSpec)

end Rows
end Go.Proofs.Ytnefjfianhkniaa
