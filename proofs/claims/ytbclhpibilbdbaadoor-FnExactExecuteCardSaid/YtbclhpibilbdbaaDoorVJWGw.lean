import Derived.Test.YtbclhpibilbdbaaDoorVJWSh
import Derived.Test.YtbclhpibilbdbaaDoorVJWMore
import Derived.Test.YtbclhpibilbdbaaDoorVJWLast
import Derived.Lib.AppendIntMem
import Derived.Lib.AtoiErrMem
import Derived.Lib.SplitLaws
namespace Go.Proofs.YtbclhpibilbdbaaDoor.Sh
open Go.RowKit Go.Proofs.YtbclhpibilbdbaaDoorW.PrintWords
set_option linter.unusedVariables false
def GFacts (w : World) : Prop := (∃ m, w.cell? ⟨0, 0, none⟩ = some (.int .i64 m)) ∧ Lib.TabIs Tryd.prog w "internal/strconv.uint64pow10" .u64 Lib.pow10Tab ∧ (∃ tp p, w.var? Tryd.prog "strconv.ErrSyntax" = some #[.iface tp p]) ∧ ∃ tp p, w.var? Tryd.prog "strconv.ErrRange" = some #[.iface tp p]
def GW (w : World) : Prop := ∀ w', Below w.heap.size w w' → GFacts w'
theorem GW.on {w w1 : World} (h : GW w) (hb : Below w.heap.size w w1) : GW w1 := fun w' h' => h w' (hb.trans (h'.mono hb.size))
theorem GW.here {w : World} (h : GW w) : GFacts w := h w (Below.refl _ _)
theorem row_strings (w : World) (xs : List ByteArray) (hn : xs.length ≤ maxLen) : Kd.R Kd.string 9 (w.alloc (.cells (xs.map Value.string).toArray 9)) w.heap.size (fun _ => True) (.slice (some ⟨w.heap.size, 0, none⟩) xs.length xs.length) xs := by
  refine ⟨fun _ _ => trivial, xs.map Value.string, ?_, by simp [Kd.string, Kd.scalar], fun j p hj => ?_⟩
  · have h2 := World.ownsRow_lit (base := w.heap.size) (e := 9) (size := 1) w (xs.map Value.string).toArray xs.length (Nat.le_refl _) hn (by simp)
    have h3 : (w.alloc (.cells (xs.map Value.string).toArray 9)).ownsRow w.heap.size 9 1 (.slice (some ⟨w.heap.size, 0, none⟩) xs.length xs.length) xs.length (xs.map Value.string) := by simpa using h2
    exact h3
  · have hl : j < xs.length := (List.getElem?_eq_some_iff.1 hj).1
    have hp : xs[j] = p := (List.getElem?_eq_some_iff.1 hj).2
    show ((xs.map Value.string).drop (j * 1)).take 1 = [Value.string p]
    rw [Nat.mul_one, List.drop_eq_getElem_cons (by simpa using hl)]
    simp [hp]
end Go.Proofs.YtbclhpibilbdbaaDoor.Sh
