/- The walk of the law TaskPicks; no condition. -/
import Derived.Test.YtglicmjgnknmkaaTask5
set_option linter.unusedVariables false
set_option linter.unusedSimpArgs false
namespace Go.Proofs.Ytglicmjgnknmkaa
open Go Go.Hb Go.RowKit
theorem ready_none (f : Nat → List Tk) : ∀ m, ready f m = [] → ∀ i, i < m → (f i).length = 0
  | 0, _, i, h => absurd h (Nat.not_lt_zero _)
  | m + 1, e, i, h => by
    have e' : ready f (m + 1) = if (f m).length = 0 then ready f m else ready f m ++ [m] := rfl
    rw [e'] at e
    split at e
    · rename_i hz
      by_cases him : i = m
      · subst him; exact hz
      · exact ready_none f m e i (by omega)
    · simp at e
theorem ready_none0 (f : Nat → List Tk) (h : ∀ i, (f i).length = 0) : ∀ m, ready f m = []
  | 0 => rfl
  | m + 1 => by
    have e' : ready f (m + 1) = if (f m).length = 0 then ready f m else ready f m ++ [m] := rfl
    rw [e', if_pos (h m)]
    exact ready_none0 f h m
end Go.Proofs.Ytglicmjgnknmkaa
