/- How long what is read can be, where its bulk is bounded. -/
import Derived.Test.YtbhicbpfdbnpfaaRows
import Derived.Test.YtbhicbpfdbnpfaaHb
namespace Go.Proofs.Ytbhicbpfdbnpfaa
open Go Go.Hb
theorem bulk_pos {H : Type} (d : DataW H) : 1 ≤ Rows.uptoBulk d := by
  cases d with
  | lit l => cases l <;> simp [Rows.uptoBulk]
  | _ => simp [Rows.uptoBulk]
theorem bulk_all {H : Type} (ds : List (DataW H)) : ds.length ≤ Rows.uptoBulkAll ds := by
  induction ds with
  | nil => exact Nat.zero_le _
  | cons d ds ih => have h := bulk_pos d; simp [Rows.uptoBulkAll]; omega
theorem bulk_app {H : Type} (ds gs : List (DataW H)) : Rows.uptoBulkAll (ds ++ gs) = Rows.uptoBulkAll ds + Rows.uptoBulkAll gs := by
  induction ds with
  | nil => simp [Rows.uptoBulkAll]
  | cons d ds ih => simp [Rows.uptoBulkAll, ih]; omega
theorem bulk_mem {H : Type} {ds : List (DataW H)} {d : DataW H} (h : d ∈ ds) : Rows.uptoBulk d ≤ Rows.uptoBulkAll ds := by
  induction ds with
  | nil => cases h
  | cons x ds ih =>
    simp [Rows.uptoBulkAll]
    rcases List.mem_cons.1 h with rfl | h
    · omega
    · have := ih h; omega
theorem bulk_args {H : Type} {ds gs : List (DataW H)} (hk : Rows.uptoSmall H (ds ++ gs) = true) {d : DataW H} (h : d ∈ ds) : Rows.uptoBulk d ≤ 1048576 := by
  have h1 : Rows.uptoBulkAll (ds ++ gs) ≤ 1048576 := of_decide_eq_true hk
  rw [bulk_app] at h1
  have := bulk_mem h
  omega
theorem bulk_sl {H : Type} {k : Ctx} {sz : Nat} {Q : List Value → DataW H → Prop} {v : Value} {d : DataW H} {rows : List (List Value)} {ds : List (DataW H)} (A : ArgSl k sz Q v d rows ds) : Rows.uptoBulkAll ds ≤ Rows.uptoBulk d := by
  rcases A.data with ⟨rfl, rfl⟩ | ⟨rest, rfl⟩
  · simp [Rows.uptoBulkAll]
  · simp [Rows.uptoBulk]; omega
theorem bulk_len {H : Type} {k : Ctx} {sz : Nat} {Q : List Value → DataW H → Prop} {v : Value} {d : DataW H} {rows : List (List Value)} {ds : List (DataW H)} (A : ArgSl k sz Q v d rows ds) : rows.length ≤ Rows.uptoBulk d := by
  rw [← A.len]
  exact Nat.le_trans (bulk_all ds) (bulk_sl A)
theorem bulk_str {H : Type} (s : List UInt8) : s.length ≤ Rows.uptoBulk (.lit (.string s) : DataW H) := by
  simp [Rows.uptoBulk]
end Go.Proofs.Ytbhicbpfdbnpfaa
