/- The walk of the law TaskOrder; no condition. -/
import Derived.Test.YtglicmjgnknmkaaTask6
set_option linter.unusedVariables false
set_option linter.unusedSimpArgs false
namespace Go.Proofs.Ytglicmjgnknmkaa
open Go Go.Hb Go.RowKit
theorem has_sep {A : HP} {a : Addr} {cs : List Value} (h : Has A a cs) : ∀ {L : List HP}, A ∈ L → Has (sep L) a cs
  | B :: L, hm => ⟨h.1, fun hp hs => by
    obtain ⟨h1, h2, _, s1, s2, hB, hL⟩ := hs
    rcases List.mem_cons.1 hm with rfl | hm
    · obtain ⟨c, T, fz, e1, e2⟩ := h.2 h1 hB
      exact ⟨c, T, fz, s1 _ _ e1, e2⟩
    · obtain ⟨c, T, fz, e1, e2⟩ := (has_sep h hm).2 h2 hL
      exact ⟨c, T, fz, s2 _ _ e1, e2⟩⟩
def jrow (j : Nat) : List Value := [.int .i64 0, .int .i64 (j : Int), .int .i64 0, .int .i64 0, .string ⟨#[]⟩, .string ⟨#[]⟩]
def jarr (b j : Nat) : HP := arr b 0 1 56 6 [jrow j]
def jobs (jl : List Nat) : HP := sep (jl.zipIdx.map fun x => jarr x.1 x.2)
def jtk (b : Nat) : Tk := ⟨2, none, 0, 0, some ⟨b, 0, none⟩, 1, 1⟩
theorem jobs_snoc {k : Ctx} {w : World} {jl : List Nat} {b : Nat} {l : List HP} (hO : Own k w (jobs jl :: jarr b jl.length :: l)) : Own k w (jobs (jl ++ [b]) :: l) := by
  have := Own.snoc hO
  unfold jobs
  rw [List.zipIdx_append]
  simpa using this
theorem jobs_has {jl : List Nat} {j b : Nat} (h : jl[j]? = some b) : Has (jobs jl) ⟨b, 0, none⟩ (jrow j) := by
  refine has_sep (A := jarr b j) ?_ ?_
  · have := Has.ofArrA (b := b) (o := 0) (cap := 1) (T := 56) (sz := 6) (rows := [jrow j]) (i := 0) (x := 0) 6 rfl (cs := jrow j) rfl
    exact this
  · refine List.mem_map.2 ⟨(b, j), ?_, rfl⟩
    rw [List.mk_mem_zipIdx_iff_getElem?]
    exact h
theorem number_spec (k : Ctx) (w : World) (b j : Nat) (hR : Ro k ⟨b, 0, none⟩ (jrow j)) (hO : Own k w []) :
    Tri Try.prog 11 #[(jtk b).val] k w fun r m => r = .int .i64 (j : Int) ∧ m = [] := by
  refine enter (args := [(jtk b).val]) Try.func11 rfl rfl ?_
  repeat (first | (with_reducible first | refine K0 ?_ | refine K1 ?_ | refine K2 ?_ | refine K3 ?_ | refine K4 ?_ | refine K5 ?_ | refine K6 ?_ | refine K7 ?_ | refine K8 ?_ | refine K9 ?_ | refine L0 ?_ | refine L1 ?_ | refine L2 ?_ | refine L3 ?_ | refine L4 ?_ | refine L5 ?_ | refine L6 ?_) | refine Y0 hO rfl ?_ | refine Y1 hO rfl rfl (fun w hO => ?_) | refine Y2 hO rfl ?_ | refine Y3 hO rfl rfl (fun w hO => ?_) | refine l_y rfl rfl (y_index rfl rfl (by omega) (by omega)) ?_ | refine l_y rfl rfl (y_indexA rfl rfl (by omega) (by omega)) ?_ | refine L7 ?_ | refine L8 ?_ | refine L9 ?_ | refine M0 ?_ | refine M1 ?_ | refine M2 ?_ | refine M3 ?_ | refine M4 ?_ | refine M5 ?_ | refine M6 ?_ | refine M7 ?_ | refine M8 ?_ | refine M9 ?_ | refine N0 ?_ | refine N1 ?_ | refine N2 ?_ | refine N3 ?_ | refine N4 ?_ | refine N5 ?_ | refine N6 ?_ | refine N7 ?_ | refine N8 ?_ | refine N9 ?_ | refine R0 ?_ | refine R1 ?_ | refine R2 ?_ | refine R3 ?_ | refine R4 ?_ | refine R5 ?_ | refine R6 ?_ | refine R7 ?_ | refine R8 ?_ | refine R9 ?_ | refine S0 ?_)
  refine s_box (vs := (jtk b).cells) hO rfl rfl rfl rfl fun c w hO => ?_
  have hO : Own k w [blk c 34 [.int .i64 2, .slice none 0 0, .slice (some ⟨b, 0, none⟩) 1 1]] := hO
  repeat (first | (with_reducible first | refine K0 ?_ | refine K1 ?_ | refine K2 ?_ | refine K3 ?_ | refine K4 ?_ | refine K5 ?_ | refine K6 ?_ | refine K7 ?_ | refine K8 ?_ | refine K9 ?_ | refine L0 ?_ | refine L1 ?_ | refine L2 ?_ | refine L3 ?_ | refine L4 ?_ | refine L5 ?_ | refine L6 ?_) | refine Y0 hO rfl ?_ | refine Y1 hO rfl rfl (fun w hO => ?_) | refine Y2 hO rfl ?_ | refine Y3 hO rfl rfl (fun w hO => ?_) | refine l_y rfl rfl (y_index rfl rfl (by omega) (by omega)) ?_ | refine l_y rfl rfl (y_indexA rfl rfl (by omega) (by omega)) ?_ | refine L7 ?_ | refine L8 ?_ | refine L9 ?_ | refine M0 ?_ | refine M1 ?_ | refine M2 ?_ | refine M3 ?_ | refine M4 ?_ | refine M5 ?_ | refine M6 ?_ | refine M7 ?_ | refine M8 ?_ | refine M9 ?_ | refine N0 ?_ | refine N1 ?_ | refine N2 ?_ | refine N3 ?_ | refine N4 ?_ | refine N5 ?_ | refine N6 ?_ | refine N7 ?_ | refine N8 ?_ | refine N9 ?_ | refine R0 ?_ | refine R1 ?_ | refine R2 ?_ | refine R3 ?_ | refine R4 ?_ | refine R5 ?_ | refine R6 ?_ | refine R7 ?_ | refine R8 ?_ | refine R9 ?_ | refine S0 ?_)
  refine l_y rfl rfl (y_load1 (v := .int .i64 (j : Int)) rfl (by
    have h := hR.holds hO
    exact cuts_holds w b 0 _ [.int .i64 (j : Int)] 1 h (fun q v hq => by cases q with | zero => exact hq | succ q => simp at hq))) ?_
  repeat (first | (with_reducible first | refine K0 ?_ | refine K1 ?_ | refine K2 ?_ | refine K3 ?_ | refine K4 ?_ | refine K5 ?_ | refine K6 ?_ | refine K7 ?_ | refine K8 ?_ | refine K9 ?_ | refine L0 ?_ | refine L1 ?_ | refine L2 ?_ | refine L3 ?_ | refine L4 ?_ | refine L5 ?_ | refine L6 ?_) | refine Y0 hO rfl ?_ | refine Y1 hO rfl rfl (fun w hO => ?_) | refine Y2 hO rfl ?_ | refine Y3 hO rfl rfl (fun w hO => ?_) | refine l_y rfl rfl (y_index rfl rfl (by omega) (by omega)) ?_ | refine l_y rfl rfl (y_indexA rfl rfl (by omega) (by omega)) ?_ | refine L7 ?_ | refine L8 ?_ | refine L9 ?_ | refine M0 ?_ | refine M1 ?_ | refine M2 ?_ | refine M3 ?_ | refine M4 ?_ | refine M5 ?_ | refine M6 ?_ | refine M7 ?_ | refine M8 ?_ | refine M9 ?_ | refine N0 ?_ | refine N1 ?_ | refine N2 ?_ | refine N3 ?_ | refine N4 ?_ | refine N5 ?_ | refine N6 ?_ | refine N7 ?_ | refine N8 ?_ | refine N9 ?_ | refine R0 ?_ | refine R1 ?_ | refine R2 ?_ | refine R3 ?_ | refine R4 ?_ | refine R5 ?_ | refine R6 ?_ | refine R7 ?_ | refine R8 ?_ | refine R9 ?_ | refine S0 ?_)
  exact fin1 rfl rfl ⟨_, ⟨rfl, rfl⟩, hO.none⟩
/-- what waits: job numbers by source -/
structure Wait (sc : Nat → Nat) (n : Nat) (g : Nat → List Nat) : Prop where
  srt : ∀ s, (g s).Pairwise (· < ·)
  mem : ∀ s j, j ∈ g s → j < n ∧ sc j = s ∧ s < 4
def tot (g : Nat → List Nat) : Nat := (g 0).length + (g 1).length + (g 2).length + (g 3).length
def updN (g : Nat → List Nat) (s : Nat) (l : List Nat) : Nat → List Nat := fun i => if i = s then l else g i
theorem tot_upd (g : Nat → List Nat) (s : Nat) (hs : s < 4) (l : List Nat) : tot (updN g s l) + (g s).length = tot g + l.length := by
  obtain rfl | rfl | rfl | rfl : s = 0 ∨ s = 1 ∨ s = 2 ∨ s = 3 := by omega
  all_goals (simp [tot, updN]; try omega)
theorem len_tot (g : Nat → List Nat) (s : Nat) (hs : s < 4) : (g s).length ≤ tot g := by
  obtain rfl | rfl | rfl | rfl : s = 0 ∨ s = 1 ∨ s = 2 ∨ s = 3 := by omega
  all_goals (simp [tot]; try omega)
theorem wait_post {sc : Nat → Nat} {n : Nat} {g : Nat → List Nat} (h : Wait sc n g) {s : Nat} (hs : s < 4) (hsc : sc n = s) : Wait sc (n + 1) (updN g s (g s ++ [n])) := by
  constructor
  · intro s'
    unfold updN
    split
    · rename_i e; subst e
      refine List.pairwise_append.2 ⟨h.srt s', by simp, fun a ha b hb => ?_⟩
      simp at hb; subst hb
      exact (h.mem s' a ha).1
    · exact h.srt s'
  · intro s' j hj
    unfold updN at hj
    split at hj
    · rename_i e; subst e
      rcases List.mem_append.1 hj with hj | hj
      · obtain ⟨h1, h2, h3⟩ := h.mem s' j hj
        exact ⟨by omega, h2, h3⟩
      · simp at hj; subst hj
        exact ⟨by omega, hsc, hs⟩
    · obtain ⟨h1, h2, h3⟩ := h.mem s' j hj
      exact ⟨by omega, h2, h3⟩
theorem wait_next {sc : Nat → Nat} {n : Nat} {g : Nat → List Nat} (h : Wait sc n g) (s : Nat) : Wait sc n (updN g s (g s).tail) := by
  constructor
  · intro s'
    unfold updN
    split
    · rename_i e; subst e; exact (h.srt s').sublist (List.tail_sublist _)
    · exact h.srt s'
  · intro s' j hj
    unfold updN at hj
    split at hj
    · rename_i e; subst e; exact h.mem s' j (List.mem_of_mem_tail hj)
    · exact h.mem s' j hj
/-- the queue holds these jobs -/
def Holds4 (jl : List Nat) (g : Nat → List Nat) (f : Nat → List Tk) : Prop := ∀ s, f s = (g s).map fun j => jtk (jl.getD j 0)
theorem holds4_post {sc : Nat → Nat} {jl : List Nat} {g : Nat → List Nat} {f : Nat → List Tk} (h : Holds4 jl g f) (hw : Wait sc jl.length g) (s b : Nat) : Holds4 (jl ++ [b]) (updN g s (g s ++ [jl.length])) (upd f s (f s ++ [jtk b])) := by
  have old : ∀ s', f s' = (g s').map fun j => jtk ((jl ++ [b]).getD j 0) := by
    intro s'
    rw [h s']
    refine List.map_congr_left fun j hj => ?_
    have := (hw.mem s' j hj).1
    simp [List.getElem?_append_left this]
  intro s'
  unfold upd updN
  split
  · rename_i e; subst e
    rw [List.map_append, ← old]
    simp
  · exact old s'
theorem holds4_next {jl : List Nat} {g : Nat → List Nat} {f : Nat → List Tk} (h : Holds4 jl g f) (s : Nat) : Holds4 jl (updN g s (g s).tail) (upd f s (f s).tail) := by
  intro s'
  unfold upd updN
  split
  · rename_i e; subst e; rw [h s', List.map_tail]
  · exact h s'
theorem wait_len {jl : List Nat} {g : Nat → List Nat} {f : Nat → List Tk} (h : Holds4 jl g f) {sc : Nat → Nat} {n : Nat} (hw : Wait sc n g) {m : Nat} (ht : tot g ≤ m) (s : Nat) : (f s).length ≤ m := by
  rw [h s, List.length_map]
  by_cases hs : s < 4
  · exact Nat.le_trans (len_tot g s hs) ht
  · cases hg : g s with
    | nil => simp
    | cons j l => exact absurd (hw.mem s j (by rw [hg]; simp)).2.2 hs
theorem wait_none {jl : List Nat} {g : Nat → List Nat} {f : Nat → List Tk} (h : Holds4 jl g f) (hr : ready f 4 = []) : tot g = 0 := by
  have z := ready_none f 4 hr
  have e : ∀ s, s < 4 → (g s).length = 0 := fun s hs => by have := z s hs; rw [h s, List.length_map] at this; exact this
  have := e 0 (by decide); have := e 1 (by decide); have := e 2 (by decide); have := e 3 (by decide)
  unfold tot; omega
end Go.Proofs.Ytglicmjgnknmkaa
