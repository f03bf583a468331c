/- The walk of the law TaskOrder; no condition. -/
import Derived.Test.YtnlnfmjnoabfeaaTask6
set_option linter.unusedVariables false
set_option linter.unusedSimpArgs false
namespace Go.Proofs.Ytnlnfmjnoabfeaa
open Go Go.Hb Go.RowKit
theorem has_sep {A : HP} {a : Addr} {cs : List Value} (h : Has A a cs) : ∀ {L : List HP}, A ∈ L → Has (sep L) a cs
  | B :: L, hm => ⟨h.1, fun hp hs => by
    obtain ⟨h1, h2, _, s1, s2, hB, hL⟩ := hs
    rcases List.mem_cons.1 hm with rfl | hm
    · obtain ⟨c, T, fz, e1, e2⟩ := h.2 h1 hB
      exact ⟨c, T, fz, s1 _ _ e1, e2⟩
    · obtain ⟨c, T, fz, e1, e2⟩ := (has_sep h hm).2 h2 hL
      exact ⟨c, T, fz, s2 _ _ e1, e2⟩⟩
def jrow (j : Nat) : List Value := [.int .i64 0, .int .i64 (j : Int), .int .i64 0, .int .i64 0, .string ⟨#[]⟩, .string ⟨#[]⟩]
def jarr (b j : Nat) : HP := arr b 0 1 60 6 [jrow j]
def jobs (jl : List Nat) : HP := sep (jl.zipIdx.map fun x => jarr x.1 x.2)
def jtk (b : Nat) : Tk := ⟨2, none, 0, 0, some ⟨b, 0, none⟩, 1, 1⟩
theorem jobs_snoc {k : Ctx} {w : World} {jl : List Nat} {b : Nat} {l : List HP} (hO : Own k w (jobs jl :: jarr b jl.length :: l)) : Own k w (jobs (jl ++ [b]) :: l) := by
  have := Own.snoc hO
  unfold jobs
  rw [List.zipIdx_append]
  simpa using this
theorem jobs_has {jl : List Nat} {j b : Nat} (h : jl[j]? = some b) : Has (jobs jl) ⟨b, 0, none⟩ (jrow j) := by
  refine has_sep (A := jarr b j) ?_ ?_
  · have := Has.ofArrA (b := b) (o := 0) (cap := 1) (T := 60) (sz := 6) (rows := [jrow j]) (i := 0) (x := 0) 6 rfl (cs := jrow j) rfl
    exact this
  · refine List.mem_map.2 ⟨(b, j), ?_, rfl⟩
    rw [List.mk_mem_zipIdx_iff_getElem?]
    exact h
theorem number_spec (k : Ctx) (w : World) (b j : Nat) (hR : Ro k ⟨b, 0, none⟩ (jrow j)) (hO : Own k w []) :
    Tri Try.prog 19 #[(jtk b).val] k w fun r m => r = .int .i64 (j : Int) ∧ m = [] := by
  refine enter (args := [(jtk b).val]) Try.func19 rfl rfl ?_
  repeat (first | (with_reducible first | refine K0 ?_ | refine K1 ?_ | refine K2 ?_ | refine K3 ?_ | refine K4 ?_ | refine K5 ?_ | refine K6 ?_ | refine K7 ?_ | refine K8 ?_ | refine K9 ?_ | refine L0 ?_ | refine L1 ?_ | refine L2 ?_ | refine L3 ?_ | refine L4 ?_ | refine L5 ?_ | refine L6 ?_) | refine Y0 hO rfl ?_ | refine Y1 hO rfl rfl (fun w hO => ?_) | refine Y2 hO rfl ?_ | refine Y3 hO rfl rfl (fun w hO => ?_) | refine l_y rfl rfl (y_index rfl rfl (by omega) (by omega)) ?_ | refine l_y rfl rfl (y_indexA rfl rfl (by omega) (by omega)) ?_ | refine L7 ?_ | refine L8 ?_ | refine L9 ?_ | refine M0 ?_ | refine M1 ?_ | refine M2 ?_ | refine M3 ?_ | refine M4 ?_ | refine M5 ?_ | refine M6 ?_ | refine M7 ?_ | refine M8 ?_ | refine M9 ?_ | refine N0 ?_ | refine N1 ?_ | refine N2 ?_ | refine N3 ?_ | refine N4 ?_ | refine N5 ?_ | refine N6 ?_ | refine N7 ?_ | refine N8 ?_ | refine N9 ?_ | refine R0 ?_ | refine R1 ?_ | refine R2 ?_ | refine R3 ?_ | refine R4 ?_ | refine R5 ?_ | refine R6 ?_ | refine R7 ?_ | refine R8 ?_ | refine R9 ?_ | refine S0 ?_)
  refine s_box (vs := (jtk b).cells) hO rfl rfl rfl rfl fun c w hO => ?_
  have hO : Own k w [blk c 30 [.int .i64 2, .slice none 0 0, .slice (some ⟨b, 0, none⟩) 1 1]] := hO
  repeat (first | (with_reducible first | refine K0 ?_ | refine K1 ?_ | refine K2 ?_ | refine K3 ?_ | refine K4 ?_ | refine K5 ?_ | refine K6 ?_ | refine K7 ?_ | refine K8 ?_ | refine K9 ?_ | refine L0 ?_ | refine L1 ?_ | refine L2 ?_ | refine L3 ?_ | refine L4 ?_ | refine L5 ?_ | refine L6 ?_) | refine Y0 hO rfl ?_ | refine Y1 hO rfl rfl (fun w hO => ?_) | refine Y2 hO rfl ?_ | refine Y3 hO rfl rfl (fun w hO => ?_) | refine l_y rfl rfl (y_index rfl rfl (by omega) (by omega)) ?_ | refine l_y rfl rfl (y_indexA rfl rfl (by omega) (by omega)) ?_ | refine L7 ?_ | refine L8 ?_ | refine L9 ?_ | refine M0 ?_ | refine M1 ?_ | refine M2 ?_ | refine M3 ?_ | refine M4 ?_ | refine M5 ?_ | refine M6 ?_ | refine M7 ?_ | refine M8 ?_ | refine M9 ?_ | refine N0 ?_ | refine N1 ?_ | refine N2 ?_ | refine N3 ?_ | refine N4 ?_ | refine N5 ?_ | refine N6 ?_ | refine N7 ?_ | refine N8 ?_ | refine N9 ?_ | refine R0 ?_ | refine R1 ?_ | refine R2 ?_ | refine R3 ?_ | refine R4 ?_ | refine R5 ?_ | refine R6 ?_ | refine R7 ?_ | refine R8 ?_ | refine R9 ?_ | refine S0 ?_)
  refine l_y rfl rfl (y_load1 (v := .int .i64 (j : Int)) rfl (by
    have h := hR.holds hO
    exact cuts_holds w b 0 _ [.int .i64 (j : Int)] 1 h (fun q v hq => by cases q with | zero => exact hq | succ q => simp at hq))) ?_
  repeat (first | (with_reducible first | refine K0 ?_ | refine K1 ?_ | refine K2 ?_ | refine K3 ?_ | refine K4 ?_ | refine K5 ?_ | refine K6 ?_ | refine K7 ?_ | refine K8 ?_ | refine K9 ?_ | refine L0 ?_ | refine L1 ?_ | refine L2 ?_ | refine L3 ?_ | refine L4 ?_ | refine L5 ?_ | refine L6 ?_) | refine Y0 hO rfl ?_ | refine Y1 hO rfl rfl (fun w hO => ?_) | refine Y2 hO rfl ?_ | refine Y3 hO rfl rfl (fun w hO => ?_) | refine l_y rfl rfl (y_index rfl rfl (by omega) (by omega)) ?_ | refine l_y rfl rfl (y_indexA rfl rfl (by omega) (by omega)) ?_ | refine L7 ?_ | refine L8 ?_ | refine L9 ?_ | refine M0 ?_ | refine M1 ?_ | refine M2 ?_ | refine M3 ?_ | refine M4 ?_ | refine M5 ?_ | refine M6 ?_ | refine M7 ?_ | refine M8 ?_ | refine M9 ?_ | refine N0 ?_ | refine N1 ?_ | refine N2 ?_ | refine N3 ?_ | refine N4 ?_ | refine N5 ?_ | refine N6 ?_ | refine N7 ?_ | refine N8 ?_ | refine N9 ?_ | refine R0 ?_ | refine R1 ?_ | refine R2 ?_ | refine R3 ?_ | refine R4 ?_ | refine R5 ?_ | refine R6 ?_ | refine R7 ?_ | refine R8 ?_ | refine R9 ?_ | refine S0 ?_)
  exact fin1 rfl rfl ⟨_, ⟨rfl, rfl⟩, hO.none⟩
/-- what waits: job numbers by source -/
structure Wait (sc : Nat → Nat) (n : Nat) (g : Nat → List Nat) : Prop where
  srt : ∀ s, (g s).Pairwise (· < ·)
  mem : ∀ s j, j ∈ g s → j < n ∧ sc j = s ∧ s < 4
def tot (g : Nat → List Nat) : Nat := (g 0).length + (g 1).length + (g 2).length + (g 3).length
def updN (g : Nat → List Nat) (s : Nat) (l : List Nat) : Nat → List Nat := fun i => if i = s then l else g i
theorem tot_upd (g : Nat → List Nat) (s : Nat) (hs : s < 4) (l : List Nat) : tot (updN g s l) + (g s).length = tot g + l.length := by
  obtain rfl | rfl | rfl | rfl : s = 0 ∨ s = 1 ∨ s = 2 ∨ s = 3 := by omega
  all_goals (simp [tot, updN]; try omega)
theorem len_tot (g : Nat → List Nat) (s : Nat) (hs : s < 4) : (g s).length ≤ tot g := by
  obtain rfl | rfl | rfl | rfl : s = 0 ∨ s = 1 ∨ s = 2 ∨ s = 3 := by omega
  all_goals (simp [tot]; try omega)
theorem wait_post {sc : Nat → Nat} {n : Nat} {g : Nat → List Nat} (h : Wait sc n g) {s : Nat} (hs : s < 4) (hsc : sc n = s) : Wait sc (n + 1) (updN g s (g s ++ [n])) := by
  constructor
  · intro s'
    unfold updN
    split
    · rename_i e; subst e
      refine List.pairwise_append.2 ⟨h.srt s', by simp, fun a ha b hb => ?_⟩
      simp at hb; subst hb
      exact (h.mem s' a ha).1
    · exact h.srt s'
  · intro s' j hj
    unfold updN at hj
    split at hj
    · rename_i e; subst e
      rcases List.mem_append.1 hj with hj | hj
      · obtain ⟨h1, h2, h3⟩ := h.mem s' j hj
        exact ⟨by omega, h2, h3⟩
      · simp at hj; subst hj
        exact ⟨by omega, hsc, hs⟩
    · obtain ⟨h1, h2, h3⟩ := h.mem s' j hj
      exact ⟨by omega, h2, h3⟩
theorem wait_next {sc : Nat → Nat} {n : Nat} {g : Nat → List Nat} (h : Wait sc n g) (s : Nat) : Wait sc n (updN g s (g s).tail) := by
  constructor
  · intro s'
    unfold updN
    split
    · rename_i e; subst e; exact (h.srt s').sublist (List.tail_sublist _)
    · exact h.srt s'
  · intro s' j hj
    unfold updN at hj
    split at hj
    · rename_i e; subst e; exact h.mem s' j (List.mem_of_mem_tail hj)
    · exact h.mem s' j hj
/-- the queue holds these jobs -/
def Holds4 (jl : List Nat) (g : Nat → List Nat) (f : Nat → List Tk) : Prop := ∀ s, f s = (g s).map fun j => jtk (jl.getD j 0)
theorem holds4_post {sc : Nat → Nat} {jl : List Nat} {g : Nat → List Nat} {f : Nat → List Tk} (h : Holds4 jl g f) (hw : Wait sc jl.length g) (s b : Nat) : Holds4 (jl ++ [b]) (updN g s (g s ++ [jl.length])) (upd f s (f s ++ [jtk b])) := by
  have old : ∀ s', f s' = (g s').map fun j => jtk ((jl ++ [b]).getD j 0) := by
    intro s'
    rw [h s']
    refine List.map_congr_left fun j hj => ?_
    have := (hw.mem s' j hj).1
    simp [List.getElem?_append_left this]
  intro s'
  unfold upd updN
  split
  · rename_i e; subst e
    rw [List.map_append, ← old]
    simp
  · exact old s'
theorem holds4_next {jl : List Nat} {g : Nat → List Nat} {f : Nat → List Tk} (h : Holds4 jl g f) (s : Nat) : Holds4 jl (updN g s (g s).tail) (upd f s (f s).tail) := by
  intro s'
  unfold upd updN
  split
  · rename_i e; subst e; rw [h s', List.map_tail]
  · exact h s'
theorem wait_len {jl : List Nat} {g : Nat → List Nat} {f : Nat → List Tk} (h : Holds4 jl g f) {sc : Nat → Nat} {n : Nat} (hw : Wait sc n g) {m : Nat} (ht : tot g ≤ m) (s : Nat) : (f s).length ≤ m := by
  rw [h s, List.length_map]
  by_cases hs : s < 4
  · exact Nat.le_trans (len_tot g s hs) ht
  · cases hg : g s with
    | nil => simp
    | cons j l => exact absurd (hw.mem s j (by rw [hg]; simp)).2.2 hs
theorem wait_none {jl : List Nat} {g : Nat → List Nat} {f : Nat → List Tk} (h : Holds4 jl g f) (hr : ready f 4 = []) : tot g = 0 := by
  have z := ready_none f 4 hr
  have e : ∀ s, s < 4 → (g s).length = 0 := fun s hs => by have := z s hs; rw [h s, List.length_map] at this; exact this
  have := e 0 (by decide); have := e 1 (by decide); have := e 2 (by decide); have := e 3 (by decide)
  unfold tot; omega
set_option maxHeartbeats 4000000 in
theorem TaskOrder_spec (k : Ctx) (w : World) (p pp : Option Addr) (cap np cp : Nat) (xs ps : List Int) (hS : Sli (Ro k) (.slice p xs.length cap) (iv .u8 xs)) (hxb : ∀ x ∈ xs, 0 ≤ x ∧ x ≤ 255)
    (hP : Sli (Ro k) (.slice pp np cp) (iv .i64 ps)) (hO : Own k w []) :
    Tri Try.prog 7 #[.slice p xs.length cap, .slice pp np cp] k w fun r m => r = .bool true := by
  refine enter (args := [.slice p xs.length cap, .slice pp np cp]) Try.func7 rfl rfl ?_
  have hpn := hP.fits.1
  rw [iv_length] at hpn
  subst hpn
  repeat (first | (with_reducible first | refine K0 ?_ | refine K1 ?_ | refine K2 ?_ | refine K3 ?_ | refine K4 ?_ | refine K5 ?_ | refine K6 ?_ | refine K7 ?_ | refine K8 ?_ | refine K9 ?_ | refine L0 ?_ | refine L1 ?_ | refine L2 ?_ | refine L3 ?_ | refine L4 ?_ | refine L5 ?_ | refine L6 ?_) | refine Y0 hO rfl ?_ | refine Y1 hO rfl rfl (fun w hO => ?_) | refine Y2 hO rfl ?_ | refine Y3 hO rfl rfl (fun w hO => ?_) | refine l_y rfl rfl (y_index rfl rfl (by omega) (by omega)) ?_ | refine l_y rfl rfl (y_indexA rfl rfl (by omega) (by omega)) ?_ | refine L7 ?_ | refine L8 ?_ | refine L9 ?_ | refine M0 ?_ | refine M1 ?_ | refine M2 ?_ | refine M3 ?_ | refine M4 ?_ | refine M5 ?_ | refine M6 ?_ | refine M7 ?_ | refine M8 ?_ | refine M9 ?_ | refine N0 ?_ | refine N1 ?_ | refine N2 ?_ | refine N3 ?_ | refine N4 ?_ | refine N5 ?_ | refine N6 ?_ | refine N7 ?_ | refine N8 ?_ | refine N9 ?_ | refine R0 ?_ | refine R1 ?_ | refine R2 ?_ | refine R3 ?_ | refine R4 ?_ | refine R5 ?_ | refine R6 ?_ | refine R7 ?_ | refine R8 ?_ | refine R9 ?_ | refine S0 ?_)
  refine s_callO hO (.nil _) rfl rfl rfl (fun k' hx hr hO => New_spec k' _ hO) ?_
  rintro _ _ w ⟨q, rfl, rfl⟩ hO
  have hO : Own k w [que q fun _ => []] := hO
  repeat (first | (with_reducible first | refine K0 ?_ | refine K1 ?_ | refine K2 ?_ | refine K3 ?_ | refine K4 ?_ | refine K5 ?_ | refine K6 ?_ | refine K7 ?_ | refine K8 ?_ | refine K9 ?_ | refine L0 ?_ | refine L1 ?_ | refine L2 ?_ | refine L3 ?_ | refine L4 ?_ | refine L5 ?_ | refine L6 ?_) | refine Y0 hO rfl ?_ | refine Y1 hO rfl rfl (fun w hO => ?_) | refine Y2 hO rfl ?_ | refine Y3 hO rfl rfl (fun w hO => ?_) | refine l_y rfl rfl (y_index rfl rfl (by omega) (by omega)) ?_ | refine l_y rfl rfl (y_indexA rfl rfl (by omega) (by omega)) ?_ | refine L7 ?_ | refine L8 ?_ | refine L9 ?_ | refine M0 ?_ | refine M1 ?_ | refine M2 ?_ | refine M3 ?_ | refine M4 ?_ | refine M5 ?_ | refine M6 ?_ | refine M7 ?_ | refine M8 ?_ | refine M9 ?_ | refine N0 ?_ | refine N1 ?_ | refine N2 ?_ | refine N3 ?_ | refine N4 ?_ | refine N5 ?_ | refine N6 ?_ | refine N7 ?_ | refine N8 ?_ | refine N9 ?_ | refine R0 ?_ | refine R1 ?_ | refine R2 ?_ | refine R3 ?_ | refine R4 ?_ | refine R5 ?_ | refine R6 ?_ | refine R7 ?_ | refine R8 ?_ | refine R9 ?_ | refine S0 ?_)
  refine l_y rfl rfl (y_min rfl rfl) ?_
  obtain ⟨n, hn⟩ : ∃ n : Nat, min (xs.length : Int) 2000 = (n : Int) := ⟨(min (xs.length : Int) 2000).toNat, by omega⟩
  have hn1 : n ≤ xs.length := by omega
  have hn2 : n ≤ 2000 := by omega
  rw [hn]
  repeat (first | (with_reducible first | refine K0 ?_ | refine K1 ?_ | refine K2 ?_ | refine K3 ?_ | refine K4 ?_ | refine K5 ?_ | refine K6 ?_ | refine K7 ?_ | refine K8 ?_ | refine K9 ?_ | refine L0 ?_ | refine L1 ?_ | refine L2 ?_ | refine L3 ?_ | refine L4 ?_ | refine L5 ?_ | refine L6 ?_) | refine Y0 hO rfl ?_ | refine Y1 hO rfl rfl (fun w hO => ?_) | refine Y2 hO rfl ?_ | refine Y3 hO rfl rfl (fun w hO => ?_) | refine l_y rfl rfl (y_index rfl rfl (by omega) (by omega)) ?_ | refine l_y rfl rfl (y_indexA rfl rfl (by omega) (by omega)) ?_ | refine L7 ?_ | refine L8 ?_ | refine L9 ?_ | refine M0 ?_ | refine M1 ?_ | refine M2 ?_ | refine M3 ?_ | refine M4 ?_ | refine M5 ?_ | refine M6 ?_ | refine M7 ?_ | refine M8 ?_ | refine M9 ?_ | refine N0 ?_ | refine N1 ?_ | refine N2 ?_ | refine N3 ?_ | refine N4 ?_ | refine N5 ?_ | refine N6 ?_ | refine N7 ?_ | refine N8 ?_ | refine N9 ?_ | refine R0 ?_ | refine R1 ?_ | refine R2 ?_ | refine R3 ?_ | refine R4 ?_ | refine R5 ?_ | refine R6 ?_ | refine R7 ?_ | refine R8 ?_ | refine R9 ?_ | refine S0 ?_)
  obtain ⟨sc, hsc⟩ : ∃ sc : Nat → Nat, ∀ j x, xs[j]? = some x → x % 4 = (sc j : Int) := ⟨fun j => ((xs.getD j 0) % 4).toNat, fun j x hx => by simp [hx]; omega⟩
  have hJ : Own k w (jobs [] :: [que q fun _ => []]) := Own.shut (l := []) hO
  refine c_rounds (X := Nat × List Nat × (Nat → List Nat) × (Nat → List Tk)) (fun x => [(0, .slice p xs.length cap), (1, .slice pp ps.length cp), (5, .pointer (some ⟨q, 0, none⟩)), (6, .int .i64 n), (7, .int .i64 x.1)]) (fun x w => Own k w [jobs x.2.1, que q x.2.2.2] ∧ x.2.1.length = x.1 ∧ x.1 ≤ n ∧ Wait sc x.1 x.2.2.1 ∧ Holds4 x.2.1 x.2.2.1 x.2.2.2 ∧ tot x.2.2.1 = x.1) (fun x => n - x.1) (0, [], fun _ => [], fun _ => []) ⟨rfl, rfl, rfl, rfl, rfl, trivial⟩ ⟨hJ, rfl, Nat.zero_le _, ⟨fun s => by simp, fun s j h => by cases h⟩, fun s => rfl, rfl⟩ ?_
  clear hO hJ
  rintro ⟨i, jl, g, f⟩ w m hm ⟨hO, hjl, hi, hW, hH, ht⟩
  dsimp only at hO hjl hi hW hH ht hm ⊢
  by_cases hlt : i < n
  · obtain ⟨x, hx⟩ : ∃ x, xs[i]? = some x := ⟨xs[i], List.getElem?_eq_getElem (by omega)⟩
    have hxb' := hxb x (List.mem_of_getElem? hx)
    have hsx := hsc i x hx
    obtain ⟨s, hs⟩ : ∃ s, s = sc i := ⟨_, rfl⟩
    rw [← hs] at hsx
    have hs4 : s < 4 := by omega
    obtain ⟨b1, o1, hp1, hH1⟩ := hS.get (cuts_ro k) (iv_one _ _) (iv_get hx)
    subst hp1
    have hfl := wait_len hH hW (Nat.le_of_eq ht) s
    have hf4 : (f s).length < 4096 := by omega
    repeat (first | (with_reducible first | refine K0 ?_ | refine K1 ?_ | refine K2 ?_ | refine K3 ?_ | refine K4 ?_ | refine K5 ?_ | refine K6 ?_ | refine K7 ?_ | refine K8 ?_ | refine K9 ?_ | refine L0 ?_ | refine L1 ?_ | refine L2 ?_ | refine L3 ?_ | refine L4 ?_ | refine L5 ?_ | refine L6 ?_) | refine Y0 hO rfl ?_ | refine Y1 hO rfl rfl (fun w hO => ?_) | refine Y2 hO rfl ?_ | refine Y3 hO rfl rfl (fun w hO => ?_) | refine l_y rfl rfl (y_index rfl rfl (by omega) (by omega)) ?_ | refine l_y rfl rfl (y_indexA rfl rfl (by omega) (by omega)) ?_ | refine L7 ?_ | refine L8 ?_ | refine L9 ?_ | refine M0 ?_ | refine M1 ?_ | refine M2 ?_ | refine M3 ?_ | refine M4 ?_ | refine M5 ?_ | refine M6 ?_ | refine M7 ?_ | refine M8 ?_ | refine M9 ?_ | refine N0 ?_ | refine N1 ?_ | refine N2 ?_ | refine N3 ?_ | refine N4 ?_ | refine N5 ?_ | refine N6 ?_ | refine N7 ?_ | refine N8 ?_ | refine N9 ?_ | refine R0 ?_ | refine R1 ?_ | refine R2 ?_ | refine R3 ?_ | refine R4 ?_ | refine R5 ?_ | refine R6 ?_ | refine R7 ?_ | refine R8 ?_ | refine R9 ?_ | refine S0 ?_)
    refine dl_start (SO k []) (by intro c a d v w h; cases d <;> exact h) (SO.of hO.drew (.nil _)) ?_
    repeat (first | refine dl_y (by kernel_rfl) rfl rfl (fun w ⟨m, hw⟩ => by first | exact y_move rfl | exact y_assign rfl | exact y_nilCheck rfl rfl | exact y_fieldAddr_row rfl | exact y_fieldAddr rfl | exact y_lenL rfl | exact y_lenS rfl | exact y_extract rfl rfl | exact y_pick_t rfl rfl | exact y_pick_f rfl rfl | exact D5 hw rfl | exact D4 | exact D0 | exact D1 | exact D2 | exact D3 | exact D6 | exact D7 | exact y_index rfl rfl (by omega) (by omega) | exact y_indexA rfl rfl (by omega) (by omega) | exact D8 hw rfl | exact y_not rfl rfl | exact y_eqPnil rfl rfl rfl | exact y_nePnil rfl rfl rfl | exact y_convS rfl | exact y_eqB rfl rfl rfl | exact y_neB rfl rfl rfl) ?_ | refine dl_pass (by kernel_rfl) rfl rfl ?_)
    refine dl_y (by kernel_rfl) rfl rfl (fun w ⟨m, hw⟩ => y_load1 rfl (hH1.holds hw)) ?_
    refine dl_y (by kernel_rfl) rfl rfl (fun w ⟨m, hw⟩ => y_remN rfl rfl hxb'.1 (by decide)) ?_
    rw [hsx]
    repeat (first | refine dl_y (by kernel_rfl) rfl rfl (fun w ⟨m, hw⟩ => by first | exact y_move rfl | exact y_assign rfl | exact y_nilCheck rfl rfl | exact y_fieldAddr_row rfl | exact y_fieldAddr rfl | exact y_lenL rfl | exact y_lenS rfl | exact y_extract rfl rfl | exact y_pick_t rfl rfl | exact y_pick_f rfl rfl | exact D5 hw rfl | exact D4 | exact D0 | exact D1 | exact D2 | exact D3 | exact D6 | exact D7 | exact y_index rfl rfl (by omega) (by omega) | exact y_indexA rfl rfl (by omega) (by omega) | exact D8 hw rfl | exact y_not rfl rfl | exact y_eqPnil rfl rfl rfl | exact y_nePnil rfl rfl rfl | exact y_convS rfl | exact y_eqB rfl rfl rfl | exact y_neB rfl rfl rfl) ?_ | refine dl_pass (by kernel_rfl) rfl rfl ?_)
    refine dl_only (by kernel_rfl) ?_
    refine s_callO hO.drew (As := []) (.nil _) rfl rfl rfl (fun k' hx hr hO => job_spec k' _ _ hO) ?_
    rintro _ _ w ⟨jb, rfl, rfl⟩ hO
    have hO : Own k w [jarr jb i, jobs jl, que q f] := hO
    refine l_nil (o_end ⟨SO.of hO (.nil _), ?_⟩)
    refine dl_only (by kernel_rfl) ?_
    refine s_callO hO (.cons (.tl _ (.tl _ (.hd _ _))) (.nil _)) rfl rfl rfl (fun k' hx hr hO => Post_spec k' _ q f s hs4 (jtk jb) hO) ?_
    rintro _ _ w ⟨rfl, rfl⟩ hO
    rw [if_pos hf4] at hO ⊢
    have hO : Own k w [_, _, _] := hO
    refine l_nil (o_end ⟨SO.of hO (.nil _), ?_⟩)
    repeat (first | refine dl_y (by kernel_rfl) rfl rfl (fun w ⟨m, hw⟩ => by first | exact y_move rfl | exact y_assign rfl | exact y_nilCheck rfl rfl | exact y_fieldAddr_row rfl | exact y_fieldAddr rfl | exact y_lenL rfl | exact y_lenS rfl | exact y_extract rfl rfl | exact y_pick_t rfl rfl | exact y_pick_f rfl rfl | exact D5 hw rfl | exact D4 | exact D0 | exact D1 | exact D2 | exact D3 | exact D6 | exact D7 | exact y_index rfl rfl (by omega) (by omega) | exact y_indexA rfl rfl (by omega) (by omega) | exact D8 hw rfl | exact y_not rfl rfl | exact y_eqPnil rfl rfl rfl | exact y_nePnil rfl rfl rfl | exact y_convS rfl | exact y_eqB rfl rfl rfl | exact y_neB rfl rfl rfl) ?_ | refine dl_pass (by kernel_rfl) rfl rfl ?_)
    refine dl_end (by kernel_rfl) ?_
    repeat (first | (with_reducible first | refine K0 ?_ | refine K1 ?_ | refine K2 ?_ | refine K3 ?_ | refine K4 ?_ | refine K5 ?_ | refine K6 ?_ | refine K7 ?_ | refine K8 ?_ | refine K9 ?_ | refine L0 ?_ | refine L1 ?_ | refine L2 ?_ | refine L3 ?_ | refine L4 ?_ | refine L5 ?_ | refine L6 ?_) | refine Y0 hO rfl ?_ | refine Y1 hO rfl rfl (fun w hO => ?_) | refine Y2 hO rfl ?_ | refine Y3 hO rfl rfl (fun w hO => ?_) | refine l_y rfl rfl (y_index rfl rfl (by omega) (by omega)) ?_ | refine l_y rfl rfl (y_indexA rfl rfl (by omega) (by omega)) ?_ | refine L7 ?_ | refine L8 ?_ | refine L9 ?_ | refine M0 ?_ | refine M1 ?_ | refine M2 ?_ | refine M3 ?_ | refine M4 ?_ | refine M5 ?_ | refine M6 ?_ | refine M7 ?_ | refine M8 ?_ | refine M9 ?_ | refine N0 ?_ | refine N1 ?_ | refine N2 ?_ | refine N3 ?_ | refine N4 ?_ | refine N5 ?_ | refine N6 ?_ | refine N7 ?_ | refine N8 ?_ | refine N9 ?_ | refine R0 ?_ | refine R1 ?_ | refine R2 ?_ | refine R3 ?_ | refine R4 ?_ | refine R5 ?_ | refine R6 ?_ | refine R7 ?_ | refine R8 ?_ | refine R9 ?_ | refine S0 ?_)
    subst hjl
    have hO := jobs_snoc (hO.pulls (As := [_, _, _]) (.cons (.tl _ (.tl _ (.hd _ _))) (.cons (.tl _ (.hd _ _)) (.cons (.hd _ _) (.nil _)))))
    refine q_next (jl.length + 1, jl ++ [jb], updN g s (g s ++ [jl.length]), upd f s (f s ++ [jtk jb])) ⟨rfl, rfl, rfl, rfl, rfl, trivial⟩ ⟨hO, by simp, hlt, wait_post hW hs4 hs.symm, holds4_post hH hW s jb, ?_⟩ (by dsimp only; omega)
    have := tot_upd g s hs4 (g s ++ [jl.length])
    simp at this
    dsimp only
    omega
  · obtain rfl : i = n := by omega
    repeat (first | (with_reducible first | refine K0 ?_ | refine K1 ?_ | refine K2 ?_ | refine K3 ?_ | refine K4 ?_ | refine K5 ?_ | refine K6 ?_ | refine K7 ?_ | refine K8 ?_ | refine K9 ?_ | refine L0 ?_ | refine L1 ?_ | refine L2 ?_ | refine L3 ?_ | refine L4 ?_ | refine L5 ?_ | refine L6 ?_) | refine Y0 hO rfl ?_ | refine Y1 hO rfl rfl (fun w hO => ?_) | refine Y2 hO rfl ?_ | refine Y3 hO rfl rfl (fun w hO => ?_) | refine l_y rfl rfl (y_index rfl rfl (by omega) (by omega)) ?_ | refine l_y rfl rfl (y_indexA rfl rfl (by omega) (by omega)) ?_ | refine L7 ?_ | refine L8 ?_ | refine L9 ?_ | refine M0 ?_ | refine M1 ?_ | refine M2 ?_ | refine M3 ?_ | refine M4 ?_ | refine M5 ?_ | refine M6 ?_ | refine M7 ?_ | refine M8 ?_ | refine M9 ?_ | refine N0 ?_ | refine N1 ?_ | refine N2 ?_ | refine N3 ?_ | refine N4 ?_ | refine N5 ?_ | refine N6 ?_ | refine N7 ?_ | refine N8 ?_ | refine N9 ?_ | refine R0 ?_ | refine R1 ?_ | refine R2 ?_ | refine R3 ?_ | refine R4 ?_ | refine R5 ?_ | refine R6 ?_ | refine R7 ?_ | refine R8 ?_ | refine R9 ?_ | refine S0 ?_)
    refine s_slices (parts := [(0, .const (.int .i64 (-1))), (1, .const (.int .i64 (-1))), (2, .const (.int .i64 (-1))), (3, .const (.int .i64 (-1)))]) [.int .i64 (-1), .int .i64 (-1), .int .i64 (-1), .int .i64 (-1)] hO rfl rfl rfl rfl (by simp [Value.cells]) (by decide) (by simp) (by simp) fun lb w hO => ?_
    have hO : Own k w [arr lb 0 4 3 1 (iv .i64 [-1, -1, -1, -1]), jobs jl, que q f] := hO
    repeat (first | (with_reducible first | refine K0 ?_ | refine K1 ?_ | refine K2 ?_ | refine K3 ?_ | refine K4 ?_ | refine K5 ?_ | refine K6 ?_ | refine K7 ?_ | refine K8 ?_ | refine K9 ?_ | refine L0 ?_ | refine L1 ?_ | refine L2 ?_ | refine L3 ?_ | refine L4 ?_ | refine L5 ?_ | refine L6 ?_) | refine Y0 hO rfl ?_ | refine Y1 hO rfl rfl (fun w hO => ?_) | refine Y2 hO rfl ?_ | refine Y3 hO rfl rfl (fun w hO => ?_) | refine l_y rfl rfl (y_index rfl rfl (by omega) (by omega)) ?_ | refine l_y rfl rfl (y_indexA rfl rfl (by omega) (by omega)) ?_ | refine L7 ?_ | refine L8 ?_ | refine L9 ?_ | refine M0 ?_ | refine M1 ?_ | refine M2 ?_ | refine M3 ?_ | refine M4 ?_ | refine M5 ?_ | refine M6 ?_ | refine M7 ?_ | refine M8 ?_ | refine M9 ?_ | refine N0 ?_ | refine N1 ?_ | refine N2 ?_ | refine N3 ?_ | refine N4 ?_ | refine N5 ?_ | refine N6 ?_ | refine N7 ?_ | refine N8 ?_ | refine N9 ?_ | refine R0 ?_ | refine R1 ?_ | refine R2 ?_ | refine R3 ?_ | refine R4 ?_ | refine R5 ?_ | refine R6 ?_ | refine R7 ?_ | refine R8 ?_ | refine R9 ?_ | refine S0 ?_)
    refine c_rounds (X := Nat × List Int × (Nat → List Nat) × (Nat → List Tk)) (fun x => [(0, .slice p xs.length cap), (1, .slice pp ps.length cp), (5, .pointer (some ⟨q, 0, none⟩)), (6, .int .i64 i), (8, .slice (some ⟨lb, 0, none⟩) 4 4), (9, .int .i64 x.1)]) (fun x w => Own k w [que q x.2.2.2, jobs jl, arr lb 0 4 3 1 (iv .i64 x.2.1)] ∧ x.2.1.length = 4 ∧ x.1 ≤ i ∧ Wait sc i x.2.2.1 ∧ Holds4 jl x.2.2.1 x.2.2.2 ∧ tot x.2.2.1 + x.1 = i ∧ (∀ (s : Nat) (z : Int), x.2.1[s]? = some z → ∀ j ∈ x.2.2.1 s, z < (j : Int))) (fun x => i - x.1) (0, [-1, -1, -1, -1], g, f) ⟨rfl, rfl, rfl, rfl, rfl, rfl, trivial⟩ ⟨hO.pulls (As := [_, _, _]) (.cons (.tl _ (.tl _ (.hd _ _))) (.cons (.tl _ (.hd _ _)) (.cons (.hd _ _) (.nil _)))), rfl, Nat.zero_le _, hW, hH, by simpa using ht, fun s z hz j hj => ?_⟩ ?_
    · have : z = -1 := by
        have := List.mem_of_getElem? hz
        simpa using this
      omega
    clear hO hW hH ht hm hi hlt
    rintro ⟨r, ls, g, f⟩ w m hm ⟨hO, hls, hi, hW, hH, ht, hlast⟩
    dsimp only at hO hls hi hW hH ht hlast hm ⊢
    by_cases hlt : r < i
    · have hcont : ∀ (v : Int) (w : World), Own k w [que q f, jobs jl, arr lb 0 4 3 1 (iv .i64 ls)] → True := fun _ _ _ => trivial
      have hne0 : ready f 4 ≠ [] := fun h => by have := wait_none hH h; omega
      by_cases hpk : r < ps.length
      · obtain ⟨v, hv⟩ : ∃ v, ps[r]? = some v := ⟨ps[r], List.getElem?_eq_getElem hpk⟩
        obtain ⟨b2, o2, hp2, hH2⟩ := hP.get (cuts_ro k) (iv_one _ _) (iv_get hv)
        subst hp2
        repeat (first | (with_reducible first | refine K0 ?_ | refine K1 ?_ | refine K2 ?_ | refine K3 ?_ | refine K4 ?_ | refine K5 ?_ | refine K6 ?_ | refine K7 ?_ | refine K8 ?_ | refine K9 ?_ | refine L0 ?_ | refine L1 ?_ | refine L2 ?_ | refine L3 ?_ | refine L4 ?_ | refine L5 ?_ | refine L6 ?_) | refine Y0 hO rfl ?_ | refine Y1 hO rfl rfl (fun w hO => ?_) | refine Y2 hO rfl ?_ | refine Y3 hO rfl rfl (fun w hO => ?_) | refine l_y rfl rfl (y_index rfl rfl (by omega) (by omega)) ?_ | refine l_y rfl rfl (y_indexA rfl rfl (by omega) (by omega)) ?_ | refine L7 ?_ | refine L8 ?_ | refine L9 ?_ | refine M0 ?_ | refine M1 ?_ | refine M2 ?_ | refine M3 ?_ | refine M4 ?_ | refine M5 ?_ | refine M6 ?_ | refine M7 ?_ | refine M8 ?_ | refine M9 ?_ | refine N0 ?_ | refine N1 ?_ | refine N2 ?_ | refine N3 ?_ | refine N4 ?_ | refine N5 ?_ | refine N6 ?_ | refine N7 ?_ | refine N8 ?_ | refine N9 ?_ | refine R0 ?_ | refine R1 ?_ | refine R2 ?_ | refine R3 ?_ | refine R4 ?_ | refine R5 ?_ | refine R6 ?_ | refine R7 ?_ | refine R8 ?_ | refine R9 ?_ | refine S0 ?_)
        refine l_y rfl rfl (y_load1 rfl (hH2.holds hO)) ?_
        repeat (first | (with_reducible first | refine K0 ?_ | refine K1 ?_ | refine K2 ?_ | refine K3 ?_ | refine K4 ?_ | refine K5 ?_ | refine K6 ?_ | refine K7 ?_ | refine K8 ?_ | refine K9 ?_ | refine L0 ?_ | refine L1 ?_ | refine L2 ?_ | refine L3 ?_ | refine L4 ?_ | refine L5 ?_ | refine L6 ?_) | refine Y0 hO rfl ?_ | refine Y1 hO rfl rfl (fun w hO => ?_) | refine Y2 hO rfl ?_ | refine Y3 hO rfl rfl (fun w hO => ?_) | refine l_y rfl rfl (y_index rfl rfl (by omega) (by omega)) ?_ | refine l_y rfl rfl (y_indexA rfl rfl (by omega) (by omega)) ?_ | refine L7 ?_ | refine L8 ?_ | refine L9 ?_ | refine M0 ?_ | refine M1 ?_ | refine M2 ?_ | refine M3 ?_ | refine M4 ?_ | refine M5 ?_ | refine M6 ?_ | refine M7 ?_ | refine M8 ?_ | refine M9 ?_ | refine N0 ?_ | refine N1 ?_ | refine N2 ?_ | refine N3 ?_ | refine N4 ?_ | refine N5 ?_ | refine N6 ?_ | refine N7 ?_ | refine N8 ?_ | refine N9 ?_ | refine R0 ?_ | refine R1 ?_ | refine R2 ?_ | refine R3 ?_ | refine R4 ?_ | refine R5 ?_ | refine R6 ?_ | refine R7 ?_ | refine R8 ?_ | refine R9 ?_ | refine S0 ?_)
        refine s_callO hO (.cons (.hd _ _) (.nil _)) rfl rfl rfl (fun k' hx hr hO => Next_spec k' _ q f v hO) ?_
        rintro _ m' w (⟨hr0, _⟩ | ⟨s, t, hne, hs, htk, hr, rest, hm'⟩) hO
        · exact absurd hr0 hne0
        subst hr hm'
        have hO := hO.cut
        have hO : Own k w [_, _, _] := hO
        have hs4 := (ready_mem f 4 s (List.mem_of_getElem? hs)).1
        obtain ⟨j, gs, hgs⟩ : ∃ j gs, g s = j :: gs := by
          cases hg : g s with
          | nil => rw [hH s, hg] at htk; cases htk
          | cons j gs => exact ⟨j, gs, rfl⟩
        have hjm : j ∈ g s := by rw [hgs]; simp
        obtain ⟨hjn, hjs, _⟩ := hW.mem s j hjm
        obtain ⟨b, hb⟩ : ∃ b, jl[j]? = some b := ⟨jl[j], List.getElem?_eq_getElem (by omega)⟩
        have htk : t = jtk b := by
          rw [hH s, hgs] at htk
          simp [hb] at htk
          exact htk.symm
        subst htk
        obtain ⟨x, hx⟩ : ∃ x, xs[j]? = some x := ⟨xs[j], List.getElem?_eq_getElem (by omega)⟩
        have hxb' := hxb x (List.mem_of_getElem? hx)
        have hsx := hsc j x hx
        rw [hjs] at hsx
        obtain ⟨z, hz⟩ : ∃ z, ls[s]? = some z := ⟨ls[s], List.getElem?_eq_getElem (by omega)⟩
        have hzj := hlast s z hz j hjm
        obtain ⟨b1, o1, hp1, hH1⟩ := hS.get (cuts_ro k) (iv_one _ _) (iv_get hx)
        subst hp1
        repeat (first | (with_reducible first | refine K0 ?_ | refine K1 ?_ | refine K2 ?_ | refine K3 ?_ | refine K4 ?_ | refine K5 ?_ | refine K6 ?_ | refine K7 ?_ | refine K8 ?_ | refine K9 ?_ | refine L0 ?_ | refine L1 ?_ | refine L2 ?_ | refine L3 ?_ | refine L4 ?_ | refine L5 ?_ | refine L6 ?_) | refine Y0 hO rfl ?_ | refine Y1 hO rfl rfl (fun w hO => ?_) | refine Y2 hO rfl ?_ | refine Y3 hO rfl rfl (fun w hO => ?_) | refine l_y rfl rfl (y_index rfl rfl (by omega) (by omega)) ?_ | refine l_y rfl rfl (y_indexA rfl rfl (by omega) (by omega)) ?_ | refine L7 ?_ | refine L8 ?_ | refine L9 ?_ | refine M0 ?_ | refine M1 ?_ | refine M2 ?_ | refine M3 ?_ | refine M4 ?_ | refine M5 ?_ | refine M6 ?_ | refine M7 ?_ | refine M8 ?_ | refine M9 ?_ | refine N0 ?_ | refine N1 ?_ | refine N2 ?_ | refine N3 ?_ | refine N4 ?_ | refine N5 ?_ | refine N6 ?_ | refine N7 ?_ | refine N8 ?_ | refine N9 ?_ | refine R0 ?_ | refine R1 ?_ | refine R2 ?_ | refine R3 ?_ | refine R4 ?_ | refine R5 ?_ | refine R6 ?_ | refine R7 ?_ | refine R8 ?_ | refine R9 ?_ | refine S0 ?_)
        refine s_alloc (vs := [.int .i64 0, .slice none 0 0, .slice none 0 0]) hO rfl rfl rfl fun bt w hO => ?_
        repeat (first | (with_reducible first | refine K0 ?_ | refine K1 ?_ | refine K2 ?_ | refine K3 ?_ | refine K4 ?_ | refine K5 ?_ | refine K6 ?_ | refine K7 ?_ | refine K8 ?_ | refine K9 ?_ | refine L0 ?_ | refine L1 ?_ | refine L2 ?_ | refine L3 ?_ | refine L4 ?_ | refine L5 ?_ | refine L6 ?_) | refine Y0 hO rfl ?_ | refine Y1 hO rfl rfl (fun w hO => ?_) | refine Y2 hO rfl ?_ | refine Y3 hO rfl rfl (fun w hO => ?_) | refine l_y rfl rfl (y_index rfl rfl (by omega) (by omega)) ?_ | refine l_y rfl rfl (y_indexA rfl rfl (by omega) (by omega)) ?_ | refine L7 ?_ | refine L8 ?_ | refine L9 ?_ | refine M0 ?_ | refine M1 ?_ | refine M2 ?_ | refine M3 ?_ | refine M4 ?_ | refine M5 ?_ | refine M6 ?_ | refine M7 ?_ | refine M8 ?_ | refine M9 ?_ | refine N0 ?_ | refine N1 ?_ | refine N2 ?_ | refine N3 ?_ | refine N4 ?_ | refine N5 ?_ | refine N6 ?_ | refine N7 ?_ | refine N8 ?_ | refine N9 ?_ | refine R0 ?_ | refine R1 ?_ | refine R2 ?_ | refine R3 ?_ | refine R4 ?_ | refine R5 ?_ | refine R6 ?_ | refine R7 ?_ | refine R8 ?_ | refine R9 ?_ | refine S0 ?_)
        refine s_callO hO (As := []) (.nil _) rfl rfl rfl (fun k' hx hr hO' => number_spec k' _ b j (hr (jobs jl) (by simp) _ _ (jobs_has hb)) hO') ?_
        rintro _ _ w ⟨rfl, rfl⟩ hO
        have hO : Own k w [_, _, _, _] := hO
        repeat (first | (with_reducible first | refine K0 ?_ | refine K1 ?_ | refine K2 ?_ | refine K3 ?_ | refine K4 ?_ | refine K5 ?_ | refine K6 ?_ | refine K7 ?_ | refine K8 ?_ | refine K9 ?_ | refine L0 ?_ | refine L1 ?_ | refine L2 ?_ | refine L3 ?_ | refine L4 ?_ | refine L5 ?_ | refine L6 ?_) | refine Y0 hO rfl ?_ | refine Y1 hO rfl rfl (fun w hO => ?_) | refine Y2 hO rfl ?_ | refine Y3 hO rfl rfl (fun w hO => ?_) | refine l_y rfl rfl (y_index rfl rfl (by omega) (by omega)) ?_ | refine l_y rfl rfl (y_indexA rfl rfl (by omega) (by omega)) ?_ | refine L7 ?_ | refine L8 ?_ | refine L9 ?_ | refine M0 ?_ | refine M1 ?_ | refine M2 ?_ | refine M3 ?_ | refine M4 ?_ | refine M5 ?_ | refine M6 ?_ | refine M7 ?_ | refine M8 ?_ | refine M9 ?_ | refine N0 ?_ | refine N1 ?_ | refine N2 ?_ | refine N3 ?_ | refine N4 ?_ | refine N5 ?_ | refine N6 ?_ | refine N7 ?_ | refine N8 ?_ | refine N9 ?_ | refine R0 ?_ | refine R1 ?_ | refine R2 ?_ | refine R3 ?_ | refine R4 ?_ | refine R5 ?_ | refine R6 ?_ | refine R7 ?_ | refine R8 ?_ | refine R9 ?_ | refine S0 ?_)
        refine l_y rfl rfl (y_load1 rfl (hH1.holds hO)) ?_
        refine l_y rfl rfl (y_remN rfl rfl hxb'.1 (by decide)) ?_
        rw [hsx]
        repeat (first | (with_reducible first | refine K0 ?_ | refine K1 ?_ | refine K2 ?_ | refine K3 ?_ | refine K4 ?_ | refine K5 ?_ | refine K6 ?_ | refine K7 ?_ | refine K8 ?_ | refine K9 ?_ | refine L0 ?_ | refine L1 ?_ | refine L2 ?_ | refine L3 ?_ | refine L4 ?_ | refine L5 ?_ | refine L6 ?_) | refine Y0 hO rfl ?_ | refine Y1 hO rfl rfl (fun w hO => ?_) | refine Y2 hO rfl ?_ | refine Y3 hO rfl rfl (fun w hO => ?_) | refine l_y rfl rfl (y_index rfl rfl (by omega) (by omega)) ?_ | refine l_y rfl rfl (y_indexA rfl rfl (by omega) (by omega)) ?_ | refine L7 ?_ | refine L8 ?_ | refine L9 ?_ | refine M0 ?_ | refine M1 ?_ | refine M2 ?_ | refine M3 ?_ | refine M4 ?_ | refine M5 ?_ | refine M6 ?_ | refine M7 ?_ | refine M8 ?_ | refine M9 ?_ | refine N0 ?_ | refine N1 ?_ | refine N2 ?_ | refine N3 ?_ | refine N4 ?_ | refine N5 ?_ | refine N6 ?_ | refine N7 ?_ | refine N8 ?_ | refine N9 ?_ | refine R0 ?_ | refine R1 ?_ | refine R2 ?_ | refine R3 ?_ | refine R4 ?_ | refine R5 ?_ | refine R6 ?_ | refine R7 ?_ | refine R8 ?_ | refine R9 ?_ | refine S0 ?_)
        refine l_y rfl rfl (y_load1 rfl (hO.holds (.tl _ (.tl _ (.tl _ (.hd _ _ _)))) (.ofArr1 (iv_get hz) rfl))) ?_
        repeat (first | (with_reducible first | refine K0 ?_ | refine K1 ?_ | refine K2 ?_ | refine K3 ?_ | refine K4 ?_ | refine K5 ?_ | refine K6 ?_ | refine K7 ?_ | refine K8 ?_ | refine K9 ?_ | refine L0 ?_ | refine L1 ?_ | refine L2 ?_ | refine L3 ?_ | refine L4 ?_ | refine L5 ?_ | refine L6 ?_) | refine Y0 hO rfl ?_ | refine Y1 hO rfl rfl (fun w hO => ?_) | refine Y2 hO rfl ?_ | refine Y3 hO rfl rfl (fun w hO => ?_) | refine l_y rfl rfl (y_index rfl rfl (by omega) (by omega)) ?_ | refine l_y rfl rfl (y_indexA rfl rfl (by omega) (by omega)) ?_ | refine L7 ?_ | refine L8 ?_ | refine L9 ?_ | refine M0 ?_ | refine M1 ?_ | refine M2 ?_ | refine M3 ?_ | refine M4 ?_ | refine M5 ?_ | refine M6 ?_ | refine M7 ?_ | refine M8 ?_ | refine M9 ?_ | refine N0 ?_ | refine N1 ?_ | refine N2 ?_ | refine N3 ?_ | refine N4 ?_ | refine N5 ?_ | refine N6 ?_ | refine N7 ?_ | refine N8 ?_ | refine N9 ?_ | refine R0 ?_ | refine R1 ?_ | refine R2 ?_ | refine R3 ?_ | refine R4 ?_ | refine R5 ?_ | refine R6 ?_ | refine R7 ?_ | refine R8 ?_ | refine R9 ?_ | refine S0 ?_)
        refine s_store1 hO rfl rfl rfl rfl rfl (.tl _ (.tl _ (.tl _ (.hd _ _ _)))) (Upd.ofArr1 (iv_get hz) rfl) fun w hO => ?_
        have hO : Own k w [_, que q (upd f s (f s).tail), jobs jl, arr lb 0 4 3 1 ((iv .i64 ls).set s [.int .i64 (j : Int)])] := hO
        rw [iv_set] at hO
        repeat (first | (with_reducible first | refine K0 ?_ | refine K1 ?_ | refine K2 ?_ | refine K3 ?_ | refine K4 ?_ | refine K5 ?_ | refine K6 ?_ | refine K7 ?_ | refine K8 ?_ | refine K9 ?_ | refine L0 ?_ | refine L1 ?_ | refine L2 ?_ | refine L3 ?_ | refine L4 ?_ | refine L5 ?_ | refine L6 ?_) | refine Y0 hO rfl ?_ | refine Y1 hO rfl rfl (fun w hO => ?_) | refine Y2 hO rfl ?_ | refine Y3 hO rfl rfl (fun w hO => ?_) | refine l_y rfl rfl (y_index rfl rfl (by omega) (by omega)) ?_ | refine l_y rfl rfl (y_indexA rfl rfl (by omega) (by omega)) ?_ | refine L7 ?_ | refine L8 ?_ | refine L9 ?_ | refine M0 ?_ | refine M1 ?_ | refine M2 ?_ | refine M3 ?_ | refine M4 ?_ | refine M5 ?_ | refine M6 ?_ | refine M7 ?_ | refine M8 ?_ | refine M9 ?_ | refine N0 ?_ | refine N1 ?_ | refine N2 ?_ | refine N3 ?_ | refine N4 ?_ | refine N5 ?_ | refine N6 ?_ | refine N7 ?_ | refine N8 ?_ | refine N9 ?_ | refine R0 ?_ | refine R1 ?_ | refine R2 ?_ | refine R3 ?_ | refine R4 ?_ | refine R5 ?_ | refine R6 ?_ | refine R7 ?_ | refine R8 ?_ | refine R9 ?_ | refine S0 ?_)
        refine q_next (r + 1, ls.set s (j : Int), updN g s (g s).tail, upd f s (f s).tail) ⟨rfl, rfl, rfl, rfl, rfl, rfl, trivial⟩ ⟨hO.drop, by simp [hls], hlt, wait_next hW s, holds4_next hH s, ?_, fun s' z' hz' j' hj' => ?_⟩ (by dsimp only; omega)
        · have h1 := tot_upd g s hs4 (g s).tail
          have h2 : (g s).tail.length + 1 = (g s).length := by rw [hgs]; simp
          dsimp only
          omega
        · dsimp only at hz' hj'
          unfold updN at hj'
          by_cases hss : s' = s
          · subst hss
            rw [if_pos rfl, hgs] at hj'
            have hz2 : z' = (j : Int) := by
              rw [List.getElem?_set_self (by omega)] at hz'
              exact (Option.some.inj hz').symm
            have hsrt := hW.srt s'
            rw [hgs] at hsrt
            have := (List.pairwise_cons.1 hsrt).1 j' hj'
            omega
          · rw [if_neg hss] at hj'
            rw [List.getElem?_set_ne (fun h => hss h.symm)] at hz'
            exact hlast s' z' hz' j' hj'
      · repeat (first | (with_reducible first | refine K0 ?_ | refine K1 ?_ | refine K2 ?_ | refine K3 ?_ | refine K4 ?_ | refine K5 ?_ | refine K6 ?_ | refine K7 ?_ | refine K8 ?_ | refine K9 ?_ | refine L0 ?_ | refine L1 ?_ | refine L2 ?_ | refine L3 ?_ | refine L4 ?_ | refine L5 ?_ | refine L6 ?_) | refine Y0 hO rfl ?_ | refine Y1 hO rfl rfl (fun w hO => ?_) | refine Y2 hO rfl ?_ | refine Y3 hO rfl rfl (fun w hO => ?_) | refine l_y rfl rfl (y_index rfl rfl (by omega) (by omega)) ?_ | refine l_y rfl rfl (y_indexA rfl rfl (by omega) (by omega)) ?_ | refine L7 ?_ | refine L8 ?_ | refine L9 ?_ | refine M0 ?_ | refine M1 ?_ | refine M2 ?_ | refine M3 ?_ | refine M4 ?_ | refine M5 ?_ | refine M6 ?_ | refine M7 ?_ | refine M8 ?_ | refine M9 ?_ | refine N0 ?_ | refine N1 ?_ | refine N2 ?_ | refine N3 ?_ | refine N4 ?_ | refine N5 ?_ | refine N6 ?_ | refine N7 ?_ | refine N8 ?_ | refine N9 ?_ | refine R0 ?_ | refine R1 ?_ | refine R2 ?_ | refine R3 ?_ | refine R4 ?_ | refine R5 ?_ | refine R6 ?_ | refine R7 ?_ | refine R8 ?_ | refine R9 ?_ | refine S0 ?_)
        refine s_callO hO (.cons (.hd _ _) (.nil _)) rfl rfl rfl (fun k' hx hr hO => Next_spec k' _ q f 0 hO) ?_
        rintro _ m' w (⟨hr0, _⟩ | ⟨s, t, hne, hs, htk, hr, rest, hm'⟩) hO
        · exact absurd hr0 hne0
        subst hr hm'
        have hO := hO.cut
        have hO : Own k w [_, _, _] := hO
        have hs4 := (ready_mem f 4 s (List.mem_of_getElem? hs)).1
        obtain ⟨j, gs, hgs⟩ : ∃ j gs, g s = j :: gs := by
          cases hg : g s with
          | nil => rw [hH s, hg] at htk; cases htk
          | cons j gs => exact ⟨j, gs, rfl⟩
        have hjm : j ∈ g s := by rw [hgs]; simp
        obtain ⟨hjn, hjs, _⟩ := hW.mem s j hjm
        obtain ⟨b, hb⟩ : ∃ b, jl[j]? = some b := ⟨jl[j], List.getElem?_eq_getElem (by omega)⟩
        have htk : t = jtk b := by
          rw [hH s, hgs] at htk
          simp [hb] at htk
          exact htk.symm
        subst htk
        obtain ⟨x, hx⟩ : ∃ x, xs[j]? = some x := ⟨xs[j], List.getElem?_eq_getElem (by omega)⟩
        have hxb' := hxb x (List.mem_of_getElem? hx)
        have hsx := hsc j x hx
        rw [hjs] at hsx
        obtain ⟨z, hz⟩ : ∃ z, ls[s]? = some z := ⟨ls[s], List.getElem?_eq_getElem (by omega)⟩
        have hzj := hlast s z hz j hjm
        obtain ⟨b1, o1, hp1, hH1⟩ := hS.get (cuts_ro k) (iv_one _ _) (iv_get hx)
        subst hp1
        repeat (first | (with_reducible first | refine K0 ?_ | refine K1 ?_ | refine K2 ?_ | refine K3 ?_ | refine K4 ?_ | refine K5 ?_ | refine K6 ?_ | refine K7 ?_ | refine K8 ?_ | refine K9 ?_ | refine L0 ?_ | refine L1 ?_ | refine L2 ?_ | refine L3 ?_ | refine L4 ?_ | refine L5 ?_ | refine L6 ?_) | refine Y0 hO rfl ?_ | refine Y1 hO rfl rfl (fun w hO => ?_) | refine Y2 hO rfl ?_ | refine Y3 hO rfl rfl (fun w hO => ?_) | refine l_y rfl rfl (y_index rfl rfl (by omega) (by omega)) ?_ | refine l_y rfl rfl (y_indexA rfl rfl (by omega) (by omega)) ?_ | refine L7 ?_ | refine L8 ?_ | refine L9 ?_ | refine M0 ?_ | refine M1 ?_ | refine M2 ?_ | refine M3 ?_ | refine M4 ?_ | refine M5 ?_ | refine M6 ?_ | refine M7 ?_ | refine M8 ?_ | refine M9 ?_ | refine N0 ?_ | refine N1 ?_ | refine N2 ?_ | refine N3 ?_ | refine N4 ?_ | refine N5 ?_ | refine N6 ?_ | refine N7 ?_ | refine N8 ?_ | refine N9 ?_ | refine R0 ?_ | refine R1 ?_ | refine R2 ?_ | refine R3 ?_ | refine R4 ?_ | refine R5 ?_ | refine R6 ?_ | refine R7 ?_ | refine R8 ?_ | refine R9 ?_ | refine S0 ?_)
        refine s_alloc (vs := [.int .i64 0, .slice none 0 0, .slice none 0 0]) hO rfl rfl rfl fun bt w hO => ?_
        repeat (first | (with_reducible first | refine K0 ?_ | refine K1 ?_ | refine K2 ?_ | refine K3 ?_ | refine K4 ?_ | refine K5 ?_ | refine K6 ?_ | refine K7 ?_ | refine K8 ?_ | refine K9 ?_ | refine L0 ?_ | refine L1 ?_ | refine L2 ?_ | refine L3 ?_ | refine L4 ?_ | refine L5 ?_ | refine L6 ?_) | refine Y0 hO rfl ?_ | refine Y1 hO rfl rfl (fun w hO => ?_) | refine Y2 hO rfl ?_ | refine Y3 hO rfl rfl (fun w hO => ?_) | refine l_y rfl rfl (y_index rfl rfl (by omega) (by omega)) ?_ | refine l_y rfl rfl (y_indexA rfl rfl (by omega) (by omega)) ?_ | refine L7 ?_ | refine L8 ?_ | refine L9 ?_ | refine M0 ?_ | refine M1 ?_ | refine M2 ?_ | refine M3 ?_ | refine M4 ?_ | refine M5 ?_ | refine M6 ?_ | refine M7 ?_ | refine M8 ?_ | refine M9 ?_ | refine N0 ?_ | refine N1 ?_ | refine N2 ?_ | refine N3 ?_ | refine N4 ?_ | refine N5 ?_ | refine N6 ?_ | refine N7 ?_ | refine N8 ?_ | refine N9 ?_ | refine R0 ?_ | refine R1 ?_ | refine R2 ?_ | refine R3 ?_ | refine R4 ?_ | refine R5 ?_ | refine R6 ?_ | refine R7 ?_ | refine R8 ?_ | refine R9 ?_ | refine S0 ?_)
        refine s_callO hO (As := []) (.nil _) rfl rfl rfl (fun k' hx hr hO' => number_spec k' _ b j (hr (jobs jl) (by simp) _ _ (jobs_has hb)) hO') ?_
        rintro _ _ w ⟨rfl, rfl⟩ hO
        have hO : Own k w [_, _, _, _] := hO
        repeat (first | (with_reducible first | refine K0 ?_ | refine K1 ?_ | refine K2 ?_ | refine K3 ?_ | refine K4 ?_ | refine K5 ?_ | refine K6 ?_ | refine K7 ?_ | refine K8 ?_ | refine K9 ?_ | refine L0 ?_ | refine L1 ?_ | refine L2 ?_ | refine L3 ?_ | refine L4 ?_ | refine L5 ?_ | refine L6 ?_) | refine Y0 hO rfl ?_ | refine Y1 hO rfl rfl (fun w hO => ?_) | refine Y2 hO rfl ?_ | refine Y3 hO rfl rfl (fun w hO => ?_) | refine l_y rfl rfl (y_index rfl rfl (by omega) (by omega)) ?_ | refine l_y rfl rfl (y_indexA rfl rfl (by omega) (by omega)) ?_ | refine L7 ?_ | refine L8 ?_ | refine L9 ?_ | refine M0 ?_ | refine M1 ?_ | refine M2 ?_ | refine M3 ?_ | refine M4 ?_ | refine M5 ?_ | refine M6 ?_ | refine M7 ?_ | refine M8 ?_ | refine M9 ?_ | refine N0 ?_ | refine N1 ?_ | refine N2 ?_ | refine N3 ?_ | refine N4 ?_ | refine N5 ?_ | refine N6 ?_ | refine N7 ?_ | refine N8 ?_ | refine N9 ?_ | refine R0 ?_ | refine R1 ?_ | refine R2 ?_ | refine R3 ?_ | refine R4 ?_ | refine R5 ?_ | refine R6 ?_ | refine R7 ?_ | refine R8 ?_ | refine R9 ?_ | refine S0 ?_)
        refine l_y rfl rfl (y_load1 rfl (hH1.holds hO)) ?_
        refine l_y rfl rfl (y_remN rfl rfl hxb'.1 (by decide)) ?_
        rw [hsx]
        repeat (first | (with_reducible first | refine K0 ?_ | refine K1 ?_ | refine K2 ?_ | refine K3 ?_ | refine K4 ?_ | refine K5 ?_ | refine K6 ?_ | refine K7 ?_ | refine K8 ?_ | refine K9 ?_ | refine L0 ?_ | refine L1 ?_ | refine L2 ?_ | refine L3 ?_ | refine L4 ?_ | refine L5 ?_ | refine L6 ?_) | refine Y0 hO rfl ?_ | refine Y1 hO rfl rfl (fun w hO => ?_) | refine Y2 hO rfl ?_ | refine Y3 hO rfl rfl (fun w hO => ?_) | refine l_y rfl rfl (y_index rfl rfl (by omega) (by omega)) ?_ | refine l_y rfl rfl (y_indexA rfl rfl (by omega) (by omega)) ?_ | refine L7 ?_ | refine L8 ?_ | refine L9 ?_ | refine M0 ?_ | refine M1 ?_ | refine M2 ?_ | refine M3 ?_ | refine M4 ?_ | refine M5 ?_ | refine M6 ?_ | refine M7 ?_ | refine M8 ?_ | refine M9 ?_ | refine N0 ?_ | refine N1 ?_ | refine N2 ?_ | refine N3 ?_ | refine N4 ?_ | refine N5 ?_ | refine N6 ?_ | refine N7 ?_ | refine N8 ?_ | refine N9 ?_ | refine R0 ?_ | refine R1 ?_ | refine R2 ?_ | refine R3 ?_ | refine R4 ?_ | refine R5 ?_ | refine R6 ?_ | refine R7 ?_ | refine R8 ?_ | refine R9 ?_ | refine S0 ?_)
        refine l_y rfl rfl (y_load1 rfl (hO.holds (.tl _ (.tl _ (.tl _ (.hd _ _ _)))) (.ofArr1 (iv_get hz) rfl))) ?_
        repeat (first | (with_reducible first | refine K0 ?_ | refine K1 ?_ | refine K2 ?_ | refine K3 ?_ | refine K4 ?_ | refine K5 ?_ | refine K6 ?_ | refine K7 ?_ | refine K8 ?_ | refine K9 ?_ | refine L0 ?_ | refine L1 ?_ | refine L2 ?_ | refine L3 ?_ | refine L4 ?_ | refine L5 ?_ | refine L6 ?_) | refine Y0 hO rfl ?_ | refine Y1 hO rfl rfl (fun w hO => ?_) | refine Y2 hO rfl ?_ | refine Y3 hO rfl rfl (fun w hO => ?_) | refine l_y rfl rfl (y_index rfl rfl (by omega) (by omega)) ?_ | refine l_y rfl rfl (y_indexA rfl rfl (by omega) (by omega)) ?_ | refine L7 ?_ | refine L8 ?_ | refine L9 ?_ | refine M0 ?_ | refine M1 ?_ | refine M2 ?_ | refine M3 ?_ | refine M4 ?_ | refine M5 ?_ | refine M6 ?_ | refine M7 ?_ | refine M8 ?_ | refine M9 ?_ | refine N0 ?_ | refine N1 ?_ | refine N2 ?_ | refine N3 ?_ | refine N4 ?_ | refine N5 ?_ | refine N6 ?_ | refine N7 ?_ | refine N8 ?_ | refine N9 ?_ | refine R0 ?_ | refine R1 ?_ | refine R2 ?_ | refine R3 ?_ | refine R4 ?_ | refine R5 ?_ | refine R6 ?_ | refine R7 ?_ | refine R8 ?_ | refine R9 ?_ | refine S0 ?_)
        refine s_store1 hO rfl rfl rfl rfl rfl (.tl _ (.tl _ (.tl _ (.hd _ _ _)))) (Upd.ofArr1 (iv_get hz) rfl) fun w hO => ?_
        have hO : Own k w [_, que q (upd f s (f s).tail), jobs jl, arr lb 0 4 3 1 ((iv .i64 ls).set s [.int .i64 (j : Int)])] := hO
        rw [iv_set] at hO
        repeat (first | (with_reducible first | refine K0 ?_ | refine K1 ?_ | refine K2 ?_ | refine K3 ?_ | refine K4 ?_ | refine K5 ?_ | refine K6 ?_ | refine K7 ?_ | refine K8 ?_ | refine K9 ?_ | refine L0 ?_ | refine L1 ?_ | refine L2 ?_ | refine L3 ?_ | refine L4 ?_ | refine L5 ?_ | refine L6 ?_) | refine Y0 hO rfl ?_ | refine Y1 hO rfl rfl (fun w hO => ?_) | refine Y2 hO rfl ?_ | refine Y3 hO rfl rfl (fun w hO => ?_) | refine l_y rfl rfl (y_index rfl rfl (by omega) (by omega)) ?_ | refine l_y rfl rfl (y_indexA rfl rfl (by omega) (by omega)) ?_ | refine L7 ?_ | refine L8 ?_ | refine L9 ?_ | refine M0 ?_ | refine M1 ?_ | refine M2 ?_ | refine M3 ?_ | refine M4 ?_ | refine M5 ?_ | refine M6 ?_ | refine M7 ?_ | refine M8 ?_ | refine M9 ?_ | refine N0 ?_ | refine N1 ?_ | refine N2 ?_ | refine N3 ?_ | refine N4 ?_ | refine N5 ?_ | refine N6 ?_ | refine N7 ?_ | refine N8 ?_ | refine N9 ?_ | refine R0 ?_ | refine R1 ?_ | refine R2 ?_ | refine R3 ?_ | refine R4 ?_ | refine R5 ?_ | refine R6 ?_ | refine R7 ?_ | refine R8 ?_ | refine R9 ?_ | refine S0 ?_)
        refine q_next (r + 1, ls.set s (j : Int), updN g s (g s).tail, upd f s (f s).tail) ⟨rfl, rfl, rfl, rfl, rfl, rfl, trivial⟩ ⟨hO.drop, by simp [hls], hlt, wait_next hW s, holds4_next hH s, ?_, fun s' z' hz' j' hj' => ?_⟩ (by dsimp only; omega)
        · have h1 := tot_upd g s hs4 (g s).tail
          have h2 : (g s).tail.length + 1 = (g s).length := by rw [hgs]; simp
          dsimp only
          omega
        · dsimp only at hz' hj'
          unfold updN at hj'
          by_cases hss : s' = s
          · subst hss
            rw [if_pos rfl, hgs] at hj'
            have hz2 : z' = (j : Int) := by
              rw [List.getElem?_set_self (by omega)] at hz'
              exact (Option.some.inj hz').symm
            have hsrt := hW.srt s'
            rw [hgs] at hsrt
            have := (List.pairwise_cons.1 hsrt).1 j' hj'
            omega
          · rw [if_neg hss] at hj'
            rw [List.getElem?_set_ne (fun h => hss h.symm)] at hz'
            exact hlast s' z' hz' j' hj'
    · obtain rfl : r = i := by omega
      have ht0 : tot g = 0 := by omega
      have hz : ∀ s, (f s).length = 0 := fun s => by have := wait_len hH hW (Nat.le_of_eq ht0) s; omega
      have hr0 := ready_none0 f hz 4
      repeat (first | (with_reducible first | refine K0 ?_ | refine K1 ?_ | refine K2 ?_ | refine K3 ?_ | refine K4 ?_ | refine K5 ?_ | refine K6 ?_ | refine K7 ?_ | refine K8 ?_ | refine K9 ?_ | refine L0 ?_ | refine L1 ?_ | refine L2 ?_ | refine L3 ?_ | refine L4 ?_ | refine L5 ?_ | refine L6 ?_) | refine Y0 hO rfl ?_ | refine Y1 hO rfl rfl (fun w hO => ?_) | refine Y2 hO rfl ?_ | refine Y3 hO rfl rfl (fun w hO => ?_) | refine l_y rfl rfl (y_index rfl rfl (by omega) (by omega)) ?_ | refine l_y rfl rfl (y_indexA rfl rfl (by omega) (by omega)) ?_ | refine L7 ?_ | refine L8 ?_ | refine L9 ?_ | refine M0 ?_ | refine M1 ?_ | refine M2 ?_ | refine M3 ?_ | refine M4 ?_ | refine M5 ?_ | refine M6 ?_ | refine M7 ?_ | refine M8 ?_ | refine M9 ?_ | refine N0 ?_ | refine N1 ?_ | refine N2 ?_ | refine N3 ?_ | refine N4 ?_ | refine N5 ?_ | refine N6 ?_ | refine N7 ?_ | refine N8 ?_ | refine N9 ?_ | refine R0 ?_ | refine R1 ?_ | refine R2 ?_ | refine R3 ?_ | refine R4 ?_ | refine R5 ?_ | refine R6 ?_ | refine R7 ?_ | refine R8 ?_ | refine R9 ?_ | refine S0 ?_)
      refine s_callO hO (.cons (.hd _ _) (.nil _)) rfl rfl rfl (fun k' hx hr hO => Next_spec k' _ q f 0 hO) ?_
      rintro _ m w (⟨_, hr, rest, hm'⟩ | ⟨s, t, hne, _⟩) hO
      · subst hr hm'
        have hO := hO.cut
        repeat (first | (with_reducible first | refine K0 ?_ | refine K1 ?_ | refine K2 ?_ | refine K3 ?_ | refine K4 ?_ | refine K5 ?_ | refine K6 ?_ | refine K7 ?_ | refine K8 ?_ | refine K9 ?_ | refine L0 ?_ | refine L1 ?_ | refine L2 ?_ | refine L3 ?_ | refine L4 ?_ | refine L5 ?_ | refine L6 ?_) | refine Y0 hO rfl ?_ | refine Y1 hO rfl rfl (fun w hO => ?_) | refine Y2 hO rfl ?_ | refine Y3 hO rfl rfl (fun w hO => ?_) | refine l_y rfl rfl (y_index rfl rfl (by omega) (by omega)) ?_ | refine l_y rfl rfl (y_indexA rfl rfl (by omega) (by omega)) ?_ | refine L7 ?_ | refine L8 ?_ | refine L9 ?_ | refine M0 ?_ | refine M1 ?_ | refine M2 ?_ | refine M3 ?_ | refine M4 ?_ | refine M5 ?_ | refine M6 ?_ | refine M7 ?_ | refine M8 ?_ | refine M9 ?_ | refine N0 ?_ | refine N1 ?_ | refine N2 ?_ | refine N3 ?_ | refine N4 ?_ | refine N5 ?_ | refine N6 ?_ | refine N7 ?_ | refine N8 ?_ | refine N9 ?_ | refine R0 ?_ | refine R1 ?_ | refine R2 ?_ | refine R3 ?_ | refine R4 ?_ | refine R5 ?_ | refine R6 ?_ | refine R7 ?_ | refine R8 ?_ | refine R9 ?_ | refine S0 ?_)
        refine s_alloc (vs := [.int .i64 0, .slice none 0 0, .slice none 0 0]) hO rfl rfl rfl fun bt w hO => ?_
        repeat (first | (with_reducible first | refine K0 ?_ | refine K1 ?_ | refine K2 ?_ | refine K3 ?_ | refine K4 ?_ | refine K5 ?_ | refine K6 ?_ | refine K7 ?_ | refine K8 ?_ | refine K9 ?_ | refine L0 ?_ | refine L1 ?_ | refine L2 ?_ | refine L3 ?_ | refine L4 ?_ | refine L5 ?_ | refine L6 ?_) | refine Y0 hO rfl ?_ | refine Y1 hO rfl rfl (fun w hO => ?_) | refine Y2 hO rfl ?_ | refine Y3 hO rfl rfl (fun w hO => ?_) | refine l_y rfl rfl (y_index rfl rfl (by omega) (by omega)) ?_ | refine l_y rfl rfl (y_indexA rfl rfl (by omega) (by omega)) ?_ | refine L7 ?_ | refine L8 ?_ | refine L9 ?_ | refine M0 ?_ | refine M1 ?_ | refine M2 ?_ | refine M3 ?_ | refine M4 ?_ | refine M5 ?_ | refine M6 ?_ | refine M7 ?_ | refine M8 ?_ | refine M9 ?_ | refine N0 ?_ | refine N1 ?_ | refine N2 ?_ | refine N3 ?_ | refine N4 ?_ | refine N5 ?_ | refine N6 ?_ | refine N7 ?_ | refine N8 ?_ | refine N9 ?_ | refine R0 ?_ | refine R1 ?_ | refine R2 ?_ | refine R3 ?_ | refine R4 ?_ | refine R5 ?_ | refine R6 ?_ | refine R7 ?_ | refine R8 ?_ | refine R9 ?_ | refine S0 ?_)
        refine s_callO hO (.cons (.tl _ (.hd _ _)) (.nil _)) rfl rfl rfl (fun k' hx hr hO => Len_spec k' _ q f (fun s => by rw [hz s]; exact Nat.zero_le _) hO) ?_
        rintro _ _ w ⟨rfl, rfl⟩ hO
        have hlq : lenQ f 4 = 0 := by simp [lenQ, hz]
        rw [hlq]
        repeat (first | (with_reducible first | refine K0 ?_ | refine K1 ?_ | refine K2 ?_ | refine K3 ?_ | refine K4 ?_ | refine K5 ?_ | refine K6 ?_ | refine K7 ?_ | refine K8 ?_ | refine K9 ?_ | refine L0 ?_ | refine L1 ?_ | refine L2 ?_ | refine L3 ?_ | refine L4 ?_ | refine L5 ?_ | refine L6 ?_) | refine Y0 hO rfl ?_ | refine Y1 hO rfl rfl (fun w hO => ?_) | refine Y2 hO rfl ?_ | refine Y3 hO rfl rfl (fun w hO => ?_) | refine l_y rfl rfl (y_index rfl rfl (by omega) (by omega)) ?_ | refine l_y rfl rfl (y_indexA rfl rfl (by omega) (by omega)) ?_ | refine L7 ?_ | refine L8 ?_ | refine L9 ?_ | refine M0 ?_ | refine M1 ?_ | refine M2 ?_ | refine M3 ?_ | refine M4 ?_ | refine M5 ?_ | refine M6 ?_ | refine M7 ?_ | refine M8 ?_ | refine M9 ?_ | refine N0 ?_ | refine N1 ?_ | refine N2 ?_ | refine N3 ?_ | refine N4 ?_ | refine N5 ?_ | refine N6 ?_ | refine N7 ?_ | refine N8 ?_ | refine N9 ?_ | refine R0 ?_ | refine R1 ?_ | refine R2 ?_ | refine R3 ?_ | refine R4 ?_ | refine R5 ?_ | refine R6 ?_ | refine R7 ?_ | refine R8 ?_ | refine R9 ?_ | refine S0 ?_)
        exact fin1 rfl rfl ⟨_, rfl, hO⟩
      · exact absurd hr0 hne
end Go.Proofs.Ytnlnfmjnoabfeaa
