/- The walks of the law's own helpers: plain, all, runes, awake; what a stream keeps. -/
import Derived.Test.YtfpppopcdhihgaaInp3
set_option linter.unusedVariables false
set_option linter.unusedSimpArgs false
namespace Go.Proofs.Ytfpppopcdhihgaa
open Go Go.Hb Go.RowKit
/-- what holds of every stream that calls made -/
structure St.Ok (σ : St) : Prop where
  fine : σ.Fine
  rng : ∀ x ∈ σ.M, 0 ≤ x ∧ x ≤ σ.L.length
  srt : σ.M.Pairwise (fun a b => b ≤ a)
theorem ok_new : St.Ok ⟨[], [], false, false, false⟩ := ⟨⟨by simp, by simp⟩, by simp, by simp⟩
theorem ok_end {σ : St} (h : σ.Ok) : (endS σ).2.Ok := by
  unfold endS
  split
  · exact h
  · exact ⟨⟨h.1.1, h.1.2⟩, h.2, h.3⟩
theorem ok_drop {σ : St} (h : σ.Ok) : (dropS σ).2.Ok := by
  unfold dropS
  split
  · exact h
  · exact ⟨⟨by simp, by simp⟩, by simp, by simp⟩
theorem ok_mark {σ : St} (h : σ.Ok) : (markS σ).2.Ok := by
  unfold markS
  split
  · exact h
  · rename_i hne
    have := h.1.2
    refine ⟨⟨h.1.1, by simp; omega⟩, ?_, ?_⟩
    · intro x hx
      rcases List.mem_append.1 hx with hx | hx
      · exact h.2 x hx
      · simp at hx; subst hx; simp
    · refine List.pairwise_append.2 ⟨h.3, by simp, fun a ha b hb => ?_⟩
      simp at hb; subst hb
      exact (h.2 a ha).1
theorem ok_unmark {σ : St} (h : σ.Ok) : (unmarkS σ).2.Ok := by
  unfold unmarkS
  split
  · exact h
  · have hs : σ.M.dropLast.Sublist σ.M := List.dropLast_sublist _
    have := h.1.2
    exact ⟨⟨h.1.1, by have := hs.length_le; show σ.M.dropLast.length ≤ 21; omega⟩, fun x hx => h.2 x (hs.mem hx), h.3.sublist hs⟩
theorem ok_feed {σ : St} (h : σ.Ok) (x : List Int) : (feedS σ x).2.Ok := by
  unfold feedS
  split
  · exact h
  · split
    · rename_i hr
      have := ends_len x σ.cr
      have h1 := h.1.1
      refine ⟨⟨by simp; omega, h.1.2⟩, fun z hz => ?_, h.3⟩
      have := h.2 z hz
      simp; omega
    · exact h
theorem ok_write {σ : St} (h : σ.Ok) (x : List Int) : (writeS σ x).2.Ok := by
  unfold writeS
  split
  · exact h
  · rename_i z hz
    split
    · rename_i hr
      have := ends_len x false
      have h1 := h.1.1
      have hzm : z ∈ σ.M := List.mem_of_getLast? hz
      have hzb := h.2 z hzm
      refine ⟨⟨by simp; omega, by simpa using h.1.2⟩, fun y hy => ?_, ?_⟩
      · simp only [List.mem_map] at hy
        obtain ⟨q, hq, rfl⟩ := hy
        have := h.2 q hq
        simp; omega
      · refine List.pairwise_map.2 (h.3.imp fun hab => ?_)
        omega
    · exact h
theorem last_le {M : List Int} (h : M.Pairwise (fun a b => b ≤ a)) {z : Int} (hz : M.getLast? = some z) : ∀ x ∈ M, z ≤ x := by
  rcases last_cases M with rfl | ⟨Ms, y, rfl⟩
  · simp at hz
  · simp at hz
    subst hz
    intro x hx
    rcases List.mem_append.1 hx with hx | hx
    · exact (List.pairwise_append.1 h).2.2 x hx y (by simp)
    · simp at hx; omega
theorem ok_next {σ : St} (h : σ.Ok) : (nextS σ).2.Ok := by
  unfold nextS
  split
  · rename_i hc
    obtain ⟨hp, hne⟩ := hc
    have h1 := h.1.1
    have hlast : σ.M.getLast? ≠ some 0 := by
      intro e
      simp [peekS, e] at hp
    have hL : σ.L.tail.length + 1 = σ.L.length := by cases hl : σ.L with | nil => exact absurd hl hne | cons a l => simp
    refine ⟨⟨by show σ.L.tail.length ≤ _; omega, by simpa using h.1.2⟩, fun y hy => ?_, ?_⟩
    · simp only [List.mem_map] at hy
      obtain ⟨q, hq, rfl⟩ := hy
      have hb := h.2 q hq
      obtain ⟨z, hz⟩ : ∃ z, σ.M.getLast? = some z := by
        cases hg : σ.M.getLast? with
        | none => rw [List.getLast?_eq_none_iff] at hg; rw [hg] at hq; cases hq
        | some z => exact ⟨z, rfl⟩
      have hz0 : z ≠ 0 := by rintro rfl; exact hlast hz
      have hzb := h.2 z (List.mem_of_getLast? hz)
      have := last_le h.3 hz q hq
      show 0 ≤ q + -1 ∧ q + -1 ≤ (σ.L.tail.length : Int)
      omega
    · refine List.pairwise_map.2 (h.3.imp fun hab => ?_)
      omega
  · exact h
/-- how many can be read -/
def nread (σ : St) : Nat := match σ.M.getLast? with | none => σ.L.length | some z => z.toNat
/-- the stream when j of them are read -/
def St.at (σ : St) (j : Nat) : St := { σ with L := σ.L.drop j, M := σ.M.map (· + -(j : Int)) }
theorem at_zero (σ : St) : σ.at 0 = σ := by simp [St.at]
theorem nread_le {σ : St} (h : σ.Ok) : nread σ ≤ σ.L.length := by
  unfold nread
  split
  · exact Nat.le_refl _
  · rename_i z hz
    have := h.2 z (List.mem_of_getLast? hz)
    omega
theorem next_at {σ : St} (h : σ.Ok) {j : Nat} (hj : j < nread σ) {x : Int} (hx : σ.L[j]? = some x) : nextS (σ.at j) = ((x, true), σ.at (j + 1)) := by
  have hl := nread_le h
  have hd : σ.L.drop j = x :: σ.L.drop (j + 1) := by
    rw [List.drop_eq_getElem_cons (by omega)]; congr 1
    rw [List.getElem?_eq_getElem (by omega)] at hx; exact Option.some.inj hx
  have hp : peekS (σ.at j) = (x, true) := by
    unfold peekS
    have : (σ.at j).M.getLast? ≠ some 0 := by
      simp only [St.at, List.getLast?_map]
      unfold nread at hj
      split at hj
      · rename_i he; rw [he]; simp
      · rename_i z he
        have := h.2 z (List.mem_of_getLast? he)
        rw [he]; simp; omega
    rw [if_neg this]
    simp only [St.at, hd]
  unfold nextS
  rw [hp, if_pos ⟨rfl, by simp [St.at, hd]⟩]
  simp only [St.at, hd, List.tail_cons, List.map_map]
  congr 2
  apply List.map_congr_left
  intro a _
  simp; omega
theorem next_end {σ : St} (h : σ.Ok) : (nextS (σ.at (nread σ))).2 = σ.at (nread σ) ∧ ((nextS (σ.at (nread σ))).1.2 = false ∨ (nextS (σ.at (nread σ))).1.1 = -1) := by
  have key : (peekS (σ.at (nread σ))).2 = false ∨ ((peekS (σ.at (nread σ))).1 = -1 ∧ (σ.at (nread σ)).L = []) := by
    unfold peekS
    cases he : σ.M.getLast? with
    | none =>
      have hn : nread σ = σ.L.length := by simp [nread, he]
      have hM : σ.M = [] := List.getLast?_eq_none_iff.1 he
      rw [if_neg (by simp [St.at, hM])]
      simp only [St.at, hn, List.drop_length]
      split
      · exact .inr ⟨rfl, trivial⟩
      · exact .inl rfl
    | some z =>
      have hb := h.2 z (List.mem_of_getLast? he)
      have hn : nread σ = z.toNat := by simp [nread, he]
      rw [if_pos (by simp only [St.at, List.getLast?_map, he, hn]; simp; omega)]
      exact .inl rfl
  unfold nextS
  rcases key with hk | ⟨hk, hl⟩
  · rw [if_neg (by simp [hk])]
    exact ⟨rfl, .inl hk⟩
  · rw [if_neg (by simp [hl])]
    exact ⟨rfl, .inr hk⟩
theorem fine_at {σ : St} (h : σ.Ok) (j : Nat) : (σ.at j).Fine := ⟨by have := h.1.1; simp [St.at]; omega, by have := h.1.2; simpa [St.at] using this⟩
theorem bnd_at {σ : St} (h : σ.Ok) {j : Nat} (hj : j ≤ nread σ) : ∀ x ∈ (σ.at j).M, -1000000000 ≤ x ∧ x ≤ 1000000000 := by
  intro x hx
  simp only [St.at, List.mem_map] at hx
  obtain ⟨q, hq, rfl⟩ := hx
  have := h.2 q hq
  have h1 := h.1.1
  have := nread_le h
  omega
theorem all_spec (k : Ctx) (w : World) (s : Nat) (σ : St) (hf : σ.Ok) (hne : ∀ x ∈ σ.L, x ≠ -1) (hO : Own k w [stm s σ]) :
    Tri Try.prog 13 #[.pointer (some ⟨s, 0, none⟩)] k w fun r m => m = [stm s (σ.at (nread σ)), rsl r (σ.L.take (nread σ))] := by
  refine enter (args := [.pointer (some ⟨s, 0, none⟩)]) Try.func13 rfl rfl ?_
  repeat (first | (with_reducible first | refine K0 ?_ | refine K1 ?_ | refine K2 ?_ | refine K3 ?_ | refine K4 ?_ | refine K5 ?_ | refine K6 ?_ | refine K7 ?_ | refine K8 ?_ | refine K9 ?_ | refine L0 ?_ | refine L1 ?_ | refine L2 ?_ | refine L3 ?_ | refine L4 ?_ | refine L5 ?_ | refine L6 ?_) | refine Y0 hO rfl ?_ | refine Y1 hO rfl rfl (fun w hO => ?_) | refine Y2 hO rfl ?_ | refine Y3 hO rfl rfl (fun w hO => ?_) | refine l_y rfl rfl (y_index rfl rfl (by omega) (by omega)) ?_ | refine l_y rfl rfl (y_indexA rfl rfl (by omega) (by omega)) ?_ | refine L7 ?_ | refine L8 ?_ | refine L9 ?_ | refine M0 ?_ | refine M1 ?_ | refine M2 ?_ | refine M3 ?_ | refine M4 ?_ | refine M5 ?_ | refine M6 ?_ | refine M7 ?_ | refine M8 ?_ | refine M9 ?_ | refine N0 ?_ | refine N1 ?_ | refine N2 ?_ | refine N3 ?_ | refine N4 ?_ | refine N5 ?_ | refine N6 ?_ | refine N7 ?_ | refine N8 ?_ | refine N9 ?_ | refine R0 ?_ | refine R1 ?_ | refine R2 ?_ | refine R3 ?_ | refine R4 ?_ | refine R5 ?_ | refine R6 ?_ | refine R7 ?_ | refine R8 ?_ | refine R9 ?_ | refine S0 ?_)
  have hO := (sl_nil 21 1 hO).swap
  have hnl := nread_le hf
  have hfl := hf.1.1
  refine c_rounds (X := Nat × Value) (fun x => [(0, .pointer (some ⟨s, 0, none⟩)), (3, x.2)]) (fun x w => Own k w [stm s (σ.at x.1), rsl x.2 (σ.L.take x.1)] ∧ x.1 ≤ nread σ) (fun x => nread σ - x.1) (0, .slice none 0 0) ⟨rfl, rfl, trivial⟩ ⟨by rw [at_zero]; exact hO, Nat.zero_le _⟩ ?_
  rintro ⟨j, v⟩ w m hm ⟨hO, hj⟩
  dsimp only at hO hj hm ⊢
  repeat (first | (with_reducible first | refine K0 ?_ | refine K1 ?_ | refine K2 ?_ | refine K3 ?_ | refine K4 ?_ | refine K5 ?_ | refine K6 ?_ | refine K7 ?_ | refine K8 ?_ | refine K9 ?_ | refine L0 ?_ | refine L1 ?_ | refine L2 ?_ | refine L3 ?_ | refine L4 ?_ | refine L5 ?_ | refine L6 ?_) | refine Y0 hO rfl ?_ | refine Y1 hO rfl rfl (fun w hO => ?_) | refine Y2 hO rfl ?_ | refine Y3 hO rfl rfl (fun w hO => ?_) | refine l_y rfl rfl (y_index rfl rfl (by omega) (by omega)) ?_ | refine l_y rfl rfl (y_indexA rfl rfl (by omega) (by omega)) ?_ | refine L7 ?_ | refine L8 ?_ | refine L9 ?_ | refine M0 ?_ | refine M1 ?_ | refine M2 ?_ | refine M3 ?_ | refine M4 ?_ | refine M5 ?_ | refine M6 ?_ | refine M7 ?_ | refine M8 ?_ | refine M9 ?_ | refine N0 ?_ | refine N1 ?_ | refine N2 ?_ | refine N3 ?_ | refine N4 ?_ | refine N5 ?_ | refine N6 ?_ | refine N7 ?_ | refine N8 ?_ | refine N9 ?_ | refine R0 ?_ | refine R1 ?_ | refine R2 ?_ | refine R3 ?_ | refine R4 ?_ | refine R5 ?_ | refine R6 ?_ | refine R7 ?_ | refine R8 ?_ | refine R9 ?_ | refine S0 ?_)
  refine s_callO hO (.cons (.hd _ _) (.nil _)) rfl rfl rfl (fun k' hx hr hO => Next_spec k' _ s (σ.at j) (fine_at hf j) (bnd_at hf hj) hO) ?_
  rintro _ _ w ⟨rfl, rfl⟩ hO
  have hO : Own k w [_, _] := hO
  by_cases hlt : j < nread σ
  · obtain ⟨x, hx⟩ : ∃ x, σ.L[j]? = some x := ⟨σ.L[j], List.getElem?_eq_getElem (by omega)⟩
    have hx1 := hne x (List.mem_of_getElem? hx)
    rw [next_at hf hlt hx] at hO ⊢
    have hvl := iv_length .i32 (σ.L.take j)
    have htl : (σ.L.take j).length = j := by simp; omega
    dsimp only at hO ⊢
    repeat (first | (with_reducible first | refine K0 ?_ | refine K1 ?_ | refine K2 ?_ | refine K3 ?_ | refine K4 ?_ | refine K5 ?_ | refine K6 ?_ | refine K7 ?_ | refine K8 ?_ | refine K9 ?_ | refine L0 ?_ | refine L1 ?_ | refine L2 ?_ | refine L3 ?_ | refine L4 ?_ | refine L5 ?_ | refine L6 ?_) | refine Y0 hO rfl ?_ | refine Y1 hO rfl rfl (fun w hO => ?_) | refine Y2 hO rfl ?_ | refine Y3 hO rfl rfl (fun w hO => ?_) | refine l_y rfl rfl (y_index rfl rfl (by omega) (by omega)) ?_ | refine l_y rfl rfl (y_indexA rfl rfl (by omega) (by omega)) ?_ | refine L7 ?_ | refine L8 ?_ | refine L9 ?_ | refine M0 ?_ | refine M1 ?_ | refine M2 ?_ | refine M3 ?_ | refine M4 ?_ | refine M5 ?_ | refine M6 ?_ | refine M7 ?_ | refine M8 ?_ | refine M9 ?_ | refine N0 ?_ | refine N1 ?_ | refine N2 ?_ | refine N3 ?_ | refine N4 ?_ | refine N5 ?_ | refine N6 ?_ | refine N7 ?_ | refine N8 ?_ | refine N9 ?_ | refine R0 ?_ | refine R1 ?_ | refine R2 ?_ | refine R3 ?_ | refine R4 ?_ | refine R5 ?_ | refine R6 ?_ | refine R7 ?_ | refine R8 ?_ | refine R9 ?_ | refine S0 ?_)
    refine S3 hO (.tl _ (.hd _ _)) rfl rfl rfl rfl (by decide) (by decide) rfl rfl (fun _ => rfl) rfl (fun _ => rfl) rfl (by omega) (by omega) fun _ v' w hO hgr => ?_
    repeat (first | (with_reducible first | refine K0 ?_ | refine K1 ?_ | refine K2 ?_ | refine K3 ?_ | refine K4 ?_ | refine K5 ?_ | refine K6 ?_ | refine K7 ?_ | refine K8 ?_ | refine K9 ?_ | refine L0 ?_ | refine L1 ?_ | refine L2 ?_ | refine L3 ?_ | refine L4 ?_ | refine L5 ?_ | refine L6 ?_) | refine Y0 hO rfl ?_ | refine Y1 hO rfl rfl (fun w hO => ?_) | refine Y2 hO rfl ?_ | refine Y3 hO rfl rfl (fun w hO => ?_) | refine l_y rfl rfl (y_index rfl rfl (by omega) (by omega)) ?_ | refine l_y rfl rfl (y_indexA rfl rfl (by omega) (by omega)) ?_ | refine L7 ?_ | refine L8 ?_ | refine L9 ?_ | refine M0 ?_ | refine M1 ?_ | refine M2 ?_ | refine M3 ?_ | refine M4 ?_ | refine M5 ?_ | refine M6 ?_ | refine M7 ?_ | refine M8 ?_ | refine M9 ?_ | refine N0 ?_ | refine N1 ?_ | refine N2 ?_ | refine N3 ?_ | refine N4 ?_ | refine N5 ?_ | refine N6 ?_ | refine N7 ?_ | refine N8 ?_ | refine N9 ?_ | refine R0 ?_ | refine R1 ?_ | refine R2 ?_ | refine R3 ?_ | refine R4 ?_ | refine R5 ?_ | refine R6 ?_ | refine R7 ?_ | refine R8 ?_ | refine R9 ?_ | refine S0 ?_)
    have hO := ivs hO
    rw [show σ.L.take j ++ [x] = σ.L.take (j + 1) by rw [List.take_add_one, hx]; rfl] at hO
    exact q_next (j + 1, v') ⟨rfl, rfl, trivial⟩ ⟨hO.swap, hlt⟩ (by dsimp only; omega)
  · obtain rfl : j = nread σ := by omega
    obtain ⟨he1, he2⟩ := next_end hf
    rw [he1] at hO
    rcases he2 with he2 | he2
    · rw [he2]
      repeat (first | (with_reducible first | refine K0 ?_ | refine K1 ?_ | refine K2 ?_ | refine K3 ?_ | refine K4 ?_ | refine K5 ?_ | refine K6 ?_ | refine K7 ?_ | refine K8 ?_ | refine K9 ?_ | refine L0 ?_ | refine L1 ?_ | refine L2 ?_ | refine L3 ?_ | refine L4 ?_ | refine L5 ?_ | refine L6 ?_) | refine Y0 hO rfl ?_ | refine Y1 hO rfl rfl (fun w hO => ?_) | refine Y2 hO rfl ?_ | refine Y3 hO rfl rfl (fun w hO => ?_) | refine l_y rfl rfl (y_index rfl rfl (by omega) (by omega)) ?_ | refine l_y rfl rfl (y_indexA rfl rfl (by omega) (by omega)) ?_ | refine L7 ?_ | refine L8 ?_ | refine L9 ?_ | refine M0 ?_ | refine M1 ?_ | refine M2 ?_ | refine M3 ?_ | refine M4 ?_ | refine M5 ?_ | refine M6 ?_ | refine M7 ?_ | refine M8 ?_ | refine M9 ?_ | refine N0 ?_ | refine N1 ?_ | refine N2 ?_ | refine N3 ?_ | refine N4 ?_ | refine N5 ?_ | refine N6 ?_ | refine N7 ?_ | refine N8 ?_ | refine N9 ?_ | refine R0 ?_ | refine R1 ?_ | refine R2 ?_ | refine R3 ?_ | refine R4 ?_ | refine R5 ?_ | refine R6 ?_ | refine R7 ?_ | refine R8 ?_ | refine R9 ?_ | refine S0 ?_)
      exact fin1 rfl rfl ⟨_, rfl, hO⟩
    · rw [he2]
      obtain ⟨b, hb⟩ : ∃ b, b = (nextS (σ.at (nread σ))).1.2 := ⟨_, rfl⟩
      rw [← hb]
      cases b
      · repeat (first | (with_reducible first | refine K0 ?_ | refine K1 ?_ | refine K2 ?_ | refine K3 ?_ | refine K4 ?_ | refine K5 ?_ | refine K6 ?_ | refine K7 ?_ | refine K8 ?_ | refine K9 ?_ | refine L0 ?_ | refine L1 ?_ | refine L2 ?_ | refine L3 ?_ | refine L4 ?_ | refine L5 ?_ | refine L6 ?_) | refine Y0 hO rfl ?_ | refine Y1 hO rfl rfl (fun w hO => ?_) | refine Y2 hO rfl ?_ | refine Y3 hO rfl rfl (fun w hO => ?_) | refine l_y rfl rfl (y_index rfl rfl (by omega) (by omega)) ?_ | refine l_y rfl rfl (y_indexA rfl rfl (by omega) (by omega)) ?_ | refine L7 ?_ | refine L8 ?_ | refine L9 ?_ | refine M0 ?_ | refine M1 ?_ | refine M2 ?_ | refine M3 ?_ | refine M4 ?_ | refine M5 ?_ | refine M6 ?_ | refine M7 ?_ | refine M8 ?_ | refine M9 ?_ | refine N0 ?_ | refine N1 ?_ | refine N2 ?_ | refine N3 ?_ | refine N4 ?_ | refine N5 ?_ | refine N6 ?_ | refine N7 ?_ | refine N8 ?_ | refine N9 ?_ | refine R0 ?_ | refine R1 ?_ | refine R2 ?_ | refine R3 ?_ | refine R4 ?_ | refine R5 ?_ | refine R6 ?_ | refine R7 ?_ | refine R8 ?_ | refine R9 ?_ | refine S0 ?_)
        exact fin1 rfl rfl ⟨_, rfl, hO⟩
      · repeat (first | (with_reducible first | refine K0 ?_ | refine K1 ?_ | refine K2 ?_ | refine K3 ?_ | refine K4 ?_ | refine K5 ?_ | refine K6 ?_ | refine K7 ?_ | refine K8 ?_ | refine K9 ?_ | refine L0 ?_ | refine L1 ?_ | refine L2 ?_ | refine L3 ?_ | refine L4 ?_ | refine L5 ?_ | refine L6 ?_) | refine Y0 hO rfl ?_ | refine Y1 hO rfl rfl (fun w hO => ?_) | refine Y2 hO rfl ?_ | refine Y3 hO rfl rfl (fun w hO => ?_) | refine l_y rfl rfl (y_index rfl rfl (by omega) (by omega)) ?_ | refine l_y rfl rfl (y_indexA rfl rfl (by omega) (by omega)) ?_ | refine L7 ?_ | refine L8 ?_ | refine L9 ?_ | refine M0 ?_ | refine M1 ?_ | refine M2 ?_ | refine M3 ?_ | refine M4 ?_ | refine M5 ?_ | refine M6 ?_ | refine M7 ?_ | refine M8 ?_ | refine M9 ?_ | refine N0 ?_ | refine N1 ?_ | refine N2 ?_ | refine N3 ?_ | refine N4 ?_ | refine N5 ?_ | refine N6 ?_ | refine N7 ?_ | refine N8 ?_ | refine N9 ?_ | refine R0 ?_ | refine R1 ?_ | refine R2 ?_ | refine R3 ?_ | refine R4 ?_ | refine R5 ?_ | refine R6 ?_ | refine R7 ?_ | refine R8 ?_ | refine R9 ?_ | refine S0 ?_)
        exact fin1 rfl rfl ⟨_, rfl, hO⟩
theorem runes_spec (k : Ctx) (w : World) (pa pb : Option Addr) (na nb ca cb : Nat) (x y : List Int) (hx : Sli (Ro k) (.slice pa na ca) (iv .i32 x)) (hy : Sli (Ro k) (.slice pb nb cb) (iv .i32 y)) (hxl : x.length ≤ 9223372036854775807) (hO : Own k w []) :
    Tri Try.prog 14 #[.slice pa na ca, .slice pb nb cb] k w fun r m => r = .bool (decide (x = y)) ∧ m = [] := by
  refine enter (args := [.slice pa na ca, .slice pb nb cb]) Try.func14 rfl rfl ?_
  have h1 := hx.fits.1
  have h2 := hy.fits.1
  rw [iv_length] at h1 h2
  subst h1 h2
  by_cases hl : x.length = y.length
  · repeat (first | (with_reducible first | refine K0 ?_ | refine K1 ?_ | refine K2 ?_ | refine K3 ?_ | refine K4 ?_ | refine K5 ?_ | refine K6 ?_ | refine K7 ?_ | refine K8 ?_ | refine K9 ?_ | refine L0 ?_ | refine L1 ?_ | refine L2 ?_ | refine L3 ?_ | refine L4 ?_ | refine L5 ?_ | refine L6 ?_) | refine Y0 hO rfl ?_ | refine Y1 hO rfl rfl (fun w hO => ?_) | refine Y2 hO rfl ?_ | refine Y3 hO rfl rfl (fun w hO => ?_) | refine l_y rfl rfl (y_index rfl rfl (by omega) (by omega)) ?_ | refine l_y rfl rfl (y_indexA rfl rfl (by omega) (by omega)) ?_ | refine L7 ?_ | refine L8 ?_ | refine L9 ?_ | refine M0 ?_ | refine M1 ?_ | refine M2 ?_ | refine M3 ?_ | refine M4 ?_ | refine M5 ?_ | refine M6 ?_ | refine M7 ?_ | refine M8 ?_ | refine M9 ?_ | refine N0 ?_ | refine N1 ?_ | refine N2 ?_ | refine N3 ?_ | refine N4 ?_ | refine N5 ?_ | refine N6 ?_ | refine N7 ?_ | refine N8 ?_ | refine N9 ?_ | refine R0 ?_ | refine R1 ?_ | refine R2 ?_ | refine R3 ?_ | refine R4 ?_ | refine R5 ?_ | refine R6 ?_ | refine R7 ?_ | refine R8 ?_ | refine R9 ?_ | refine S0 ?_)
    refine c_rounds (X := Nat) (fun i => [(0, .slice pa x.length ca), (1, .slice pb y.length cb), (5, .int .i64 i)]) (fun i w => Own k w [] ∧ i ≤ x.length ∧ x.take i = y.take i) (fun i => x.length - i) 0 ⟨rfl, rfl, rfl, trivial⟩ ⟨hO, Nat.zero_le _, rfl⟩ ?_
    rintro i w m hm ⟨hO, hi, he⟩
    by_cases hlt : i < x.length
    · obtain ⟨a, ha⟩ : ∃ a, x[i]? = some a := ⟨x[i], List.getElem?_eq_getElem hlt⟩
      obtain ⟨b, hb⟩ : ∃ b, y[i]? = some b := ⟨y[i], List.getElem?_eq_getElem (by omega)⟩
      obtain ⟨b1, o1, hp1, hH1⟩ := hx.get (cuts_ro k) (iv_one _ _) (iv_get ha)
      obtain ⟨b2, o2, hp2, hH2⟩ := hy.get (cuts_ro k) (iv_one _ _) (iv_get hb)
      subst hp1 hp2
      repeat (first | (with_reducible first | refine K0 ?_ | refine K1 ?_ | refine K2 ?_ | refine K3 ?_ | refine K4 ?_ | refine K5 ?_ | refine K6 ?_ | refine K7 ?_ | refine K8 ?_ | refine K9 ?_ | refine L0 ?_ | refine L1 ?_ | refine L2 ?_ | refine L3 ?_ | refine L4 ?_ | refine L5 ?_ | refine L6 ?_) | refine Y0 hO rfl ?_ | refine Y1 hO rfl rfl (fun w hO => ?_) | refine Y2 hO rfl ?_ | refine Y3 hO rfl rfl (fun w hO => ?_) | refine l_y rfl rfl (y_index rfl rfl (by omega) (by omega)) ?_ | refine l_y rfl rfl (y_indexA rfl rfl (by omega) (by omega)) ?_ | refine L7 ?_ | refine L8 ?_ | refine L9 ?_ | refine M0 ?_ | refine M1 ?_ | refine M2 ?_ | refine M3 ?_ | refine M4 ?_ | refine M5 ?_ | refine M6 ?_ | refine M7 ?_ | refine M8 ?_ | refine M9 ?_ | refine N0 ?_ | refine N1 ?_ | refine N2 ?_ | refine N3 ?_ | refine N4 ?_ | refine N5 ?_ | refine N6 ?_ | refine N7 ?_ | refine N8 ?_ | refine N9 ?_ | refine R0 ?_ | refine R1 ?_ | refine R2 ?_ | refine R3 ?_ | refine R4 ?_ | refine R5 ?_ | refine R6 ?_ | refine R7 ?_ | refine R8 ?_ | refine R9 ?_ | refine S0 ?_)
      refine dl_start (SO k []) (by intro c a d v w h; cases d <;> exact h) (SO.of hO.drew (.nil _)) ?_
      repeat (first | refine dl_y (by kernel_rfl) rfl rfl (fun w ⟨m, hw⟩ => by first | exact y_move rfl | exact y_assign rfl | exact y_nilCheck rfl rfl | exact y_fieldAddr_row rfl | exact y_fieldAddr rfl | exact y_lenL rfl | exact y_lenS rfl | exact y_extract rfl rfl | exact y_pick_t rfl rfl | exact y_pick_f rfl rfl | exact D5 hw rfl | exact D4 | exact D0 | exact D1 | exact D2 | exact D3 | exact D6 | exact D7 | exact y_index rfl rfl (by omega) (by omega) | exact y_indexA rfl rfl (by omega) (by omega) | exact D8 hw rfl | exact y_not rfl rfl | exact y_eqPnil rfl rfl rfl | exact y_nePnil rfl rfl rfl | exact y_convS rfl | exact y_eqB rfl rfl rfl | exact y_neB rfl rfl rfl) ?_ | refine dl_pass (by kernel_rfl) rfl rfl ?_)
      refine dl_y (by kernel_rfl) rfl rfl (fun w ⟨m, hw⟩ => y_load1 rfl (hH1.holds hw)) ?_
      repeat (first | refine dl_y (by kernel_rfl) rfl rfl (fun w ⟨m, hw⟩ => by first | exact y_move rfl | exact y_assign rfl | exact y_nilCheck rfl rfl | exact y_fieldAddr_row rfl | exact y_fieldAddr rfl | exact y_lenL rfl | exact y_lenS rfl | exact y_extract rfl rfl | exact y_pick_t rfl rfl | exact y_pick_f rfl rfl | exact D5 hw rfl | exact D4 | exact D0 | exact D1 | exact D2 | exact D3 | exact D6 | exact D7 | exact y_index rfl rfl (by omega) (by omega) | exact y_indexA rfl rfl (by omega) (by omega) | exact D8 hw rfl | exact y_not rfl rfl | exact y_eqPnil rfl rfl rfl | exact y_nePnil rfl rfl rfl | exact y_convS rfl | exact y_eqB rfl rfl rfl | exact y_neB rfl rfl rfl) ?_ | refine dl_pass (by kernel_rfl) rfl rfl ?_)
      refine dl_y (by kernel_rfl) rfl rfl (fun w ⟨m, hw⟩ => y_load1 rfl (hH2.holds hw)) ?_
      have hO := hO.drew
      by_cases hab : a = b
      · subst hab
        repeat (first | refine dl_y (by kernel_rfl) rfl rfl (fun w ⟨m, hw⟩ => by first | exact y_move rfl | exact y_assign rfl | exact y_nilCheck rfl rfl | exact y_fieldAddr_row rfl | exact y_fieldAddr rfl | exact y_lenL rfl | exact y_lenS rfl | exact y_extract rfl rfl | exact y_pick_t rfl rfl | exact y_pick_f rfl rfl | exact D5 hw rfl | exact D4 | exact D0 | exact D1 | exact D2 | exact D3 | exact D6 | exact D7 | exact y_index rfl rfl (by omega) (by omega) | exact y_indexA rfl rfl (by omega) (by omega) | exact D8 hw rfl | exact y_not rfl rfl | exact y_eqPnil rfl rfl rfl | exact y_nePnil rfl rfl rfl | exact y_convS rfl | exact y_eqB rfl rfl rfl | exact y_neB rfl rfl rfl) ?_ | refine dl_pass (by kernel_rfl) rfl rfl ?_)
        refine dl_end (by kernel_rfl) ?_
        repeat (first | (with_reducible first | refine K0 ?_ | refine K1 ?_ | refine K2 ?_ | refine K3 ?_ | refine K4 ?_ | refine K5 ?_ | refine K6 ?_ | refine K7 ?_ | refine K8 ?_ | refine K9 ?_ | refine L0 ?_ | refine L1 ?_ | refine L2 ?_ | refine L3 ?_ | refine L4 ?_ | refine L5 ?_ | refine L6 ?_) | refine Y0 hO rfl ?_ | refine Y1 hO rfl rfl (fun w hO => ?_) | refine Y2 hO rfl ?_ | refine Y3 hO rfl rfl (fun w hO => ?_) | refine l_y rfl rfl (y_index rfl rfl (by omega) (by omega)) ?_ | refine l_y rfl rfl (y_indexA rfl rfl (by omega) (by omega)) ?_ | refine L7 ?_ | refine L8 ?_ | refine L9 ?_ | refine M0 ?_ | refine M1 ?_ | refine M2 ?_ | refine M3 ?_ | refine M4 ?_ | refine M5 ?_ | refine M6 ?_ | refine M7 ?_ | refine M8 ?_ | refine M9 ?_ | refine N0 ?_ | refine N1 ?_ | refine N2 ?_ | refine N3 ?_ | refine N4 ?_ | refine N5 ?_ | refine N6 ?_ | refine N7 ?_ | refine N8 ?_ | refine N9 ?_ | refine R0 ?_ | refine R1 ?_ | refine R2 ?_ | refine R3 ?_ | refine R4 ?_ | refine R5 ?_ | refine R6 ?_ | refine R7 ?_ | refine R8 ?_ | refine R9 ?_ | refine S0 ?_)
        exact q_next (i + 1) ⟨rfl, rfl, rfl, trivial⟩ ⟨hO, by omega, by rw [List.take_add_one, List.take_add_one, he, ha, hb]⟩ (by omega)
      · repeat (first | refine dl_y (by kernel_rfl) rfl rfl (fun w ⟨m, hw⟩ => by first | exact y_move rfl | exact y_assign rfl | exact y_nilCheck rfl rfl | exact y_fieldAddr_row rfl | exact y_fieldAddr rfl | exact y_lenL rfl | exact y_lenS rfl | exact y_extract rfl rfl | exact y_pick_t rfl rfl | exact y_pick_f rfl rfl | exact D5 hw rfl | exact D4 | exact D0 | exact D1 | exact D2 | exact D3 | exact D6 | exact D7 | exact y_index rfl rfl (by omega) (by omega) | exact y_indexA rfl rfl (by omega) (by omega) | exact D8 hw rfl | exact y_not rfl rfl | exact y_eqPnil rfl rfl rfl | exact y_nePnil rfl rfl rfl | exact y_convS rfl | exact y_eqB rfl rfl rfl | exact y_neB rfl rfl rfl) ?_ | refine dl_pass (by kernel_rfl) rfl rfl ?_)
        refine dl_end (by kernel_rfl) ?_
        repeat (first | (with_reducible first | refine K0 ?_ | refine K1 ?_ | refine K2 ?_ | refine K3 ?_ | refine K4 ?_ | refine K5 ?_ | refine K6 ?_ | refine K7 ?_ | refine K8 ?_ | refine K9 ?_ | refine L0 ?_ | refine L1 ?_ | refine L2 ?_ | refine L3 ?_ | refine L4 ?_ | refine L5 ?_ | refine L6 ?_) | refine Y0 hO rfl ?_ | refine Y1 hO rfl rfl (fun w hO => ?_) | refine Y2 hO rfl ?_ | refine Y3 hO rfl rfl (fun w hO => ?_) | refine l_y rfl rfl (y_index rfl rfl (by omega) (by omega)) ?_ | refine l_y rfl rfl (y_indexA rfl rfl (by omega) (by omega)) ?_ | refine L7 ?_ | refine L8 ?_ | refine L9 ?_ | refine M0 ?_ | refine M1 ?_ | refine M2 ?_ | refine M3 ?_ | refine M4 ?_ | refine M5 ?_ | refine M6 ?_ | refine M7 ?_ | refine M8 ?_ | refine M9 ?_ | refine N0 ?_ | refine N1 ?_ | refine N2 ?_ | refine N3 ?_ | refine N4 ?_ | refine N5 ?_ | refine N6 ?_ | refine N7 ?_ | refine N8 ?_ | refine N9 ?_ | refine R0 ?_ | refine R1 ?_ | refine R2 ?_ | refine R3 ?_ | refine R4 ?_ | refine R5 ?_ | refine R6 ?_ | refine R7 ?_ | refine R8 ?_ | refine R9 ?_ | refine S0 ?_)
        have hne : ¬ x = y := by rintro rfl; rw [ha] at hb; exact hab (Option.some.inj hb)
        rw [decide_eq_false hne]
        exact fin1 rfl rfl ⟨_, ⟨rfl, rfl⟩, hO⟩
    · rw [List.take_of_length_le (by omega), List.take_of_length_le (by omega)] at he
      repeat (first | (with_reducible first | refine K0 ?_ | refine K1 ?_ | refine K2 ?_ | refine K3 ?_ | refine K4 ?_ | refine K5 ?_ | refine K6 ?_ | refine K7 ?_ | refine K8 ?_ | refine K9 ?_ | refine L0 ?_ | refine L1 ?_ | refine L2 ?_ | refine L3 ?_ | refine L4 ?_ | refine L5 ?_ | refine L6 ?_) | refine Y0 hO rfl ?_ | refine Y1 hO rfl rfl (fun w hO => ?_) | refine Y2 hO rfl ?_ | refine Y3 hO rfl rfl (fun w hO => ?_) | refine l_y rfl rfl (y_index rfl rfl (by omega) (by omega)) ?_ | refine l_y rfl rfl (y_indexA rfl rfl (by omega) (by omega)) ?_ | refine L7 ?_ | refine L8 ?_ | refine L9 ?_ | refine M0 ?_ | refine M1 ?_ | refine M2 ?_ | refine M3 ?_ | refine M4 ?_ | refine M5 ?_ | refine M6 ?_ | refine M7 ?_ | refine M8 ?_ | refine M9 ?_ | refine N0 ?_ | refine N1 ?_ | refine N2 ?_ | refine N3 ?_ | refine N4 ?_ | refine N5 ?_ | refine N6 ?_ | refine N7 ?_ | refine N8 ?_ | refine N9 ?_ | refine R0 ?_ | refine R1 ?_ | refine R2 ?_ | refine R3 ?_ | refine R4 ?_ | refine R5 ?_ | refine R6 ?_ | refine R7 ?_ | refine R8 ?_ | refine R9 ?_ | refine S0 ?_)
      rw [decide_eq_true he]
      exact fin1 rfl rfl ⟨_, ⟨rfl, rfl⟩, hO⟩
  · have hne : ¬ x = y := by rintro rfl; exact hl rfl
    rw [decide_eq_false hne]
    repeat (first | (with_reducible first | refine K0 ?_ | refine K1 ?_ | refine K2 ?_ | refine K3 ?_ | refine K4 ?_ | refine K5 ?_ | refine K6 ?_ | refine K7 ?_ | refine K8 ?_ | refine K9 ?_ | refine L0 ?_ | refine L1 ?_ | refine L2 ?_ | refine L3 ?_ | refine L4 ?_ | refine L5 ?_ | refine L6 ?_) | refine Y0 hO rfl ?_ | refine Y1 hO rfl rfl (fun w hO => ?_) | refine Y2 hO rfl ?_ | refine Y3 hO rfl rfl (fun w hO => ?_) | refine l_y rfl rfl (y_index rfl rfl (by omega) (by omega)) ?_ | refine l_y rfl rfl (y_indexA rfl rfl (by omega) (by omega)) ?_ | refine L7 ?_ | refine L8 ?_ | refine L9 ?_ | refine M0 ?_ | refine M1 ?_ | refine M2 ?_ | refine M3 ?_ | refine M4 ?_ | refine M5 ?_ | refine M6 ?_ | refine M7 ?_ | refine M8 ?_ | refine M9 ?_ | refine N0 ?_ | refine N1 ?_ | refine N2 ?_ | refine N3 ?_ | refine N4 ?_ | refine N5 ?_ | refine N6 ?_ | refine N7 ?_ | refine N8 ?_ | refine N9 ?_ | refine R0 ?_ | refine R1 ?_ | refine R2 ?_ | refine R3 ?_ | refine R4 ?_ | refine R5 ?_ | refine R6 ?_ | refine R7 ?_ | refine R8 ?_ | refine R9 ?_ | refine S0 ?_)
    exact fin1 rfl rfl ⟨_, ⟨rfl, rfl⟩, hO⟩
theorem plain_spec (k : Ctx) (w : World) (p : Option Addr) (n cap : Nat) (x : List Int) (hS : Sli (Ro k) (.slice p n cap) (iv .i32 x)) (hxl : x.length ≤ 9223372036854775807) (hO : Own k w []) :
    Tri Try.prog 9 #[.slice p n cap] k w fun r m => ∃ out : List Int, m = [rsl r out] ∧ out.length ≤ 5000 ∧ ∀ z ∈ out, z ≠ -1 := by
  refine enter (args := [.slice p n cap]) Try.func9 rfl rfl ?_
  have h1 := hS.fits.1
  rw [iv_length] at h1
  subst h1
  have hO := sl_nil 21 1 hO
  repeat (first | (with_reducible first | refine K0 ?_ | refine K1 ?_ | refine K2 ?_ | refine K3 ?_ | refine K4 ?_ | refine K5 ?_ | refine K6 ?_ | refine K7 ?_ | refine K8 ?_ | refine K9 ?_ | refine L0 ?_ | refine L1 ?_ | refine L2 ?_ | refine L3 ?_ | refine L4 ?_ | refine L5 ?_ | refine L6 ?_) | refine Y0 hO rfl ?_ | refine Y1 hO rfl rfl (fun w hO => ?_) | refine Y2 hO rfl ?_ | refine Y3 hO rfl rfl (fun w hO => ?_) | refine l_y rfl rfl (y_index rfl rfl (by omega) (by omega)) ?_ | refine l_y rfl rfl (y_indexA rfl rfl (by omega) (by omega)) ?_ | refine L7 ?_ | refine L8 ?_ | refine L9 ?_ | refine M0 ?_ | refine M1 ?_ | refine M2 ?_ | refine M3 ?_ | refine M4 ?_ | refine M5 ?_ | refine M6 ?_ | refine M7 ?_ | refine M8 ?_ | refine M9 ?_ | refine N0 ?_ | refine N1 ?_ | refine N2 ?_ | refine N3 ?_ | refine N4 ?_ | refine N5 ?_ | refine N6 ?_ | refine N7 ?_ | refine N8 ?_ | refine N9 ?_ | refine R0 ?_ | refine R1 ?_ | refine R2 ?_ | refine R3 ?_ | refine R4 ?_ | refine R5 ?_ | refine R6 ?_ | refine R7 ?_ | refine R8 ?_ | refine R9 ?_ | refine S0 ?_)
  refine c_rounds (X := Nat × List Int × Option Addr × Nat) (fun q => [(0, .slice p x.length cap), (3, .slice q.2.2.1 q.2.1.length q.2.2.2), (4, .int .i64 q.1)]) (fun q w => Own k w [rsl (.slice q.2.2.1 q.2.1.length q.2.2.2) q.2.1] ∧ q.1 ≤ x.length ∧ q.2.1.length ≤ 5000 ∧ ∀ z ∈ q.2.1, z ≠ -1) (fun q => x.length - q.1) (0, [], none, 0) ⟨rfl, rfl, rfl, trivial⟩ ⟨hO, Nat.zero_le _, Nat.zero_le _, by simp⟩ ?_
  rintro ⟨i, out, pv, cv⟩ w m hm ⟨hO, hi, hol, hout⟩
  dsimp only at hO hi hol hout hm ⊢
  by_cases hlt : i < x.length
  · by_cases h5 : out.length < 5000
    · obtain ⟨a, ha⟩ : ∃ a, x[i]? = some a := ⟨x[i], List.getElem?_eq_getElem hlt⟩
      obtain ⟨b1, o1, hp1, hH1⟩ := hS.get (cuts_ro k) (iv_one _ _) (iv_get ha)
      subst hp1
      have hvl := iv_length .i32 out
      repeat (first | (with_reducible first | refine K0 ?_ | refine K1 ?_ | refine K2 ?_ | refine K3 ?_ | refine K4 ?_ | refine K5 ?_ | refine K6 ?_ | refine K7 ?_ | refine K8 ?_ | refine K9 ?_ | refine L0 ?_ | refine L1 ?_ | refine L2 ?_ | refine L3 ?_ | refine L4 ?_ | refine L5 ?_ | refine L6 ?_) | refine Y0 hO rfl ?_ | refine Y1 hO rfl rfl (fun w hO => ?_) | refine Y2 hO rfl ?_ | refine Y3 hO rfl rfl (fun w hO => ?_) | refine l_y rfl rfl (y_index rfl rfl (by omega) (by omega)) ?_ | refine l_y rfl rfl (y_indexA rfl rfl (by omega) (by omega)) ?_ | refine L7 ?_ | refine L8 ?_ | refine L9 ?_ | refine M0 ?_ | refine M1 ?_ | refine M2 ?_ | refine M3 ?_ | refine M4 ?_ | refine M5 ?_ | refine M6 ?_ | refine M7 ?_ | refine M8 ?_ | refine M9 ?_ | refine N0 ?_ | refine N1 ?_ | refine N2 ?_ | refine N3 ?_ | refine N4 ?_ | refine N5 ?_ | refine N6 ?_ | refine N7 ?_ | refine N8 ?_ | refine N9 ?_ | refine R0 ?_ | refine R1 ?_ | refine R2 ?_ | refine R3 ?_ | refine R4 ?_ | refine R5 ?_ | refine R6 ?_ | refine R7 ?_ | refine R8 ?_ | refine R9 ?_ | refine S0 ?_)
      refine l_y rfl rfl (y_load1 rfl (hH1.holds hO)) ?_
      by_cases hm1 : a = -1
      · subst hm1
        repeat (first | (with_reducible first | refine K0 ?_ | refine K1 ?_ | refine K2 ?_ | refine K3 ?_ | refine K4 ?_ | refine K5 ?_ | refine K6 ?_ | refine K7 ?_ | refine K8 ?_ | refine K9 ?_ | refine L0 ?_ | refine L1 ?_ | refine L2 ?_ | refine L3 ?_ | refine L4 ?_ | refine L5 ?_ | refine L6 ?_) | refine Y0 hO rfl ?_ | refine Y1 hO rfl rfl (fun w hO => ?_) | refine Y2 hO rfl ?_ | refine Y3 hO rfl rfl (fun w hO => ?_) | refine l_y rfl rfl (y_index rfl rfl (by omega) (by omega)) ?_ | refine l_y rfl rfl (y_indexA rfl rfl (by omega) (by omega)) ?_ | refine L7 ?_ | refine L8 ?_ | refine L9 ?_ | refine M0 ?_ | refine M1 ?_ | refine M2 ?_ | refine M3 ?_ | refine M4 ?_ | refine M5 ?_ | refine M6 ?_ | refine M7 ?_ | refine M8 ?_ | refine M9 ?_ | refine N0 ?_ | refine N1 ?_ | refine N2 ?_ | refine N3 ?_ | refine N4 ?_ | refine N5 ?_ | refine N6 ?_ | refine N7 ?_ | refine N8 ?_ | refine N9 ?_ | refine R0 ?_ | refine R1 ?_ | refine R2 ?_ | refine R3 ?_ | refine R4 ?_ | refine R5 ?_ | refine R6 ?_ | refine R7 ?_ | refine R8 ?_ | refine R9 ?_ | refine S0 ?_)
        exact q_next (i + 1, out, pv, cv) ⟨rfl, rfl, rfl, trivial⟩ ⟨hO, by dsimp only; omega, hol, hout⟩ (by dsimp only; omega)
      · repeat (first | (with_reducible first | refine K0 ?_ | refine K1 ?_ | refine K2 ?_ | refine K3 ?_ | refine K4 ?_ | refine K5 ?_ | refine K6 ?_ | refine K7 ?_ | refine K8 ?_ | refine K9 ?_ | refine L0 ?_ | refine L1 ?_ | refine L2 ?_ | refine L3 ?_ | refine L4 ?_ | refine L5 ?_ | refine L6 ?_) | refine Y0 hO rfl ?_ | refine Y1 hO rfl rfl (fun w hO => ?_) | refine Y2 hO rfl ?_ | refine Y3 hO rfl rfl (fun w hO => ?_) | refine l_y rfl rfl (y_index rfl rfl (by omega) (by omega)) ?_ | refine l_y rfl rfl (y_indexA rfl rfl (by omega) (by omega)) ?_ | refine L7 ?_ | refine L8 ?_ | refine L9 ?_ | refine M0 ?_ | refine M1 ?_ | refine M2 ?_ | refine M3 ?_ | refine M4 ?_ | refine M5 ?_ | refine M6 ?_ | refine M7 ?_ | refine M8 ?_ | refine M9 ?_ | refine N0 ?_ | refine N1 ?_ | refine N2 ?_ | refine N3 ?_ | refine N4 ?_ | refine N5 ?_ | refine N6 ?_ | refine N7 ?_ | refine N8 ?_ | refine N9 ?_ | refine R0 ?_ | refine R1 ?_ | refine R2 ?_ | refine R3 ?_ | refine R4 ?_ | refine R5 ?_ | refine R6 ?_ | refine R7 ?_ | refine R8 ?_ | refine R9 ?_ | refine S0 ?_)
        refine l_y rfl rfl (y_load1 rfl (hH1.holds hO)) ?_
        refine S3 hO (.hd _ _) rfl rfl rfl rfl (by decide) (by decide) rfl rfl (fun _ => rfl) rfl (fun _ => rfl) rfl (by omega) (by omega) fun _ v' w hO hgr => ?_
        have hO := ivs hO
        obtain ⟨pv', cv', hv⟩ := sl_shape hO
        rw [iv_length] at hv
        subst hv
        repeat (first | (with_reducible first | refine K0 ?_ | refine K1 ?_ | refine K2 ?_ | refine K3 ?_ | refine K4 ?_ | refine K5 ?_ | refine K6 ?_ | refine K7 ?_ | refine K8 ?_ | refine K9 ?_ | refine L0 ?_ | refine L1 ?_ | refine L2 ?_ | refine L3 ?_ | refine L4 ?_ | refine L5 ?_ | refine L6 ?_) | refine Y0 hO rfl ?_ | refine Y1 hO rfl rfl (fun w hO => ?_) | refine Y2 hO rfl ?_ | refine Y3 hO rfl rfl (fun w hO => ?_) | refine l_y rfl rfl (y_index rfl rfl (by omega) (by omega)) ?_ | refine l_y rfl rfl (y_indexA rfl rfl (by omega) (by omega)) ?_ | refine L7 ?_ | refine L8 ?_ | refine L9 ?_ | refine M0 ?_ | refine M1 ?_ | refine M2 ?_ | refine M3 ?_ | refine M4 ?_ | refine M5 ?_ | refine M6 ?_ | refine M7 ?_ | refine M8 ?_ | refine M9 ?_ | refine N0 ?_ | refine N1 ?_ | refine N2 ?_ | refine N3 ?_ | refine N4 ?_ | refine N5 ?_ | refine N6 ?_ | refine N7 ?_ | refine N8 ?_ | refine N9 ?_ | refine R0 ?_ | refine R1 ?_ | refine R2 ?_ | refine R3 ?_ | refine R4 ?_ | refine R5 ?_ | refine R6 ?_ | refine R7 ?_ | refine R8 ?_ | refine R9 ?_ | refine S0 ?_)
        exact q_next (i + 1, out ++ [a], pv', cv') ⟨rfl, rfl, rfl, trivial⟩ ⟨hO, by dsimp only; omega, by simp; omega, fun z hz => (List.mem_append.1 hz).elim (hout z) (fun h => by simp at h; subst h; exact hm1)⟩ (by dsimp only; omega)
    · repeat (first | (with_reducible first | refine K0 ?_ | refine K1 ?_ | refine K2 ?_ | refine K3 ?_ | refine K4 ?_ | refine K5 ?_ | refine K6 ?_ | refine K7 ?_ | refine K8 ?_ | refine K9 ?_ | refine L0 ?_ | refine L1 ?_ | refine L2 ?_ | refine L3 ?_ | refine L4 ?_ | refine L5 ?_ | refine L6 ?_) | refine Y0 hO rfl ?_ | refine Y1 hO rfl rfl (fun w hO => ?_) | refine Y2 hO rfl ?_ | refine Y3 hO rfl rfl (fun w hO => ?_) | refine l_y rfl rfl (y_index rfl rfl (by omega) (by omega)) ?_ | refine l_y rfl rfl (y_indexA rfl rfl (by omega) (by omega)) ?_ | refine L7 ?_ | refine L8 ?_ | refine L9 ?_ | refine M0 ?_ | refine M1 ?_ | refine M2 ?_ | refine M3 ?_ | refine M4 ?_ | refine M5 ?_ | refine M6 ?_ | refine M7 ?_ | refine M8 ?_ | refine M9 ?_ | refine N0 ?_ | refine N1 ?_ | refine N2 ?_ | refine N3 ?_ | refine N4 ?_ | refine N5 ?_ | refine N6 ?_ | refine N7 ?_ | refine N8 ?_ | refine N9 ?_ | refine R0 ?_ | refine R1 ?_ | refine R2 ?_ | refine R3 ?_ | refine R4 ?_ | refine R5 ?_ | refine R6 ?_ | refine R7 ?_ | refine R8 ?_ | refine R9 ?_ | refine S0 ?_)
      exact fin1 rfl rfl ⟨_, ⟨out, rfl, hol, hout⟩, hO⟩
  · repeat (first | (with_reducible first | refine K0 ?_ | refine K1 ?_ | refine K2 ?_ | refine K3 ?_ | refine K4 ?_ | refine K5 ?_ | refine K6 ?_ | refine K7 ?_ | refine K8 ?_ | refine K9 ?_ | refine L0 ?_ | refine L1 ?_ | refine L2 ?_ | refine L3 ?_ | refine L4 ?_ | refine L5 ?_ | refine L6 ?_) | refine Y0 hO rfl ?_ | refine Y1 hO rfl rfl (fun w hO => ?_) | refine Y2 hO rfl ?_ | refine Y3 hO rfl rfl (fun w hO => ?_) | refine l_y rfl rfl (y_index rfl rfl (by omega) (by omega)) ?_ | refine l_y rfl rfl (y_indexA rfl rfl (by omega) (by omega)) ?_ | refine L7 ?_ | refine L8 ?_ | refine L9 ?_ | refine M0 ?_ | refine M1 ?_ | refine M2 ?_ | refine M3 ?_ | refine M4 ?_ | refine M5 ?_ | refine M6 ?_ | refine M7 ?_ | refine M8 ?_ | refine M9 ?_ | refine N0 ?_ | refine N1 ?_ | refine N2 ?_ | refine N3 ?_ | refine N4 ?_ | refine N5 ?_ | refine N6 ?_ | refine N7 ?_ | refine N8 ?_ | refine N9 ?_ | refine R0 ?_ | refine R1 ?_ | refine R2 ?_ | refine R3 ?_ | refine R4 ?_ | refine R5 ?_ | refine R6 ?_ | refine R7 ?_ | refine R8 ?_ | refine R9 ?_ | refine S0 ?_)
    exact fin1 rfl rfl ⟨_, ⟨out, rfl, hol, hout⟩, hO⟩
theorem awake_spec (k : Ctx) (w : World) (hO : Own k w []) : Tri Try.prog 15 #[] k w fun r m => r = .bool true ∧ m = [] := by
  refine enter (args := []) Try.func15 rfl rfl ?_
  repeat (first | (with_reducible first | refine K0 ?_ | refine K1 ?_ | refine K2 ?_ | refine K3 ?_ | refine K4 ?_ | refine K5 ?_ | refine K6 ?_ | refine K7 ?_ | refine K8 ?_ | refine K9 ?_ | refine L0 ?_ | refine L1 ?_ | refine L2 ?_ | refine L3 ?_ | refine L4 ?_ | refine L5 ?_ | refine L6 ?_) | refine Y0 hO rfl ?_ | refine Y1 hO rfl rfl (fun w hO => ?_) | refine Y2 hO rfl ?_ | refine Y3 hO rfl rfl (fun w hO => ?_) | refine l_y rfl rfl (y_index rfl rfl (by omega) (by omega)) ?_ | refine l_y rfl rfl (y_indexA rfl rfl (by omega) (by omega)) ?_ | refine L7 ?_ | refine L8 ?_ | refine L9 ?_ | refine M0 ?_ | refine M1 ?_ | refine M2 ?_ | refine M3 ?_ | refine M4 ?_ | refine M5 ?_ | refine M6 ?_ | refine M7 ?_ | refine M8 ?_ | refine M9 ?_ | refine N0 ?_ | refine N1 ?_ | refine N2 ?_ | refine N3 ?_ | refine N4 ?_ | refine N5 ?_ | refine N6 ?_ | refine N7 ?_ | refine N8 ?_ | refine N9 ?_ | refine R0 ?_ | refine R1 ?_ | refine R2 ?_ | refine R3 ?_ | refine R4 ?_ | refine R5 ?_ | refine R6 ?_ | refine R7 ?_ | refine R8 ?_ | refine R9 ?_ | refine S0 ?_)
  refine s_callO hO (.nil _) rfl rfl rfl (fun k' hx hr hO => New_spec k' _ hO) ?_
  rintro _ _ w ⟨s, rfl, rfl⟩ hO
  have hO : Own k w [_] := hO
  repeat (first | (with_reducible first | refine K0 ?_ | refine K1 ?_ | refine K2 ?_ | refine K3 ?_ | refine K4 ?_ | refine K5 ?_ | refine K6 ?_ | refine K7 ?_ | refine K8 ?_ | refine K9 ?_ | refine L0 ?_ | refine L1 ?_ | refine L2 ?_ | refine L3 ?_ | refine L4 ?_ | refine L5 ?_ | refine L6 ?_) | refine Y0 hO rfl ?_ | refine Y1 hO rfl rfl (fun w hO => ?_) | refine Y2 hO rfl ?_ | refine Y3 hO rfl rfl (fun w hO => ?_) | refine l_y rfl rfl (y_index rfl rfl (by omega) (by omega)) ?_ | refine l_y rfl rfl (y_indexA rfl rfl (by omega) (by omega)) ?_ | refine L7 ?_ | refine L8 ?_ | refine L9 ?_ | refine M0 ?_ | refine M1 ?_ | refine M2 ?_ | refine M3 ?_ | refine M4 ?_ | refine M5 ?_ | refine M6 ?_ | refine M7 ?_ | refine M8 ?_ | refine M9 ?_ | refine N0 ?_ | refine N1 ?_ | refine N2 ?_ | refine N3 ?_ | refine N4 ?_ | refine N5 ?_ | refine N6 ?_ | refine N7 ?_ | refine N8 ?_ | refine N9 ?_ | refine R0 ?_ | refine R1 ?_ | refine R2 ?_ | refine R3 ?_ | refine R4 ?_ | refine R5 ?_ | refine R6 ?_ | refine R7 ?_ | refine R8 ?_ | refine R9 ?_ | refine S0 ?_)
  refine s_slices (parts := [(0, .const (.int .i32 97))]) [.int .i32 97] hO rfl rfl rfl rfl (by simp [Value.cells]) (by decide) (by simp) (by simp) fun b w hO => ?_
  have hA : Own k w (sl (.slice (some ⟨b, 0, none⟩) 1 1) 21 1 (iv .i32 [97]) :: [stm s ⟨[], [], false, false, false⟩]) := sl_shut hO rfl
  have hO := hA
  refine s_callO hO (.cons (.tl _ (.hd _ _)) (.nil _)) rfl rfl rfl (fun k' hx hr hO' => Feed_spec k' _ s _ ok_new.1 _ _ _ [97] (sl_ro hr (by simp) hO (.hd _ _)) hO') ?_
  rintro _ _ w ⟨rfl, rfl⟩ hO
  have hO : Own k w [_, _] := hO
  rw [show (feedS ⟨[], [], false, false, false⟩ [97]).1 = 0 from rfl]
  repeat (first | (with_reducible first | refine K0 ?_ | refine K1 ?_ | refine K2 ?_ | refine K3 ?_ | refine K4 ?_ | refine K5 ?_ | refine K6 ?_ | refine K7 ?_ | refine K8 ?_ | refine K9 ?_ | refine L0 ?_ | refine L1 ?_ | refine L2 ?_ | refine L3 ?_ | refine L4 ?_ | refine L5 ?_ | refine L6 ?_) | refine Y0 hO rfl ?_ | refine Y1 hO rfl rfl (fun w hO => ?_) | refine Y2 hO rfl ?_ | refine Y3 hO rfl rfl (fun w hO => ?_) | refine l_y rfl rfl (y_index rfl rfl (by omega) (by omega)) ?_ | refine l_y rfl rfl (y_indexA rfl rfl (by omega) (by omega)) ?_ | refine L7 ?_ | refine L8 ?_ | refine L9 ?_ | refine M0 ?_ | refine M1 ?_ | refine M2 ?_ | refine M3 ?_ | refine M4 ?_ | refine M5 ?_ | refine M6 ?_ | refine M7 ?_ | refine M8 ?_ | refine M9 ?_ | refine N0 ?_ | refine N1 ?_ | refine N2 ?_ | refine N3 ?_ | refine N4 ?_ | refine N5 ?_ | refine N6 ?_ | refine N7 ?_ | refine N8 ?_ | refine N9 ?_ | refine R0 ?_ | refine R1 ?_ | refine R2 ?_ | refine R3 ?_ | refine R4 ?_ | refine R5 ?_ | refine R6 ?_ | refine R7 ?_ | refine R8 ?_ | refine R9 ?_ | refine S0 ?_)
  refine s_callO hO (.cons (.hd _ _) (.nil _)) rfl rfl rfl (fun k' hx hr hO => Len_spec k' _ s _ hO) ?_
  rintro _ _ w ⟨rfl, rfl⟩ hO
  rw [show (feedS ⟨[], [], false, false, false⟩ [97]).2.L.length = 1 from rfl]
  repeat (first | (with_reducible first | refine K0 ?_ | refine K1 ?_ | refine K2 ?_ | refine K3 ?_ | refine K4 ?_ | refine K5 ?_ | refine K6 ?_ | refine K7 ?_ | refine K8 ?_ | refine K9 ?_ | refine L0 ?_ | refine L1 ?_ | refine L2 ?_ | refine L3 ?_ | refine L4 ?_ | refine L5 ?_ | refine L6 ?_) | refine Y0 hO rfl ?_ | refine Y1 hO rfl rfl (fun w hO => ?_) | refine Y2 hO rfl ?_ | refine Y3 hO rfl rfl (fun w hO => ?_) | refine l_y rfl rfl (y_index rfl rfl (by omega) (by omega)) ?_ | refine l_y rfl rfl (y_indexA rfl rfl (by omega) (by omega)) ?_ | refine L7 ?_ | refine L8 ?_ | refine L9 ?_ | refine M0 ?_ | refine M1 ?_ | refine M2 ?_ | refine M3 ?_ | refine M4 ?_ | refine M5 ?_ | refine M6 ?_ | refine M7 ?_ | refine M8 ?_ | refine M9 ?_ | refine N0 ?_ | refine N1 ?_ | refine N2 ?_ | refine N3 ?_ | refine N4 ?_ | refine N5 ?_ | refine N6 ?_ | refine N7 ?_ | refine N8 ?_ | refine N9 ?_ | refine R0 ?_ | refine R1 ?_ | refine R2 ?_ | refine R3 ?_ | refine R4 ?_ | refine R5 ?_ | refine R6 ?_ | refine R7 ?_ | refine R8 ?_ | refine R9 ?_ | refine S0 ?_)
  exact fin1 rfl rfl ⟨_, ⟨rfl, rfl⟩, hO.none⟩
end Go.Proofs.Ytfpppopcdhihgaa
