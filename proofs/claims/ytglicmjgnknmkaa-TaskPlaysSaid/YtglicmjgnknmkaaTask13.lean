/- The walk of the law TaskPlays; no condition. -/
import Derived.Test.YtglicmjgnknmkaaTask12
import Derived.Test.YtglicmjgnknmkaaTask8
import Derived.Test.YtglicmjgnknmkaaHc
import Derived.Test.YtglicmjgnknmkaaSt
set_option linter.unusedVariables false
set_option linter.unusedSimpArgs false
set_option maxRecDepth 100000
namespace Go.Proofs.Ytglicmjgnknmkaa
open Go Go.Hb Go.RowKit
instance (priority := high) AtK.hque (q : Nat) (f : Nat → List Tk) (l : List HP) : AtK (que q f :: l) (.o q) (que q f) l := ⟨.hd _ l⟩
instance (priority := high) AtK.hrque (q : Nat) (f : Nat → List Tk) (l : List HP) : AtK (rque q f :: l) (.o q) (rque q f) l := ⟨.hd _ l⟩
def jrowI (n : Int) : List Value := [.int .i64 0, .int .i64 n, .int .i64 0, .int .i64 0, .string ⟨#[]⟩, .string ⟨#[]⟩]
def jarrI (b : Nat) (n : Int) : HP := arr b 0 1 56 6 [jrowI n]
instance (priority := high) AtK.hjarr (b : Nat) (n : Int) (l : List HP) : AtK (jarrI b n :: l) (.o b) (jarrI b n) l := ⟨.hd _ l⟩
def bag (L : List (Nat × Int)) : List HP := L.map fun x => jarrI x.1 x.2
theorem bag_has {L : List (Nat × Int)} {b : Nat} {n : Int} (h : (b, n) ∈ L) : Has (sep (bag L)) ⟨b, 0, none⟩ (jrowI n) := by
  refine has_sep (A := jarrI b n) ?_ (List.mem_map.2 ⟨_, h, rfl⟩)
  exact Has.ofArrA (b := b) (o := 0) (cap := 1) (T := 56) (sz := 6) (rows := [jrowI n]) (i := 0) (x := 0) 6 rfl (cs := jrowI n) rfl
section
variable {k : Ctx} {w : World}
theorem bag_more {l : List HP} {L : List (Nat × Int)} {b : Nat} {n : Int} (hO : Own k w (jarrI b n :: sep (bag L) :: l)) : Own k w (sep (bag ((b, n) :: L)) :: l) := by
  have h := Own.open (l := bag L) (l' := jarrI b n :: l) (hO.swap)
  have h2 : Own k w ((jarrI b n :: bag L) ++ l) := h.perm (by
    refine List.Perm.trans List.perm_middle ?_
    exact List.Perm.refl _)
  exact Own.shut h2
theorem numberI_spec {b : Nat} {n : Int} (hR : Ro k ⟨b, 0, none⟩ (jrowI n)) (hO : Own k w []) :
    Tri Try.prog 11 #[(jtk b).val] k w fun r m => r = .int .i64 n ∧ m = [] := by
  refine enter (args := [(jtk b).val]) Try.func11 rfl rfl ?_
  repeat (first | (with_reducible first | refine K0 ?_ | refine K1 ?_ | refine K2 ?_ | refine K3 ?_ | refine K4 ?_ | refine K5 ?_ | refine K6 ?_ | refine K7 ?_ | refine K8 ?_ | refine K9 ?_ | refine L0 ?_ | refine L1 ?_ | refine L2 ?_ | refine L3 ?_ | refine L4 ?_ | refine L5 ?_ | refine L6 ?_) | refine Y0 hO rfl ?_ | refine Y1 hO rfl rfl (fun w hO => ?_) | refine Y2 hO rfl ?_ | refine Y3 hO rfl rfl (fun w hO => ?_) | refine l_y rfl rfl (y_index rfl rfl (by omega) (by omega)) ?_ | refine l_y rfl rfl (y_indexA rfl rfl (by omega) (by omega)) ?_ | refine L7 ?_ | refine L8 ?_ | refine L9 ?_ | refine M0 ?_ | refine M1 ?_ | refine M2 ?_ | refine M3 ?_ | refine M4 ?_ | refine M5 ?_ | refine M6 ?_ | refine M7 ?_ | refine M8 ?_ | refine M9 ?_ | refine N0 ?_ | refine N1 ?_ | refine N2 ?_ | refine N3 ?_ | refine N4 ?_ | refine N5 ?_ | refine N6 ?_ | refine N7 ?_ | refine N8 ?_ | refine N9 ?_ | refine R0 ?_ | refine R1 ?_ | refine R2 ?_ | refine R3 ?_ | refine R4 ?_ | refine R5 ?_ | refine R6 ?_ | refine R7 ?_ | refine R8 ?_ | refine R9 ?_ | refine S0 ?_)
  refine s_box (vs := (jtk b).cells) hO rfl rfl rfl rfl fun c w hO => ?_
  have hO : Own k w [blk c 34 [.int .i64 2, .slice none 0 0, .slice (some ⟨b, 0, none⟩) 1 1]] := hO
  repeat (first | (with_reducible first | refine K0 ?_ | refine K1 ?_ | refine K2 ?_ | refine K3 ?_ | refine K4 ?_ | refine K5 ?_ | refine K6 ?_ | refine K7 ?_ | refine K8 ?_ | refine K9 ?_ | refine L0 ?_ | refine L1 ?_ | refine L2 ?_ | refine L3 ?_ | refine L4 ?_ | refine L5 ?_ | refine L6 ?_) | refine Y0 hO rfl ?_ | refine Y1 hO rfl rfl (fun w hO => ?_) | refine Y2 hO rfl ?_ | refine Y3 hO rfl rfl (fun w hO => ?_) | refine l_y rfl rfl (y_index rfl rfl (by omega) (by omega)) ?_ | refine l_y rfl rfl (y_indexA rfl rfl (by omega) (by omega)) ?_ | refine L7 ?_ | refine L8 ?_ | refine L9 ?_ | refine M0 ?_ | refine M1 ?_ | refine M2 ?_ | refine M3 ?_ | refine M4 ?_ | refine M5 ?_ | refine M6 ?_ | refine M7 ?_ | refine M8 ?_ | refine M9 ?_ | refine N0 ?_ | refine N1 ?_ | refine N2 ?_ | refine N3 ?_ | refine N4 ?_ | refine N5 ?_ | refine N6 ?_ | refine N7 ?_ | refine N8 ?_ | refine N9 ?_ | refine R0 ?_ | refine R1 ?_ | refine R2 ?_ | refine R3 ?_ | refine R4 ?_ | refine R5 ?_ | refine R6 ?_ | refine R7 ?_ | refine R8 ?_ | refine R9 ?_ | refine S0 ?_)
  refine l_y rfl rfl (y_load1 (v := .int .i64 n) rfl (by
    have h := hR.holds hO
    exact cuts_holds w b 0 _ [.int .i64 n] 1 h (fun q v hq => by cases q with | zero => exact hq | succ q => simp at hq))) ?_
  repeat (first | (with_reducible first | refine K0 ?_ | refine K1 ?_ | refine K2 ?_ | refine K3 ?_ | refine K4 ?_ | refine K5 ?_ | refine K6 ?_ | refine K7 ?_ | refine K8 ?_ | refine K9 ?_ | refine L0 ?_ | refine L1 ?_ | refine L2 ?_ | refine L3 ?_ | refine L4 ?_ | refine L5 ?_ | refine L6 ?_) | refine Y0 hO rfl ?_ | refine Y1 hO rfl rfl (fun w hO => ?_) | refine Y2 hO rfl ?_ | refine Y3 hO rfl rfl (fun w hO => ?_) | refine l_y rfl rfl (y_index rfl rfl (by omega) (by omega)) ?_ | refine l_y rfl rfl (y_indexA rfl rfl (by omega) (by omega)) ?_ | refine L7 ?_ | refine L8 ?_ | refine L9 ?_ | refine M0 ?_ | refine M1 ?_ | refine M2 ?_ | refine M3 ?_ | refine M4 ?_ | refine M5 ?_ | refine M6 ?_ | refine M7 ?_ | refine M8 ?_ | refine M9 ?_ | refine N0 ?_ | refine N1 ?_ | refine N2 ?_ | refine N3 ?_ | refine N4 ?_ | refine N5 ?_ | refine N6 ?_ | refine N7 ?_ | refine N8 ?_ | refine N9 ?_ | refine R0 ?_ | refine R1 ?_ | refine R2 ?_ | refine R3 ?_ | refine R4 ?_ | refine R5 ?_ | refine R6 ?_ | refine R7 ?_ | refine R8 ?_ | refine R9 ?_ | refine S0 ?_)
  exact fin1 rfl rfl ⟨_, ⟨rfl, rfl⟩, hO.none⟩
theorem number0_spec (hO : Own k w []) : Tri Try.prog 11 #[Tk.val ⟨0, none, 0, 0, none, 0, 0⟩] k w fun r m => r = .int .i64 (-1) ∧ m = [] := by
  refine enter (args := [Tk.val ⟨0, none, 0, 0, none, 0, 0⟩]) Try.func11 rfl rfl ?_
  repeat (first | (with_reducible first | refine K0 ?_ | refine K1 ?_ | refine K2 ?_ | refine K3 ?_ | refine K4 ?_ | refine K5 ?_ | refine K6 ?_ | refine K7 ?_ | refine K8 ?_ | refine K9 ?_ | refine L0 ?_ | refine L1 ?_ | refine L2 ?_ | refine L3 ?_ | refine L4 ?_ | refine L5 ?_ | refine L6 ?_) | refine Y0 hO rfl ?_ | refine Y1 hO rfl rfl (fun w hO => ?_) | refine Y2 hO rfl ?_ | refine Y3 hO rfl rfl (fun w hO => ?_) | refine l_y rfl rfl (y_index rfl rfl (by omega) (by omega)) ?_ | refine l_y rfl rfl (y_indexA rfl rfl (by omega) (by omega)) ?_ | refine L7 ?_ | refine L8 ?_ | refine L9 ?_ | refine M0 ?_ | refine M1 ?_ | refine M2 ?_ | refine M3 ?_ | refine M4 ?_ | refine M5 ?_ | refine M6 ?_ | refine M7 ?_ | refine M8 ?_ | refine M9 ?_ | refine N0 ?_ | refine N1 ?_ | refine N2 ?_ | refine N3 ?_ | refine N4 ?_ | refine N5 ?_ | refine N6 ?_ | refine N7 ?_ | refine N8 ?_ | refine N9 ?_ | refine R0 ?_ | refine R1 ?_ | refine R2 ?_ | refine R3 ?_ | refine R4 ?_ | refine R5 ?_ | refine R6 ?_ | refine R7 ?_ | refine R8 ?_ | refine R9 ?_ | refine S0 ?_)
  refine s_box (vs := Tk.cells ⟨0, none, 0, 0, none, 0, 0⟩) hO rfl rfl rfl rfl fun c w hO => ?_
  have hO : Own k w [blk c 34 [.int .i64 0, .slice none 0 0, .slice none 0 0]] := hO
  repeat (first | (with_reducible first | refine K0 ?_ | refine K1 ?_ | refine K2 ?_ | refine K3 ?_ | refine K4 ?_ | refine K5 ?_ | refine K6 ?_ | refine K7 ?_ | refine K8 ?_ | refine K9 ?_ | refine L0 ?_ | refine L1 ?_ | refine L2 ?_ | refine L3 ?_ | refine L4 ?_ | refine L5 ?_ | refine L6 ?_) | refine Y0 hO rfl ?_ | refine Y1 hO rfl rfl (fun w hO => ?_) | refine Y2 hO rfl ?_ | refine Y3 hO rfl rfl (fun w hO => ?_) | refine l_y rfl rfl (y_index rfl rfl (by omega) (by omega)) ?_ | refine l_y rfl rfl (y_indexA rfl rfl (by omega) (by omega)) ?_ | refine L7 ?_ | refine L8 ?_ | refine L9 ?_ | refine M0 ?_ | refine M1 ?_ | refine M2 ?_ | refine M3 ?_ | refine M4 ?_ | refine M5 ?_ | refine M6 ?_ | refine M7 ?_ | refine M8 ?_ | refine M9 ?_ | refine N0 ?_ | refine N1 ?_ | refine N2 ?_ | refine N3 ?_ | refine N4 ?_ | refine N5 ?_ | refine N6 ?_ | refine N7 ?_ | refine N8 ?_ | refine N9 ?_ | refine R0 ?_ | refine R1 ?_ | refine R2 ?_ | refine R3 ?_ | refine R4 ?_ | refine R5 ?_ | refine R6 ?_ | refine R7 ?_ | refine R8 ?_ | refine R9 ?_ | refine S0 ?_)
  exact fin1 rfl rfl ⟨_, ⟨rfl, rfl⟩, hO.none⟩
end
/-! both queues hold the same numbers -/
structure Both (L : List (Nat × Int)) (P : Nat → List (Nat × Nat × Int)) (f g : Nat → List Tk) : Prop where
  one : ∀ s, f s = (P s).map fun p => jtk p.1
  two : ∀ s, g s = (P s).map fun p => jtk p.2.1
  mem : ∀ s p, p ∈ P s → (p.1, p.2.2) ∈ L ∧ (p.2.1, p.2.2) ∈ L
  few : ∀ s, (P s).length ≤ 4096
def updP (P : Nat → List (Nat × Nat × Int)) (s : Nat) (l : List (Nat × Nat × Int)) : Nat → List (Nat × Nat × Int) := fun i => if i = s then l else P i
theorem Both.len1 {L : List (Nat × Int)} {P : Nat → List (Nat × Nat × Int)} {f g : Nat → List Tk} (h : Both L P f g) (s : Nat) : (f s).length ≤ 4096 := by rw [h.one, List.length_map]; exact h.few s
theorem Both.len2 {L : List (Nat × Int)} {P : Nat → List (Nat × Nat × Int)} {f g : Nat → List Tk} (h : Both L P f g) (s : Nat) : (g s).length ≤ 4096 := by rw [h.two, List.length_map]; exact h.few s
theorem Both.eq {L : List (Nat × Int)} {P : Nat → List (Nat × Nat × Int)} {f g : Nat → List Tk} (h : Both L P f g) (s : Nat) : (g s).length = (f s).length := by rw [h.one, h.two, List.length_map, List.length_map]
theorem ready_eq {f g : Nat → List Tk} (h : ∀ s, (g s).length = (f s).length) : ∀ m, ready g m = ready f m
  | 0 => rfl
  | m + 1 => by rw [ready, ready, h, ready_eq h m]
theorem lenQ_eq {f g : Nat → List Tk} (h : ∀ s, (g s).length = (f s).length) : ∀ m, lenQ g m = lenQ f m
  | 0 => rfl
  | m + 1 => by rw [lenQ, lenQ, h, lenQ_eq h m]
theorem lenQ_le {f : Nat → List Tk} (h : ∀ s, (f s).length ≤ 4096) : lenQ f 4 ≤ 16384 := by
  have e : lenQ f 4 = 0 + (f 0).length + (f 1).length + (f 2).length + (f 3).length := rfl
  have := h 0; have := h 1; have := h 2; have := h 3
  omega
theorem Both.new : Both [] (fun _ => []) (fun _ => []) (fun _ => []) := ⟨fun _ => rfl, fun _ => rfl, fun s p h => by simp at h, fun s => Nat.zero_le _⟩
theorem Both.more {L M : List (Nat × Int)} {P : Nat → List (Nat × Nat × Int)} {f g : Nat → List Tk} (h : Both L P f g) (hm : ∀ x ∈ L, x ∈ M) : Both M P f g := ⟨h.one, h.two, fun s p hp => ⟨hm _ (h.mem s p hp).1, hm _ (h.mem s p hp).2⟩, h.few⟩
theorem Both.post {L : List (Nat × Int)} {P : Nat → List (Nat × Nat × Int)} {f g : Nat → List Tk} (h : Both L P f g) (s b c : Nat) (n : Int) : ∃ P', Both ((c, n) :: (b, n) :: L) P' (if (f s).length < 4096 then upd f s (f s ++ [jtk b]) else f) (if (g s).length < 4096 then upd g s (g s ++ [jtk c]) else g) := by
  have h2 := h.more (M := (c, n) :: (b, n) :: L) fun x hx => by simp [hx]
  rw [h.eq]
  by_cases hl : (f s).length < 4096
  · rw [if_pos hl, if_pos hl]
    refine ⟨updP P s (P s ++ [(b, c, n)]), fun i => ?_, fun i => ?_, fun i p hp => ?_, fun i => ?_⟩
    · unfold upd updP; split
      · rw [h.one, List.map_append]; rfl
      · exact h.one i
    · unfold upd updP; split
      · rw [h.two, List.map_append]; rfl
      · exact h.two i
    · unfold updP at hp
      split at hp
      · rcases List.mem_append.1 hp with hp | hp
        · exact h2.mem _ p hp
        · rw [List.mem_singleton.1 hp]; simp
      · exact h2.mem i p hp
    · unfold updP
      have := h.one s
      have e : (f s).length = (P s).length := by rw [h.one, List.length_map]
      split
      · simp; omega
      · exact h.few i
  · rw [if_neg hl, if_neg hl]; exact ⟨P, h2⟩
theorem Both.next {L : List (Nat × Int)} {P : Nat → List (Nat × Nat × Int)} {f g : Nat → List Tk} (h : Both L P f g) (s : Nat) : Both L (updP P s (P s).tail) (upd f s (f s).tail) (upd g s (g s).tail) := by
  refine ⟨fun i => ?_, fun i => ?_, fun i p hp => ?_, fun i => ?_⟩
  · unfold upd updP; split
    · rw [h.one, List.map_tail]
    · exact h.one i
  · unfold upd updP; split
    · rw [h.two, List.map_tail]
    · exact h.two i
  · unfold updP at hp
    split at hp
    · exact h.mem s p (List.mem_of_mem_tail hp)
    · exact h.mem i p hp
  · unfold updP
    split
    · have := h.few s; simp; omega
    · exact h.few i
theorem Both.head {L : List (Nat × Int)} {P : Nat → List (Nat × Nat × Int)} {f g : Nat → List Tk} (h : Both L P f g) {s : Nat} {t u : Tk} (h1 : (f s).head? = some t) (h2 : (g s).head? = some u) : ∃ b c n, t = jtk b ∧ u = jtk c ∧ (b, n) ∈ L ∧ (c, n) ∈ L := by
  rw [h.one] at h1
  rw [h.two] at h2
  cases hp : P s with
  | nil => rw [hp] at h1; cases h1
  | cons p l =>
    rw [hp] at h1 h2
    simp only [List.map_cons, List.head?_cons, Option.some.injEq] at h1 h2
    have := h.mem s p (by rw [hp]; simp)
    exact ⟨p.1, p.2.1, p.2.2, h1.symm, h2.symm, this.1, this.2⟩
/-! one call, in one form -/
def postE (f : Nat → List Tk) (s : Int) : Int := if s < 0 ∨ 4 ≤ s then 1 else if (f s.toNat).length < 4096 then 0 else 9
def postF (f : Nat → List Tk) (s : Int) (t : Tk) : Nat → List Tk := if s < 0 ∨ 4 ≤ s then f else if (f s.toNat).length < 4096 then upd f s.toNat (f s.toNat ++ [t]) else f
theorem Both.postG {L : List (Nat × Int)} {P : Nat → List (Nat × Nat × Int)} {f g : Nat → List Tk} (h : Both L P f g) (s : Int) (b c : Nat) (n : Int) : postE g s = postE f s ∧ ∃ P', Both ((c, n) :: (b, n) :: L) P' (postF f s (jtk b)) (postF g s (jtk c)) := by
  unfold postE postF
  by_cases hs : s < 0 ∨ 4 ≤ s
  · rw [if_pos hs, if_pos hs, if_pos hs, if_pos hs]; exact ⟨rfl, P, h.more fun x hx => by simp [hx]⟩
  · rw [if_neg hs, if_neg hs, if_neg hs, if_neg hs]
    exact ⟨by rw [h.eq], h.post s.toNat b c n⟩
def tk0 : Tk := ⟨0, none, 0, 0, none, 0, 0⟩
def nxS (f : Nat → List Tk) (n : Int) : Nat := ((ready f 4)[(n % ((ready f 4).length : Int)).toNat]?).getD 0
def nxT (f : Nat → List Tk) (n : Int) : Tk := if ready f 4 = [] then tk0 else ((f (nxS f n)).head?).getD tk0
def nxB (f : Nat → List Tk) : Bool := decide (ready f 4 ≠ [])
def nxF (f : Nat → List Tk) (n : Int) : Nat → List Tk := if ready f 4 = [] then f else upd f (nxS f n) (f (nxS f n)).tail
def nxI (f : Nat → List Tk) (n : Int) : Int := if ready f 4 = [] then 0 else (nxS f n : Nat)
/-- the number that a task tells -/
def NumT (L : List (Nat × Int)) (t : Tk) (z : Int) : Prop := (t = tk0 ∧ z = -1) ∨ ∃ b, t = jtk b ∧ (b, z) ∈ L
theorem Both.nextG {L : List (Nat × Int)} {P : Nat → List (Nat × Nat × Int)} {f g : Nat → List Tk} (h : Both L P f g) (n : Int) (hf : ready f 4 ≠ [] → ∃ t, (f (nxS f n)).head? = some t) (hg : ready g 4 ≠ [] → ∃ t, (g (nxS g n)).head? = some t) :
    nxI g n = nxI f n ∧ nxB g = nxB f ∧ (∃ z, NumT L (nxT f n) z ∧ NumT L (nxT g n) z) ∧ ∃ P', Both L P' (nxF f n) (nxF g n) := by
  have e := ready_eq h.eq 4
  have eS : nxS g n = nxS f n := by unfold nxS; rw [e]
  unfold nxI nxB nxT nxF
  rw [e, eS]
  by_cases hr : ready f 4 = []
  · rw [if_pos hr, if_pos hr, if_pos hr, if_pos hr, if_pos hr]
    exact ⟨rfl, rfl, ⟨-1, .inl ⟨rfl, rfl⟩, .inl ⟨rfl, rfl⟩⟩, P, h⟩
  · rw [if_neg hr, if_neg hr, if_neg hr, if_neg hr, if_neg hr]
    obtain ⟨t, ht⟩ := hf hr
    obtain ⟨u, hu⟩ := hg (by rw [e]; exact hr)
    rw [eS] at hu
    obtain ⟨b, c, m, rfl, rfl, h1, h2⟩ := h.head ht hu
    rw [ht, hu]
    exact ⟨rfl, rfl, ⟨m, .inr ⟨b, rfl, h1⟩, .inr ⟨c, rfl, h2⟩⟩, _, h.next _⟩
theorem head_some {f : Nat → List Tk} {n : Int} (hr : ready f 4 ≠ []) : ∃ t, (f (nxS f n)).head? = some t := by
  have hl : 0 < (ready f 4).length := List.length_pos_iff.2 hr
  have hi : (n % ((ready f 4).length : Int)).toNat < (ready f 4).length := by
    have h1 := Int.emod_nonneg n (show ((ready f 4).length : Int) ≠ 0 by omega)
    have h2 := Int.emod_lt_of_pos n (show (0 : Int) < ((ready f 4).length : Int) by omega)
    omega
  have hm : nxS f n ∈ ready f 4 := by
    unfold nxS
    rw [List.getElem?_eq_getElem hi]
    exact List.getElem_mem hi
  have := (ready_mem f 4 _ hm).2
  cases hc : f (nxS f n) with
  | nil => rw [hc] at this; exact absurd rfl this
  | cons t l => exact ⟨t, rfl⟩
section
variable {k : Ctx} {w : World}
theorem PostG_spec {q : Nat} {f : Nat → List Tk} {s : Int} {t : Tk} (hO : Own k w [que q f]) :
    Tri Try.prog 6 #[.pointer (some ⟨q, 0, none⟩), .int .i64 s, t.val] k w fun r m => r = .int .i64 (postE f s) ∧ m = [que q (postF f s t)] := by
  unfold postE postF
  by_cases hs : s < 0 ∨ 4 ≤ s
  · rw [if_pos hs, if_pos hs]; exact Post_arg k w q f s hs t hO
  · rw [if_neg hs, if_neg hs]
    have e : s = ((s.toNat : Nat) : Int) := by omega
    have := Post_spec k w q f s.toNat (by omega) t hO
    rw [← e] at this
    exact this
theorem rPostG_spec {q : Nat} {f : Nat → List Tk} {s : Int} {t : Tk} (hf : ∀ i, (f i).length ≤ 4096) (hO : Own k w [rque q f]) :
    Tri Try.prog 8 #[.pointer (some ⟨q, 0, none⟩), .int .i64 s, t.val] k w fun r m => r = .int .i64 (postE f s) ∧ m = [rque q (postF f s t)] := by
  unfold postE postF
  by_cases hs : s < 0 ∨ 4 ≤ s
  · rw [if_pos hs, if_pos hs]; exact rPost_arg k w q f s hs t hO
  · rw [if_neg hs, if_neg hs]
    have e : s = ((s.toNat : Nat) : Int) := by omega
    have := rPost_spec k w q f s.toNat (by omega) t hf hO
    rw [← e] at this
    exact this
theorem nx_of {f : Nat → List Tk} {n : Int} {s : Nat} {t : Tk} (h0 : ready f 4 ≠ []) (h1 : (ready f 4)[(n % ((ready f 4).length : Int)).toNat]? = some s) (h2 : (f s).head? = some t) : nxS f n = s ∧ nxT f n = t ∧ nxB f = true ∧ nxF f n = upd f s (f s).tail ∧ nxI f n = (s : Int) := by
  have e : nxS f n = s := by unfold nxS; rw [h1]; rfl
  refine ⟨e, ?_, ?_, ?_, ?_⟩
  · unfold nxT; rw [if_neg h0, e, h2]; rfl
  · unfold nxB; exact decide_eq_true h0
  · unfold nxF; rw [if_neg h0, e]
  · unfold nxI; rw [if_neg h0, e]
theorem nx_no {f : Nat → List Tk} {n : Int} (h0 : ready f 4 = []) : nxT f n = tk0 ∧ nxB f = false ∧ nxF f n = f ∧ nxI f n = 0 := by
  unfold nxT nxB nxF nxI
  rw [if_pos h0, if_pos h0, if_pos h0]
  exact ⟨rfl, by simp [h0], rfl, rfl⟩
theorem NextG_spec {q : Nat} {f : Nat → List Tk} {n : Int} (hO : Own k w [que q f]) :
    Tri Try.prog 9 #[.pointer (some ⟨q, 0, none⟩), .int .i64 n] k w fun r m => r = .tuple #[(nxT f n).val, .int .i64 (nxI f n), .bool (nxB f)] ∧ m = [que q (nxF f n)] := by
  refine Ret.mono (Next_spec k w q f n hO) ?_
  rintro v w' ⟨m, (⟨h0, rfl, rest, rfl⟩ | ⟨s, t, h0, h1, h2, rfl, rest, rfl⟩), h⟩
  · obtain ⟨e1, e2, e3, e4⟩ := nx_no (n := n) h0
    rw [e1, e2, e3, e4]
    exact ⟨_, ⟨rfl, rfl⟩, h.one⟩
  · obtain ⟨_, e1, e2, e3, e4⟩ := nx_of h0 h1 h2
    rw [e1, e2, e3, e4]
    exact ⟨_, ⟨rfl, rfl⟩, h.one⟩
theorem rNextG_spec {q : Nat} {f : Nat → List Tk} {n : Int} (hO : Own k w [rque q f]) :
    Tri Try.prog 10 #[.pointer (some ⟨q, 0, none⟩), .int .i64 n] k w fun r m => r = .tuple #[(nxT f n).val, .int .i64 (nxI f n), .bool (nxB f)] ∧ m = [rque q (nxF f n)] := by
  refine Ret.mono (rNext_spec k w q f n hO) ?_
  rintro v w' ⟨m, (⟨h0, rfl, rest, rfl⟩ | ⟨s, t, h0, h1, h2, rfl, rest, rfl⟩), h⟩
  · obtain ⟨e1, e2, e3, e4⟩ := nx_no (n := n) h0
    rw [e1, e2, e3, e4]
    exact ⟨_, ⟨rfl, rfl⟩, h.one⟩
  · obtain ⟨_, e1, e2, e3, e4⟩ := nx_of h0 h1 h2
    rw [e1, e2, e3, e4]
    exact ⟨_, ⟨rfl, rfl⟩, h.one⟩
theorem numberG_spec {L : List (Nat × Int)} {t : Tk} {z : Int} (hN : NumT L t z) (hR : ∀ b n, (b, n) ∈ L → Ro k ⟨b, 0, none⟩ (jrowI n)) (hO : Own k w []) :
    Tri Try.prog 11 #[t.val] k w fun r m => r = .int .i64 z ∧ m = [] := by
  rcases hN with ⟨rfl, rfl⟩ | ⟨b, rfl, hb⟩
  · exact number0_spec hO
  · exact numberI_spec (hR b z hb) hO
set_option maxHeartbeats 4000000 in
theorem TaskPlays_spec {sp : Option Addr} {sc : Nat} {l : List Law20_op} (hs : Sli (Ro k) (.slice sp l.length sc) (l.map Law20_op.cells)) (hll : l.length ≤ 9223372036854775807) (hO : Own k w []) :
    Tri Try.prog 3 #[.slice sp l.length sc] k w fun v m => v = .bool true := by
  refine enter (args := [.slice sp l.length sc]) Try.func3 rfl rfl ?_
  have hgs := sli_gs hs
  have hfit := hs.fits
  refine K0 (K1 ?_)
  refine l_y rfl rfl (y_assign rfl) ?_
  refine K2 (K3 (K0 (K1 ?_)))
  refine CK [] hO rfl (fun k' hx hr hO' => New_spec k' _ hO') ?_
  rintro _ _ w ⟨q, rfl, rfl⟩ hO
  simp only [List.cons_append, List.nil_append] at hO
  refine l_y rfl rfl (y_assign rfl) ?_
  refine K2 (K3 (K0 (K0 (K1 ?_))))
  refine l_y rfl rfl (y_move rfl) ?_
  refine l_y rfl rfl (y_eqPnil rfl rfl rfl) ?_
  refine K2 (K3 (L9 (K5 (K3 (K0 (K1 ?_))))))
  refine CK [] hO rfl (fun k' hx hr hO' => rNew_spec k' _ hO') ?_
  rintro _ _ w ⟨r, rfl, rfl⟩ hO
  simp only [List.cons_append, List.nil_append] at hO
  refine l_y rfl rfl (y_assign rfl) ?_
  refine K2 (K3 (K0 (K0 ?_)))
  have hO := Own.shut (l := bag []) hO
  refine K1 ?_
  refine l_y rfl rfl (y_assign rfl) ?_
  refine K2 (K3 (K4 ?_))
  refine c_rounds (X := Nat × List (Nat × Int) × (Nat → List Tk) × (Nat → List Tk)) (fun x => [(0, .slice sp l.length sc), (2, .bool false), (3, .pointer (some ⟨q, 0, none⟩)), (4, .pointer (some ⟨r, 0, none⟩)), (5, .int .i64 (x.1 : Int))]) (fun x w => Own k w [que q x.2.2.1, rque r x.2.2.2, sep (bag x.2.1)] ∧ (x.1 ≤ l.length) ∧ (∃ P, Both x.2.1 P x.2.2.1 x.2.2.2)) (fun x => l.length - x.1) ((0, [], fun _ => [], fun _ => [])) ⟨rfl, rfl, rfl, rfl, rfl, trivial⟩ ⟨hO.only [.o q, .o r, .s], Nat.zero_le _, ⟨_, Both.new⟩⟩ ?_
  rintro x w m hm ⟨hO, hi, hB⟩
  refine K0 (K0 (K1 ?_))
  refine l_y rfl rfl (y_move rfl) ?_
  refine l_y rfl rfl (y_move rfl) ?_
  refine l_y rfl rfl (y_lenL rfl) ?_
  refine Z0 (fun h6_3 => ?_) (fun h6_3 => ?_)
  · refine K2 (K3 (L8 (K5 (K3 (K0 (K4 (K0 ?_)))))))
    obtain ⟨P, hB⟩ := hB
    have hc1 := hB.len1
    have hc2 := hB.len2
    refine K1 ?_
    refine l_y rfl rfl (y_move rfl) ?_
    refine l_y rfl rfl (y_move rfl) ?_
    refine l_y rfl rfl (y_idx rfl rfl) ?_
    refine l_y rfl rfl (y_rA (x0 := 0) (enc := Law20_op.cells) (xs := l) (cs := [.int .i64 (at_ l ((x.1 : Int) : Int).toNat).What, .int .i64 (at_ l ((x.1 : Int) : Int).toNat).Source, .int .i64 (at_ l ((x.1 : Int) : Int).toNat).N]) hO rfl) ?_
    refine s_alloc (vs := [.int .i64 0, .int .i64 0, .int .i64 0]) hO rfl rfl rfl fun b6 w hO => ?_
    refine Y3 hO rfl rfl (fun w hO => ?_)
    refine K2 (K3 ?_)
    refine c_cut (X := List (Nat × Int) × (Nat → List Tk) × (Nat → List Tk)) (fun y => [(0, .slice sp l.length sc), (2, .bool false), (3, .pointer (some ⟨q, 0, none⟩)), (4, .pointer (some ⟨r, 0, none⟩)), (5, .int .i64 (x.1 : Int))]) (fun y w => Own k w [que q y.2.1, rque r y.2.2, sep (bag y.1)] ∧ (∃ P, Both y.1 P y.2.1 y.2.2)) ?_ ?_
    · refine K0 ?_
      obtain ⟨o, ho⟩ : ∃ o, o = at_ l ((x.1 : Int)).toNat := ⟨_, rfl⟩
      rw [← ho] at hO ⊢
      refine K1 ?_
      refine l_y rfl rfl (y_fldb (o' := 0) rfl) ?_
      refine l_y rfl rfl (D5 hO rfl) ?_
      refine Z0 (fun h9_2 => ?_) (fun h9_2 => ?_)
      · refine K2 (K3 (L8 (K0 ?_)))
        refine da_region (by intro c a d v w h; cases d <;> exact h) ?_
        have hO := hO.drew
        refine da_phase _ [13] (SO.ks [.b b6] hO) ?_
        refine dx_u 0 (by kernel_rfl) rfl rfl rfl (fun w => y_move rfl) ?_
        refine dx_u 1 (by kernel_rfl) rfl rfl rfl (fun w => y_fldb (o' := 1) rfl) ?_
        refine dx_y 2 (by kernel_rfl) rfl rfl rfl (fun w ⟨m, hw⟩ => D5 hw rfl) ?_
        refine dx_u 3 (by kernel_rfl) rfl rfl rfl (fun w => y_fldb (o' := 2) rfl) ?_
        refine dx_y 4 (by kernel_rfl) rfl rfl rfl (fun w ⟨m, hw⟩ => D5 hw rfl) ?_
        refine dx_u 7 (by kernel_rfl) rfl rfl rfl (fun w => y_move rfl) ?_
        refine dx_u 8 (by kernel_rfl) rfl rfl rfl (fun w => y_fldb (o' := 1) rfl) ?_
        refine dx_y 9 (by kernel_rfl) rfl rfl rfl (fun w ⟨m, hw⟩ => D5 hw rfl) ?_
        refine dx_u 10 (by kernel_rfl) rfl rfl rfl (fun w => y_fldb (o' := 2) rfl) ?_
        refine dx_y 11 (by kernel_rfl) rfl rfl rfl (fun w ⟨m, hw⟩ => D5 hw rfl) ?_
        refine dx_only 5 (by kernel_rfl) rfl rfl ?_
        refine CK [] hO rfl (fun k' hx hr hO' => job_spec k' _ _ hO') ?_
        rintro _ _ w ⟨jb, rfl, rfl⟩ hO
        simp only [List.cons_append, List.nil_append] at hO
        have hO : Own k w (jarrI jb o.N :: _) := hO
        refine o_done ?_
        refine ⟨SO.ks [.b b6] hO, ?_⟩
        refine dx_only 6 (by kernel_rfl) rfl rfl ?_
        refine CK [.o q] hO rfl (fun k' hx hr hO' => PostG_spec (t := jtk jb) hO') ?_
        rintro _ _ w ⟨rfl, rfl⟩ hO
        simp only [List.cons_append, List.nil_append] at hO
        refine o_done ?_
        refine ⟨SO.ks [.b b6] hO, ?_⟩
        refine dx_only 12 (by kernel_rfl) rfl rfl ?_
        refine CK [] hO rfl (fun k' hx hr hO' => job_spec k' _ _ hO') ?_
        rintro _ _ w ⟨jc, rfl, rfl⟩ hO
        simp only [List.cons_append, List.nil_append] at hO
        have hO : Own k w (jarrI jc o.N :: _) := hO
        refine o_done ?_
        refine ⟨SO.ks [.b b6] hO, ?_⟩
        refine dx_close 13 (by kernel_rfl) rfl rfl ?_
        refine CK [.o r] hO rfl (fun k' hx hr hO' => rPostG_spec (t := jtk jc) hc2 hO') ?_
        rintro _ _ w ⟨rfl, rfl⟩ hO
        simp only [List.cons_append, List.nil_append] at hO
        obtain ⟨eE, P2, hB2⟩ := hB.postG o.Source jb jc o.N
        rw [eE]
        have hO := bag_more (hO.ks [.o jb, .s])
        have hO := bag_more (hO.ks [.o jc, .s])
        refine o_done ?_
        refine da_phase _ [] (SO.ks [] hO) ?_
        refine dx_y 14 (by kernel_rfl) rfl rfl rfl (fun w ⟨m, hw⟩ => D2 (hp := rfl)) ?_
        refine dx_end (by kernel_rfl) ?_
        refine K3 (L9 (K5 ?_))
        exact q_cut ((_, _, _)) ⟨rfl, rfl, rfl, rfl, rfl, trivial⟩ ⟨hO.only [.o q, .o r, .s], ⟨_, hB2⟩⟩
      · refine K2 (K3 (L9 (K0 (K1 ?_))))
        refine l_y rfl rfl (y_move rfl) ?_
        refine l_y rfl rfl (y_fldb (o' := 2) rfl) ?_
        refine l_y rfl rfl (D5 hO rfl) ?_
        refine CK [.o q] hO rfl (fun k' hx hr hO' => NextG_spec hO') ?_
        rintro _ _ w ⟨rfl, rfl⟩ hO
        simp only [List.cons_append, List.nil_append] at hO
        obtain ⟨t1, ht1⟩ : ∃ t1, t1 = nxT x.2.2.1 o.N := ⟨_, rfl⟩
        rw [← ht1]
        refine l_y rfl rfl (y_move rfl) ?_
        refine l_y rfl rfl (y_extract rfl rfl) ?_
        refine l_y rfl rfl (y_extract rfl rfl) ?_
        refine l_y rfl rfl (y_extract rfl rfl) ?_
        refine s_alloc (vs := [.int .i64 0, .slice none 0 0, .slice none 0 0]) hO rfl rfl rfl fun b7 w hO => ?_
        refine Y3 hO rfl rfl (fun w hO => ?_)
        refine l_y rfl rfl (y_assign rfl) ?_
        refine l_y rfl rfl (y_assign rfl) ?_
        refine K2 (K3 (K0 (K1 ?_)))
        refine l_y rfl rfl (y_move rfl) ?_
        refine l_y rfl rfl (y_fldb (o' := 2) rfl) ?_
        refine l_y rfl rfl (D5 hO rfl) ?_
        refine CK [.o r] hO rfl (fun k' hx hr hO' => rNextG_spec hO') ?_
        rintro _ _ w ⟨rfl, rfl⟩ hO
        simp only [List.cons_append, List.nil_append] at hO
        obtain ⟨t2, ht2⟩ : ∃ t2, t2 = nxT x.2.2.2 o.N := ⟨_, rfl⟩
        obtain ⟨eI, eB, ⟨z, hz1, hz2⟩, P2, hB2⟩ := hB.nextG o.N head_some head_some
        rw [← ht2, eI, eB]
        rw [← ht1] at hz1
        rw [← ht2] at hz2
        refine l_y rfl rfl (y_move rfl) ?_
        refine l_y rfl rfl (y_extract rfl rfl) ?_
        refine l_y rfl rfl (y_extract rfl rfl) ?_
        refine l_y rfl rfl (y_extract rfl rfl) ?_
        refine s_alloc (vs := [.int .i64 0, .slice none 0 0, .slice none 0 0]) hO rfl rfl rfl fun b10 w hO => ?_
        refine Y3 hO rfl rfl (fun w hO => ?_)
        refine l_y rfl rfl (y_assign rfl) ?_
        refine l_y rfl rfl (y_assign rfl) ?_
        refine K2 (K3 (K0 ?_))
        refine da_region (by intro c a d v w h; cases d <;> exact h) ?_
        have hO := hO.drew
        refine da_phase _ [3] (SO.ks [.b b7, .b b10] hO) ?_
        refine dx_y 0 (by kernel_rfl) rfl rfl rfl (fun w ⟨m, hw⟩ => D8 (cs := [.int .i64 t1.what, .slice t1.b t1.bn t1.bc, .slice t1.a t1.an t1.ac]) hw rfl) ?_
        refine dx_y 2 (by kernel_rfl) rfl rfl rfl (fun w ⟨m, hw⟩ => D8 (cs := [.int .i64 t2.what, .slice t2.b t2.bn t2.bc, .slice t2.a t2.an t2.ac]) hw rfl) ?_
        refine dx_only 1 (by kernel_rfl) rfl rfl ?_
        refine CK [] hO rfl (fun k' hx hr hO' => numberG_spec (t := t1) hz1 (fun b n hb => hr (sep (bag x.2.1)) (by simp) _ _ (bag_has hb)) hO') ?_
        rintro _ _ w ⟨rfl, rfl⟩ hO
        simp only [List.cons_append, List.nil_append] at hO
        refine o_done ?_
        refine ⟨SO.ks [.b b7, .b b10] hO, ?_⟩
        refine dx_close 3 (by kernel_rfl) rfl rfl ?_
        refine CK [] hO rfl (fun k' hx hr hO' => numberG_spec (t := t2) hz2 (fun b n hb => hr (sep (bag x.2.1)) (by simp) _ _ (bag_has hb)) hO') ?_
        rintro _ _ w ⟨rfl, rfl⟩ hO
        simp only [List.cons_append, List.nil_append] at hO
        refine o_done ?_
        refine da_phase _ [] (SO.ks [] hO) ?_
        refine dx_y 4 (by kernel_rfl) rfl rfl rfl (fun w ⟨m, hw⟩ => D2 (hp := rfl)) ?_
        refine dx_u 5 (by kernel_rfl) rfl rfl rfl (fun w => y_move rfl) ?_
        refine dx_u 6 (by kernel_rfl) rfl rfl rfl (fun w => y_move rfl) ?_
        refine dx_u 7 (by kernel_rfl) rfl rfl rfl (fun w => y_move rfl) ?_
        refine dx_y 8 (by kernel_rfl) rfl rfl rfl (fun w ⟨m, hw⟩ => D2 (hp := rfl)) ?_
        refine dx_u 9 (by kernel_rfl) rfl rfl rfl (fun w => y_pick_f rfl rfl) ?_
        refine dx_u 10 (by kernel_rfl) rfl rfl rfl (fun w => y_move rfl) ?_
        refine dx_u 11 (by kernel_rfl) rfl rfl rfl (fun w => y_move rfl) ?_
        refine dx_u 12 (by kernel_rfl) rfl rfl rfl (fun w => y_move rfl) ?_
        refine dx_y 13 (by kernel_rfl) rfl rfl rfl (fun w ⟨m, hw⟩ => y_neB (c := false) rfl rfl (by simp)) ?_
        refine dx_u 14 (by kernel_rfl) rfl rfl rfl (fun w => y_pick_f rfl rfl) ?_
        refine dx_end (by kernel_rfl) ?_
        refine K3 (L9 (K5 ?_))
        exact q_cut ((_, _, _)) ⟨rfl, rfl, rfl, rfl, rfl, trivial⟩ ⟨hO.only [.o q, .o r, .s], ⟨_, hB2⟩⟩
    · rintro y w ⟨hO, hB2⟩
      refine K0 ?_
      obtain ⟨P2, hB2⟩ := hB2
      have hc1 := hB2.len1
      have hc2 := hB2.len2
      refine K1 ?_
      refine l_y rfl rfl (y_move rfl) ?_
      refine CK [.o q] hO rfl (fun k' hx hr hO' => Len_spec k' _ q _ hc1 hO') ?_
      rintro _ _ w ⟨rfl, rfl⟩ hO
      simp only [List.cons_append, List.nil_append] at hO
      refine l_y rfl rfl (y_move rfl) ?_
      refine CK [.o r] hO rfl (fun k' hx hr hO' => rLen_spec k' _ r _ hc2 hO') ?_
      rintro _ _ w ⟨rfl, rfl⟩ hO
      simp only [List.cons_append, List.nil_append] at hO
      rw [lenQ_eq hB2.eq]
      refine N4 (hp := rfl) ?_
      refine l_y rfl rfl (y_move rfl) ?_
      refine l_y rfl rfl (y_move rfl) ?_
      refine CK [.o q] hO rfl (fun k' hx hr hO' => Ready_spec k' _ q _ hO') ?_
      rintro va _ w rfl hO
      simp only [List.cons_append, List.nil_append] at hO
      obtain ⟨qa, ca, hva⟩ := sl_shape (hO.pull (.tl _ (.hd _ _)))
      rw [ints_len] at hva
      subst hva
      refine l_y rfl rfl (y_move rfl) ?_
      refine CK [.o r] hO rfl (fun k' hx hr hO' => rReady_spec k' _ r _ hO') ?_
      rintro _ _ w ⟨qb, cb, rfl, rfl⟩ hO
      simp only [List.cons_append, List.nil_append] at hO
      rw [ready_eq hB2.eq] at hO ⊢
      refine CK [] hO rfl (fun k' hx hr hO' => lints_spec k' _ qa qb _ _ ca cb ((ready y.2.1 4).map fun (n : Nat) => (n : Int)) ((ready y.2.1 4).map fun (n : Nat) => (n : Int)) (by rw [← ints_iv]; exact sl_ro hr (T := 3) (sz := 1) (by simp) hO (.tl _ (.tl _ (.tl _ (.hd _ _))))) (by rw [← ints_iv]; exact sl_ro hr (T := 3) (sz := 1) (by simp) hO (.tl _ (.hd _ _))) (by have := ready_len y.2.1 4; simp; omega) hO') ?_
      rintro _ _ w ⟨rfl, rfl⟩ hO
      simp only [List.cons_append, List.nil_append] at hO
      rw [decide_eq_true rfl]
      refine l_y rfl rfl (y_not rfl rfl) ?_
      refine l_y rfl rfl (y_pick_f rfl rfl) ?_
      refine K2 (K3 (L9 (K5 (K8 (K3 (K1 ?_))))))
      refine l_y rfl rfl (y_move rfl) ?_
      refine l_y rfl rfl (D4) ?_
      refine l_y rfl rfl (y_assign rfl) ?_
      refine K2 ?_
      exact q_next ((x.1 + 1, _, _, _)) ⟨rfl, rfl, rfl, rfl, rfl, trivial⟩ ⟨hO.only [.o q, .o r, .s], by dsimp only; omega, ⟨_, hB2⟩⟩ (by dsimp only; omega)
  · refine K2 (K3 (L9 (K7 (L1 (L1 (L2 (K3 (K0 (K1 ?_)))))))))
    refine CK [] hO rfl (fun k' hx hr hO' => awake_spec k' _ hO') ?_
    rintro _ _ w ⟨rfl, rfl⟩ hO
    simp only [List.cons_append, List.nil_append] at hO
    refine l_y rfl rfl (y_assign rfl) ?_
    refine K2 (K3 (K6 ?_))
    exact fin1 rfl rfl ⟨_, rfl, hO⟩
end
theorem rd_Law20_op {H : Type} {enc : TypeId × Value → H} {W : World} : Reads enc Try.prog W 28 (QSt [QInt .i64, QInt .i64, QInt .i64]) := by
  have h : Try.prog.cellsOf 28 = 3 := by kernel_rfl
  letI : Und Try.prog 28 _ := ⟨Try.underlying28⟩
  refine r_st ?_
  rw [h]
  exact .cons (m := 1) rfl (by kernel_rfl) r_int (.cons (m := 1) rfl (by kernel_rfl) r_int (.cons (m := 1) rfl (by kernel_rfl) r_int (.nil _)))
theorem of_Law20_op {H : Type} {r : List Value} {d : DataW H} (h : QSt [QInt .i64, QInt .i64, QInt .i64] r d) : ∃ o : Law20_op, r = Law20_op.cells o ∧ True := by
  obtain ⟨ps, rfl, hq⟩ := h
  obtain ⟨c0, cs0, d0, ds0, rfl, rfl, g0, hq⟩ := hq.un
  obtain ⟨c1, cs1, d1, ds1, rfl, rfl, g1, hq⟩ := hq.un
  obtain ⟨c2, cs2, d2, ds2, rfl, rfl, g2, hq⟩ := hq.un
  obtain ⟨rfl, rfl⟩ := hq.un0
  obtain ⟨n0, rfl, rfl, _⟩ := g0
  obtain ⟨n1, rfl, rfl, _⟩ := g1
  obtain ⟨n2, rfl, rfl, _⟩ := g2
  exact ⟨⟨n0, n1, n2⟩, by simp [Law20_op.cells], trivial⟩
end Go.Proofs.Ytglicmjgnknmkaa
