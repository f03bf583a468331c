/- The walk of the law ActiveClears. -/
import Derived.Test.YtbhicbpfdbnpfaaAct3
set_option linter.unusedVariables false
set_option linter.unusedSimpArgs false
set_option maxRecDepth 100000
namespace Go.Proofs.Ytbhicbpfdbnpfaa
open Go Go.Hb Go.RowKit
/-- so many elements, and no others -/
structure EAr (A : List Node_one) (n : Nat) : Prop where
  len : A.length = n + 1
  el : ∀ j : Int, elB A j = decide (1 ≤ j ∧ j ≤ n)
  attrs : AttrsOk A
theorem EAr.new : EAr [docD] 0 := ⟨rfl, fun j => by
  unfold elB hasB
  by_cases h : j = 0
  · subst h; rfl
  · rw [show decide (0 ≤ j ∧ j < (([docD] : List Node_one).length : Int)) = false from decide_eq_false (by simp; omega)]
    exact (decide_eq_false (by omega)).symm, fun i hi => by
  have : i = 0 := by simp at hi; omega
  subst this; exact Nat.zero_le _⟩
theorem EAr.step {A : List Node_one} {n : Nat} (h : EAr A n) (q : Option Addr) (d : Nat) (nm : ByteArray) : EAr (A ++ [blankN (elementN q d 0 nm [])]) (n + 1) := ⟨by simp [h.len], fun j => by
  have hl := h.len
  by_cases h1 : j = A.length
  · subst h1
    unfold elB hasB
    rw [at_new, decide_eq_true (show 0 ≤ (A.length : Int) ∧ (A.length : Int) < ((A ++ [blankN (elementN q d 0 nm [])]).length : Int) by simp; omega), decide_eq_true (show 1 ≤ (A.length : Int) ∧ (A.length : Int) ≤ ((n + 1 : Nat) : Int) by omega)]
    rfl
  · have h2 := h.el j
    by_cases h3 : 0 ≤ j ∧ j < A.length
    · have e : elB (A ++ [blankN (elementN q d 0 nm [])]) j = elB A j := by
        unfold elB hasB
        rw [at_app_l (by omega), decide_eq_true h3, decide_eq_true (show 0 ≤ j ∧ j < ((A ++ [blankN (elementN q d 0 nm [])]).length : Int) by simp; omega)]
      rw [e, h2]; congr 1; apply propext; omega
    · unfold elB hasB
      rw [decide_eq_false (show ¬ (0 ≤ j ∧ j < ((A ++ [blankN (elementN q d 0 nm [])]).length : Int)) by simp; omega)]
      exact (decide_eq_false (by omega)).symm, fun i hi => by
  by_cases h1 : i < A.length
  · rw [at_app_l h1]; exact h.attrs i h1
  · have : i = A.length := by simp at hi; omega
    subst this; rw [at_app_new]; exact Nat.zero_le _⟩
def bS : ByteArray := ⟨#[98]⟩
theorem ElB_spec {k : Ctx} {w : World} {a n : Nat} {A : List Node_one} (hl : A.length = n + 1) (hn : n ≤ 1000) (hO : Own k w [arenaL a A]) :
    Tri Try.prog 17 #[.pointer (some ⟨a, 0, none⟩), .int .i64 0, .string bS, .slice none 0 0] k w fun v m => ∃ q d, v = .tuple #[.int .i64 ((n : Int) + 1), .int .i64 0] ∧ m = [arenaL a (A ++ [blankN (elementN q d 0 bS [])])] := by
  refine (Element_spec (xs := []) (by omega) (by omega) (Sli.nil rfl) hO).mono ?_
  rintro v m ⟨q, d, rfl, rfl⟩
  have hnt : ¬ tmpl 0 bS := fun h => absurd h.2 (by decide)
  have e : elementL A 0 bS [] q d = ((n : Int) + 1, 0, A ++ [blankN (elementN q d 0 bS [])]) := by
    rw [elementL, if_neg (by omega), if_neg (by simp), if_neg (fun h => hnt h.1), if_neg (by decide), if_neg (by omega), if_neg hnt, hl]; rfl
  rw [e]; exact ⟨q, d, rfl, rfl⟩
theorem bk_ne {L : List Api_entry} {n : Nat} : ∀ {i : Nat}, i ∈ bk L n → (at_ L i).Node ≠ -1 := by
  induction n with
  | zero => intro i h; cases h
  | succ n ih =>
    intro i h
    rw [bk] at h
    split at h
    · cases h
    · next hn =>
      rcases List.mem_cons.1 h with rfl | h
      · exact hn
      · exact ih h
theorem pushE_plain {A : List Node_one} {L : List Api_entry} {e : Api_entry} (h : ∀ y ∈ L, y.Node ≠ -1 → kinB A e y = false) : pushE A L e = L ++ [e] := by
  have key : ∀ xs : List Nat, (∀ i ∈ xs, kinB A e (at_ L i) = false) → pk A L e xs = (0, 0) := by
    intro xs
    unfold pk
    induction xs with
    | nil => intro _; rfl
    | cons i xs ih => intro hh; rw [List.foldl_cons, if_neg (by rw [hh i (by simp)]; simp)]; exact ih fun j hj => hh j (by simp [hj])
  rw [pushE, key _ (fun i hi => h _ (at_mem (bk_lt hi)) (bk_ne hi)), if_neg (by decide)]
theorem findE_none {L : List Api_entry} {x : Int} (h : ∀ y ∈ L, y.Node ≠ x) : findE L x = -1 := by
  rw [findE]; split
  · rfl
  · exact idx_none fun j hj => decide_eq_false (h _ (at_mem hj))
def xA (b : UInt8) : Api_attr := ⟨0, ⟨#[]⟩, ⟨#[120]⟩, ⟨[b].toArray⟩⟩
theorem xA_ne {i j : Nat} (hi : i < 256) (hj : j < i) : xA (UInt8.ofNat i) ≠ xA (UInt8.ofNat j) := fun h => by
  have h2 := congrArg (fun z : Api_attr => z.Value.data.toList) h
  simp only [xA] at h2
  have h3 : UInt8.ofNat i = UInt8.ofNat j := by simpa using h2
  have h4 := congrArg UInt8.toNat h3
  simp at h4
  omega
/-- the law's list -/
def esC (b : Bool) (n i : Nat) (P B : List Api_entry) : List Api_entry := P ++ (if b = true ∧ n < i then [markE] else []) ++ B
def esZ (b : Bool) (P B : List Api_entry) : List Api_entry := P ++ (if b = true then [markE] else []) ++ B
theorem esC_same {b : Bool} {n i : Nat} {P B : List Api_entry} (h : i ≠ n ∨ b = false) : esC b n i P B = esC b n (i + 1) P B := by
  unfold esC
  congr 2
  rcases h with h | h
  · by_cases h2 : n < i
    · simp [h2, show n < i + 1 by omega]
    · simp [h2, show ¬ n < i + 1 by omega]
  · subst h; simp
structure Clr (n i : Nat) (P B : List Api_entry) (F : Pl) : Prop where
  pl : P.length = min i n
  bl : B.length = i - n
  node : ∀ j, j < P.length → (at_ P j).Node = (j : Int) + 1
  ent : ∀ e ∈ P ++ B, ∃ j : Nat, j < i ∧ e.Node = (j : Int) + 1 ∧ e.Token.Attrs = [xA (UInt8.ofNat j)] ∧ Sli (PH F) (.slice e.Token.AttrsP e.Token.Attrs.length e.Token.AttrsC) (e.Token.Attrs.map Api_attr.cells)
theorem esC_mem {b : Bool} {n i : Nat} {P B : List Api_entry} {e : Api_entry} (h : e ∈ esC b n i P B) : e = markE ∨ e ∈ P ++ B := by
  unfold esC at h
  split at h
  · simp only [List.mem_append, List.mem_singleton] at h ⊢
    rcases h with (h | h) | h
    · exact .inr (.inl h)
    · exact .inl h
    · exact .inr (.inr h)
  · simp only [List.append_nil] at h; exact .inr h
theorem esC_mark {b : Bool} {n i : Nat} {P B : List Api_entry} {F : Pl} (h : Clr n i P B F) (hi : i = n) (hb : b = true) : esC b n i P B ++ [markE] = esC b n (i + 1) P B := by
  have hB : B = [] := List.eq_nil_of_length_eq_zero (by have := h.bl; omega)
  subst hB hi hb
  simp [esC]
theorem esC_len {b : Bool} {n i m : Nat} {P B : List Api_entry} {F : Pl} (h : Clr n i P B F) : (esC b n m P B).length ≤ i + 1 := by
  have h1 := h.pl
  have h2 := h.bl
  unfold esC
  split
  · simp; omega
  · simp; omega
theorem Clr.new {n : Nat} {F : Pl} : Clr n 0 [] [] F := ⟨by simp, by simp, fun j hj => absurd hj (Nat.not_lt_zero _), fun e he => by cases he⟩
theorem Clr.step {n i : Nat} {P B : List Api_entry} {F G : Pl} (h : Clr n i P B F) {e : Api_entry} (hle : PLe F G) (hn : e.Node = (i : Int) + 1) (hA : e.Token.Attrs = [xA (UInt8.ofNat i)]) (hs : Sli (PH G) (.slice e.Token.AttrsP e.Token.Attrs.length e.Token.AttrsC) (e.Token.Attrs.map Api_attr.cells)) (b : Bool) :
    ∃ P' B', Clr n (i + 1) P' B' G ∧ esC b n (i + 1) P B ++ [e] = esC b n (i + 1) P' B' := by
  have hent : ∀ y ∈ P ++ B ++ [e], ∃ j : Nat, j < i + 1 ∧ y.Node = (j : Int) + 1 ∧ y.Token.Attrs = [xA (UInt8.ofNat j)] ∧ Sli (PH G) (.slice y.Token.AttrsP y.Token.Attrs.length y.Token.AttrsC) (y.Token.Attrs.map Api_attr.cells) := by
    intro y hy
    rcases List.mem_append.1 hy with hy | hy
    · obtain ⟨j, h1, h2, h3, h4⟩ := h.ent y hy
      exact ⟨j, by omega, h2, h3, h4.le hle⟩
    · rw [List.mem_singleton.1 hy]
      exact ⟨i, by omega, hn, hA, hs⟩
  have h1 := h.pl
  have h2 := h.bl
  by_cases hi : i < n
  · have hB : B = [] := List.eq_nil_of_length_eq_zero (by omega)
    subst hB
    refine ⟨P ++ [e], [], ⟨by simp; omega, by simp; omega, fun j hj => ?_, by simpa using hent⟩, ?_⟩
    · by_cases hj2 : j < P.length
      · rw [at_app_l hj2]; exact h.node j hj2
      · have : j = P.length := by simp at hj; omega
        subst this
        rw [at_app_new, hn]; congr 2; omega
    · rw [esC, esC, if_neg (by omega)]; simp
  · refine ⟨P, B ++ [e], ⟨by omega, by simp; omega, h.node, by simpa using hent⟩, ?_⟩
    rw [esC, esC]; simp
theorem esC_Z {b : Bool} {n i : Nat} {P B : List Api_entry} (h : b = false ∨ n < i) : esC b n i P B = esZ b P B := by
  unfold esC esZ
  rcases h with h | h
  · subst h; simp
  · simp [h]
theorem Clr.zmark {n i : Nat} {b : Bool} {P B : List Api_entry} {F : Pl} (h : Clr n i P B F) (hi : i ≤ n) (hb : b = true) : esC b n i P B ++ [markE] = esZ b P B := by
  have hB : B = [] := List.eq_nil_of_length_eq_zero (by have := h.bl; omega)
  subst hB hb
  simp [esC, esZ, show ¬ n < i by omega]
theorem Clr.clear0 {n i left : Nat} {b : Bool} {P B : List Api_entry} {F : Pl} (h : Clr n i P B F) (hb : b = false) (hL : Lm (esZ b P B) (esZ b P B).length left) : left = 0 ∧ (esZ b P B).length = i := by
  have h1 := h.pl
  have h2 := h.bl
  subst hb
  refine ⟨?_, by simp [esZ]; omega⟩
  rcases hL.it with h3 | ⟨h3, h4⟩
  · exact h3
  · have hm := at_mem h3
    have hm2 : at_ (esZ false P B) left ∈ P ++ B := by simpa [esZ] using hm
    obtain ⟨j, _, h5, _⟩ := h.ent _ hm2
    rw [h5] at h4; omega
theorem Clr.clear1 {n i left : Nat} {b : Bool} {P B : List Api_entry} {F : Pl} (h : Clr n i P B F) (hb : b = true) (hi : n ≤ i) (hL : Lm (esZ b P B) (esZ b P B).length left) : left = n ∧ (esZ b P B).length = i + 1 ∧ (esZ b P B).take n = P := by
  have h1 := h.pl
  have h2 := h.bl
  subst hb
  have hPn : P.length = n := by omega
  have e : esZ true P B = (P ++ [markE]) ++ B := by simp [esZ]
  have hlen : (esZ true P B).length = i + 1 := by rw [e]; simp; omega
  have hn : at_ (esZ true P B) n = markE := by rw [e, at_app_l (by simp; omega), ← hPn, at_app_new]
  refine ⟨?_, hlen, by rw [e, ← hPn]; simp⟩
  rcases Nat.lt_trichotomy left n with h3 | h3 | h3
  · exact absurd (by rw [hn]; rfl) (hL.aft n h3 (by omega))
  · exact h3
  · rcases hL.it with h4 | ⟨h4, h5⟩
    · omega
    · have h6 := at_get h4
      rw [e] at h6
      rw [List.getElem?_append_right (by simp; omega)] at h6
      have hm := List.mem_of_getElem? h6
      obtain ⟨j, _, h7, _⟩ := h.ent _ (List.mem_append_right _ hm)
      rw [e, h7] at h5; omega
theorem Clr.findN {n i : Nat} {P B : List Api_entry} {F : Pl} (h : Clr n i P B F) (hi : n ≤ i) (h0 : 0 < n) : findE P n = (n : Int) - 1 := by
  have h1 := h.pl
  have hPn : P.length = n := by omega
  rw [findE, if_neg (by omega)]
  rw [idx_at (p := fun y : Api_entry => decide (y.Node = (n : Int))) (i := n - 1) (by omega) (decide_eq_true (show (at_ P (n - 1)).Node = (n : Int) by rw [h.node (n - 1) (by omega)]; omega)) (fun j hj => decide_eq_false (show ¬ (at_ P j).Node = (n : Int) by rw [h.node j (by omega)]; omega))]
  omega
theorem Clr.has {n i : Nat} {b : Bool} {P B : List Api_entry} {F : Pl} {A : List Node_one} (h : Clr n i P B F) (hA : EAr A (i + 1)) : ∀ e ∈ esC b n (i + 1) P B, e.Node ≠ -1 → hasB A e.Node = true := fun e he hne => by
  rcases esC_mem he with rfl | he
  · exact absurd rfl hne
  · obtain ⟨j, h1, h2, _⟩ := h.ent e he
    refine elB_has ?_
    rw [hA.el, h2]
    exact decide_eq_true ⟨by omega, by omega⟩
theorem Clr.eok {n i m : Nat} {b : Bool} {P B : List Api_entry} {F : Pl} {k : Ctx} (h : Clr n i P B F) (hk : ∀ v rows, Sli (PH F) v rows → Sli (Ro k) v rows) {e : Api_entry} (he : e ∈ esC b n m P B) : EOk k e := by
  rcases esC_mem he with rfl | he
  · exact ⟨Sli.nil rfl, Nat.zero_le _⟩
  · obtain ⟨j, _, _, h3, h4⟩ := h.ent e he
    exact ⟨hk _ _ h4, by rw [h3]; simp⟩
theorem Clr.fresh {n i : Nat} {b : Bool} {P B : List Api_entry} {F : Pl} {A : List Node_one} (h : Clr n i P B F) (hA : EAr A (i + 1)) : freshF A (esC b n (i + 1) P B) ((i : Int) + 1) = 0 := by
  rw [freshF, hA.el, if_neg (by rw [decide_eq_true (by omega)]; simp), findE_none, if_neg (by decide)]
  intro y hy
  rcases esC_mem hy with rfl | hy
  · show (-1 : Int) ≠ _; omega
  · obtain ⟨j, h1, h2, _⟩ := h.ent y hy
    rw [h2]; omega
theorem Clr.push {n i : Nat} {b : Bool} {P B : List Api_entry} {F : Pl} {A : List Node_one} (h : Clr n i P B F) {e : Api_entry} (hn : e.Node = (i : Int) + 1) (hA : e.Token.Attrs = [xA (UInt8.ofNat i)]) (hi : i < 256) : pushE A (esC b n (i + 1) P B) e = esC b n (i + 1) P B ++ [e] := by
  refine pushE_plain fun y hy hne => ?_
  rcases esC_mem hy with rfl | hy
  · exact absurd rfl hne
  · obtain ⟨j, h1, h2, h3, _⟩ := h.ent y hy
    have e : withinB e.Token.Attrs y.Token.Attrs = false := by
      rw [hA, h3]
      simp only [withinB, List.all_cons, List.all_nil, List.any_cons, List.any_nil, Bool.and_true, Bool.or_false]
      exact decide_eq_false (xA_ne hi h1)
    rw [kinB, e]; simp
section
variable {k : Ctx} {w : World}
theorem awake13_spec (hO : Own k w []) : Tri Try.prog 44 #[] k w fun v m => v = .bool true ∧ m = [] := by
  refine enter (args := []) Try.func44 rfl rfl ?_
  refine K0 (K1 ?_)
  refine l_y rfl rfl (y_assign rfl) ?_
  refine K2 (K3 (K0 (K1 ?_)))
  refine CK [] hO rfl (fun k' hx hr hO' => New_spec (hO := hO')) ?_
  rintro _ _ w ⟨a4, rfl, rfl⟩ hO
  simp only [List.cons_append, List.nil_append] at hO
  refine CK [.o a4] hO rfl (fun k' hx hr hO' => aNew_spec (A := [docD]) (by decide) (hO := hO')) ?_
  rintro _ _ w ⟨s5, rfl, rfl⟩ hO
  simp only [List.cons_append, List.nil_append] at hO
  refine l_y rfl rfl (y_move rfl) ?_
  refine l_y rfl rfl (y_extract rfl rfl) ?_
  refine l_y rfl rfl (y_extract rfl rfl) ?_
  refine l_y rfl rfl (y_assign rfl) ?_
  refine l_y rfl rfl (y_assign rfl) ?_
  refine K2 (K3 (K0 (K1 ?_)))
  refine l_y rfl rfl (y_move rfl) ?_
  refine l_y rfl rfl (y_nePnil rfl rfl rfl) ?_
  refine l_y rfl rfl (y_move rfl) ?_
  refine l_y rfl rfl (y_move rfl) ?_
  refine N2 ?_
  refine l_y rfl rfl (y_pick_t rfl rfl) ?_
  refine l_y rfl rfl (y_move rfl) ?_
  refine l_y rfl rfl (y_move rfl) ?_
  refine CK [.o s5] hO rfl (fun k' hx hr hO' => aMark_spec (by simp) (hO := hO')) ?_
  rintro _ _ w ⟨rfl, rfl⟩ hO
  simp only [List.cons_append, List.nil_append] at hO
  refine N2 ?_
  refine l_y rfl rfl (y_pick_t rfl rfl) ?_
  refine l_y rfl rfl (y_move rfl) ?_
  refine l_y rfl rfl (y_move rfl) ?_
  refine CK [.o s5] hO rfl (fun k' hx hr hO' => aLen_spec (hO := hO')) ?_
  rintro _ _ w ⟨rfl, rfl⟩ hO
  simp only [List.cons_append, List.nil_append] at hO
  refine N2 (hp := rfl) ?_
  refine l_y rfl rfl (y_pick_t rfl rfl) ?_
  refine l_y rfl rfl (y_assign rfl) ?_
  refine K2 (K3 (K6 ?_))
  exact fin1 rfl rfl ⟨_, ⟨rfl, rfl⟩, hO.only []⟩
set_option maxHeartbeats 4000000 in
theorem ActiveClears_spec {a0 b0 : Int} {mk : Bool} (h00 : 0 ≤ a0) (h01 : a0 ≤ 255) (h10 : 0 ≤ b0) (h11 : b0 ≤ 255) (hO : Own k w []) :
    Tri Try.prog 7 #[.int .u8 a0, .int .u8 b0, .bool mk] k w fun v m => v = .bool true := by
  refine enter (args := [.int .u8 a0, .int .u8 b0, .bool mk]) Try.func7 rfl rfl ?_
  obtain ⟨n, hn⟩ : ∃ n : Nat, a0 % 20 = n := ⟨(a0 % 20).toNat, by omega⟩
  obtain ⟨mm, hmm⟩ : ∃ m : Nat, b0 % 20 = m := ⟨(b0 % 20).toNat, by omega⟩
  have hn20 : n < 20 := by omega
  have hm20 : mm < 20 := by omega
  refine K0 (K1 ?_)
  refine l_y rfl rfl (y_assign rfl) ?_
  refine K2 (K3 (K0 (K1 ?_)))
  refine CK [] hO rfl (fun k' hx hr hO' => New_spec (hO := hO')) ?_
  rintro _ _ w ⟨a15, rfl, rfl⟩ hO
  simp only [List.cons_append, List.nil_append] at hO
  refine l_y rfl rfl (y_assign rfl) ?_
  refine K2 (K3 (K0 (K1 ?_)))
  refine l_y rfl rfl (y_move rfl) ?_
  refine CK [.o a15] hO rfl (fun k' hx hr hO' => aNew_spec (A := [docD]) (by decide) (hO := hO')) ?_
  rintro _ _ w ⟨s18, rfl, rfl⟩ hO
  simp only [List.cons_append, List.nil_append] at hO
  refine l_y rfl rfl (y_move rfl) ?_
  refine l_y rfl rfl (y_extract rfl rfl) ?_
  refine l_y rfl rfl (y_extract rfl rfl) ?_
  refine l_y rfl rfl (y_assign rfl) ?_
  refine l_y rfl rfl (y_assign rfl) ?_
  refine K2 (K3 (K0 (K0 (K1 ?_))))
  refine l_y rfl rfl (y_move rfl) ?_
  refine l_y rfl rfl (y_eqPnil rfl rfl rfl) ?_
  refine l_y rfl rfl (y_move rfl) ?_
  refine l_y rfl rfl (y_move rfl) ?_
  refine l_y rfl rfl (y_eqPnil rfl rfl rfl) ?_
  refine l_y rfl rfl (y_pick_f rfl rfl) ?_
  refine K2 (K3 (L9 (K5 (K3 (K0 (K1 ?_))))))
  refine l_y rfl rfl (y_move rfl) ?_
  refine l_y (v := .int .u8 (n : Int)) rfl rfl (by rw [← hn]; exact y_remN rfl rfl (by omega) (by decide)) ?_
  refine l_y rfl rfl (D7) ?_
  refine l_y rfl rfl (y_assign rfl) ?_
  refine K2 (K3 (K0 (K1 ?_)))
  refine l_y rfl rfl (y_move rfl) ?_
  refine l_y (v := .int .u8 (mm : Int)) rfl rfl (by rw [← hmm]; exact y_remN rfl rfl (by omega) (by decide)) ?_
  refine l_y rfl rfl (D7) ?_
  refine l_y rfl rfl (y_assign rfl) ?_
  refine K2 (K3 (K0 (K0 ?_)))
  rw [show ([] : List Api_entry) = esC mk n 0 [] [] by simp [esC]] at hO
  obtain ⟨F0, hO⟩ : ∃ F, Own k w (pool F :: _) := ⟨_, hO.pool0⟩
  refine K1 ?_
  refine l_y rfl rfl (y_assign rfl) ?_
  refine K2 (K3 (K4 ?_))
  refine c_rounds (X := Nat × List Node_one × List Api_entry × List Api_entry × Pl) (fun x => [(2, .bool mk), (6, .bool false), (7, .pointer (some ⟨a15, 0, none⟩)), (8, .pointer (some ⟨s18, 0, none⟩)), (10, .int .i64 (n : Int)), (11, .int .i64 (mm : Int)), (12, .int .i64 (x.1 : Int))]) (fun x w => Own k w [arenaL a15 x.2.1, actL s18 a15 (esC mk n x.1 x.2.2.1 x.2.2.2.1), pool x.2.2.2.2] ∧ (EAr x.2.1 x.1) ∧ (Clr n x.1 x.2.2.1 x.2.2.2.1 x.2.2.2.2) ∧ (x.1 ≤ n + mm)) (fun x => n + mm - x.1) ((0, [docD], [], [], F0)) ⟨rfl, rfl, rfl, rfl, rfl, rfl, rfl, trivial⟩ ⟨hO.only [.o a15, .o s18, .f], EAr.new, Clr.new, Nat.zero_le _⟩ ?_
  rintro x w m hm ⟨hO, hA, hC, hi⟩
  refine K0 (K0 (K1 ?_))
  refine l_y rfl rfl (y_move rfl) ?_
  refine l_y rfl rfl (y_move rfl) ?_
  refine l_y rfl rfl (y_move rfl) ?_
  refine l_y rfl rfl (D4) ?_
  refine Z0 (fun h8_4 => ?_) (fun h8_4 => ?_)
  · refine K2 (K3 (L8 (K5 (K3 (K0 (K4 ?_))))))
    refine c_cut (X := Unit) (fun u => [(2, .bool mk), (6, .bool false), (7, .pointer (some ⟨a15, 0, none⟩)), (8, .pointer (some ⟨s18, 0, none⟩)), (10, .int .i64 (n : Int)), (11, .int .i64 (mm : Int)), (12, .int .i64 (x.1 : Int))]) (fun u w => Own k w [arenaL a15 x.2.1, actL s18 a15 (esC mk n (x.1 + 1) x.2.2.1 x.2.2.2.1), pool x.2.2.2.2] ∧ True) ?_ ?_
    · refine K0 (K1 ?_)
      refine l_y rfl rfl (y_move rfl) ?_
      refine l_y rfl rfl (y_move rfl) ?_
      refine Z0 (fun h10_2 => ?_) (fun h10_2 => ?_)
      · refine l_y rfl rfl (y_move rfl) ?_
        refine l_y rfl rfl (y_move rfl) ?_
        refine l_y rfl rfl (y_pick_t rfl rfl) ?_
        refine K2 (K3 ?_)
        refine c_split rfl (fun hc45 => ?_) (fun hc45 => ?_)
        · refine K1 ?_
          refine l_y rfl rfl (y_move rfl) ?_
          have hC2 := esC_len (b := mk) (m := x.1) hC
          refine CK [.o s18] hO rfl (fun k' hx hr hO' => aMark_spec (by omega) (hO := hO')) ?_
          rintro _ _ w ⟨rfl, rfl⟩ hO
          simp only [List.cons_append, List.nil_append] at hO
          rw [esC_mark hC (by omega) hc45] at hO
          refine K2 ?_
          try rw [esC_same (b := mk) (n := n) (i := x.1) (by first | (exact .inl (by omega)) | (exact .inr (by assumption)))] at hO
          exact q_cut (()) ⟨rfl, rfl, rfl, rfl, rfl, rfl, rfl, trivial⟩ ⟨hO.only [.o a15, .o s18, .f], trivial⟩
        · refine K5 ?_
          try rw [esC_same (b := mk) (n := n) (i := x.1) (by first | (exact .inl (by omega)) | (exact .inr (by assumption)))] at hO
          exact q_cut (()) ⟨rfl, rfl, rfl, rfl, rfl, rfl, rfl, trivial⟩ ⟨hO.only [.o a15, .o s18, .f], trivial⟩
      · refine l_y rfl rfl (y_move rfl) ?_
        repeat refine M2 ?_
        refine l_y rfl rfl (y_pick_f rfl rfl) ?_
        refine K2 (K3 (L9 (K5 ?_)))
        try rw [esC_same (b := mk) (n := n) (i := x.1) (by first | (exact .inl (by omega)) | (exact .inr (by assumption)))] at hO
        exact q_cut (()) ⟨rfl, rfl, rfl, rfl, rfl, rfl, rfl, trivial⟩ ⟨hO.only [.o a15, .o s18, .f], trivial⟩
    · rintro u w ⟨hO, _⟩
      refine K0 (K1 ?_)
      refine l_y rfl rfl (y_move rfl) ?_
      refine CK [.o a15] hO rfl (fun k' hx hr hO' => ElB_spec hA.len (by omega) (hO := hO')) ?_
      rintro _ _ w ⟨q1, d1, rfl, rfl⟩ hO
      simp only [List.cons_append, List.nil_append] at hO
      refine l_y rfl rfl (y_move rfl) ?_
      refine l_y rfl rfl (y_extract rfl rfl) ?_
      refine l_y rfl rfl (y_extract rfl rfl) ?_
      refine l_y rfl rfl (y_assign rfl) ?_
      refine l_y rfl rfl (y_assign rfl) ?_
      refine K2 (K3 (K0 ?_))
      obtain ⟨bt, hbt0⟩ : ∃ b : UInt8, b = UInt8.ofNat x.1 := ⟨_, rfl⟩
      have hbt : (bt.toNat : Int) = x.1 := by rw [hbt0]; simp; omega
      have hA2 := hA.step q1 d1 bS
      refine K1 ?_
      refine l_y rfl rfl (y_move rfl) ?_
      refine l_y rfl rfl (y_move rfl) ?_
      refine l_y rfl rfl (y_move rfl) ?_
      refine l_y (v := .int .u8 (bt.toNat : Int)) rfl rfl (y_convI rfl (by rw [IntKind.wrap_u8, hbt]; omega)) ?_
      refine s_lit (parts := [(0, .tmp 56)]) (enc := (eI .u8)) [(bt.toNat : Int)] [.int .u8 (bt.toNat : Int)] hO rfl (fun b57 w hO => ?_)
      have hO2 : Own k w (sl (.slice (some ⟨b57, 0, none⟩) (by1 [bt]).length 1) 5 1 (by1 [bt]) :: _) := hO
      refine l_y rfl rfl (y_bytesStr (bs := [bt]) hO2 (.hd _ _) rfl) ?_
      refine s_build (parts := [(2, .const (.string ⟨#[120]⟩)), (3, .tmp 58)]) (cs := [.int .i64 0, .string ⟨#[]⟩, .string ⟨#[120]⟩, .string ⟨[bt].toArray⟩]) rfl rfl (fun a ha => partsOf_sound ha _ _ rfl) (by kernel_rfl) ?_
      refine s_lit (parts := [(0, .tmp 59)]) (enc := Api_attr.cells) [⟨0, ⟨#[]⟩, ⟨#[120]⟩, ⟨[bt].toArray⟩⟩] [.agg [.int .i64 0, .string ⟨#[]⟩, .string ⟨#[120]⟩, .string ⟨[bt].toArray⟩].toArray] hO rfl (fun b60 w hO => ?_)
      obtain ⟨F2, hle, hO, hsa⟩ := (hO.ks [.p (some ⟨b60, 0, none⟩), .f]).pooled
      refine s_build (parts := [(8, .tmp 60)]) (cs := [.int .i64 0, .string ⟨#[]⟩, .string ⟨#[]⟩, .string ⟨#[]⟩, .int .i64 0, .bool false, .int .i32 0, .bool false, .slice (some ⟨b60, 0, none⟩) 1 1]) rfl rfl (fun a ha => partsOf_sound ha _ _ rfl) (by kernel_rfl) ?_
      refine CK [.o a15, .o s18] hO rfl (fun k' hx hr hO' => aPush_spec (id := (x.1 : Int) + 1) (tk := ⟨0, ⟨#[]⟩, ⟨#[]⟩, ⟨#[]⟩, 0, false, 0, false, (some ⟨b60, 0, none⟩), [xA bt], 1⟩) (by simp) hA2.attrs (by have := esC_len (b := mk) (m := x.1 + 1) hC; omega) (hC.has hA2) (fun e he => hC.eok (fun v rows h => pool_roK (F := F2) hr (h.le hle)) he) ⟨pool_roK (F := F2) hr hsa, by simp⟩ (hO := hO')) ?_
      rintro _ _ w ⟨rfl, rfl⟩ hO
      simp only [List.cons_append, List.nil_append] at hO
      obtain ⟨P2, B2, hC2, he2⟩ := hC.step (e := ⟨(x.1 : Int) + 1, ⟨0, ⟨#[]⟩, ⟨#[]⟩, ⟨#[]⟩, 0, false, 0, false, (some ⟨b60, 0, none⟩), [xA bt], 1⟩⟩) hle rfl (by rw [hbt0]) hsa mk
      have hf0 := hC.fresh (b := mk) hA2
      rw [hf0, if_pos rfl, hC.push (by rfl) (by rw [hbt0]) (by omega), he2] at hO
      rw [hf0]
      refine N4 ?_
      refine K2 (K3 (L9 (K5 (K8 (K3 (K1 ?_))))))
      refine l_y rfl rfl (y_move rfl) ?_
      refine l_y rfl rfl (D4) ?_
      refine l_y rfl rfl (y_assign rfl) ?_
      refine K2 ?_
      exact q_next ((x.1 + 1, _, P2, B2, F2)) ⟨rfl, rfl, rfl, rfl, rfl, rfl, rfl, trivial⟩ ⟨hO.only [.o a15, .o s18, .f], hA2, hC2, by dsimp only; omega⟩ (by dsimp only; omega)
  · refine K2 (K3 (L9 (K7 (L1 (L1 (L2 (K3 ?_)))))))
    refine c_cut (X := Unit) (fun u => [(2, .bool mk), (6, .bool false), (8, .pointer (some ⟨s18, 0, none⟩)), (10, .int .i64 (n : Int)), (11, .int .i64 (mm : Int))]) (fun u w => Own k w [arenaL a15 x.2.1, actL s18 a15 (esZ mk x.2.2.1 x.2.2.2.1)] ∧ True) ?_ ?_
    · refine K0 (K1 ?_)
      refine l_y rfl rfl (y_move rfl) ?_
      refine Z0 (fun h15_1 => ?_) (fun h15_1 => ?_)
      · refine l_y rfl rfl (y_move rfl) ?_
        refine l_y rfl rfl (y_move rfl) ?_
        refine l_y rfl rfl (y_pick_t rfl rfl) ?_
        refine K2 (K3 ?_)
        refine c_split rfl (fun hc68 => ?_) (fun hc68 => ?_)
        · refine K1 ?_
          refine l_y rfl rfl (y_move rfl) ?_
          have hCl := esC_len (b := mk) (m := x.1) hC
          refine CK [.o s18] hO rfl (fun k' hx hr hO' => aMark_spec (by omega) (hO := hO')) ?_
          rintro _ _ w ⟨rfl, rfl⟩ hO
          simp only [List.cons_append, List.nil_append] at hO
          rw [hC.zmark (by omega) hc68] at hO
          refine K2 ?_
          try rw [esC_Z (b := mk) (n := n) (i := x.1) (by first | (exact .inr (by omega)) | (exact .inl (by assumption)))] at hO
          exact q_cut (()) ⟨rfl, rfl, rfl, rfl, rfl, trivial⟩ ⟨hO.only [.o a15, .o s18], trivial⟩
        · refine K5 ?_
          try rw [esC_Z (b := mk) (n := n) (i := x.1) (by first | (exact .inr (by omega)) | (exact .inl (by assumption)))] at hO
          exact q_cut (()) ⟨rfl, rfl, rfl, rfl, rfl, trivial⟩ ⟨hO.only [.o a15, .o s18], trivial⟩
      · refine l_y rfl rfl (y_move rfl) ?_
        repeat refine M2 ?_
        refine l_y rfl rfl (y_pick_f rfl rfl) ?_
        refine K2 (K3 (L9 (K5 ?_)))
        try rw [esC_Z (b := mk) (n := n) (i := x.1) (by first | (exact .inr (by omega)) | (exact .inl (by assumption)))] at hO
        exact q_cut (()) ⟨rfl, rfl, rfl, rfl, rfl, trivial⟩ ⟨hO.only [.o a15, .o s18], trivial⟩
    · rintro u w ⟨hO, _⟩
      refine K0 (K0 (K1 ?_))
      refine l_y rfl rfl (y_move rfl) ?_
      refine l_y rfl rfl (y_not rfl rfl) ?_
      refine K2 (K3 ?_)
      refine c_split rfl (fun hc72 => ?_) (fun hc72 => ?_)
      · simp only [Bool.not_eq_true', Bool.not_eq_false'] at hc72
        refine K0 ?_
        have hxe : x.1 = n + mm := by omega
        have hl0 : (esZ mk x.2.2.1 x.2.2.2.1).length ≤ 2000000 := by have := hC.pl; have := hC.bl; unfold esZ; split <;> simp <;> omega
        refine K1 ?_
        refine l_y rfl rfl (y_move rfl) ?_
        refine CK [.o s18] hO rfl (fun k' hx hr hO' => aClear_spec hl0 (hO := hO')) ?_
        rintro _ _ w ⟨left, hL, rfl, rfl⟩ hO
        simp only [List.cons_append, List.nil_append] at hO
        obtain ⟨hle, hel⟩ := hC.clear0 hc72 hL
        rw [hle] at hO
        rw [hle, hel]
        refine l_y rfl rfl (y_move rfl) ?_
        refine l_y rfl rfl (y_move rfl) ?_
        refine l_y rfl rfl (D4) ?_
        refine N2 (hp := (by omega)) ?_
        refine l_y rfl rfl (y_move rfl) ?_
        refine l_y rfl rfl (y_move rfl) ?_
        refine CK [.o s18] hO rfl (fun k' hx hr hO' => aLen_spec (hO := hO')) ?_
        rintro _ _ w ⟨rfl, rfl⟩ hO
        simp only [List.cons_append, List.nil_append] at hO
        refine N2 (hp := (by simp)) ?_
        refine l_y rfl rfl (y_pick_t rfl rfl) ?_
        refine l_y rfl rfl (y_assign rfl) ?_
        refine K2 (K3 (K6 (K9 ?_)))
        exact fin1 rfl rfl ⟨_, rfl, hO.only []⟩
      · simp only [Bool.not_eq_true', Bool.not_eq_false'] at hc72
        refine K5 (K3 (K0 ?_))
        have hxe : x.1 = n + mm := by omega
        have hl0 : (esZ mk x.2.2.1 x.2.2.2.1).length ≤ 2000000 := by have := hC.pl; have := hC.bl; unfold esZ; split <;> simp <;> omega
        refine K1 ?_
        refine l_y rfl rfl (y_move rfl) ?_
        refine CK [.o s18] hO rfl (fun k' hx hr hO' => aClear_spec hl0 (hO := hO')) ?_
        rintro _ _ w ⟨left, hL, rfl, rfl⟩ hO
        simp only [List.cons_append, List.nil_append] at hO
        obtain ⟨hle, hel, hta⟩ := hC.clear1 hc72 (by omega) hL
        have hpl := hC.pl
        rw [hle, hta] at hO
        rw [hle, hel]
        refine l_y rfl rfl (y_move rfl) ?_
        refine l_y rfl rfl (D4) ?_
        refine N2 (hp := (by omega)) ?_
        refine l_y rfl rfl (y_move rfl) ?_
        refine l_y rfl rfl (y_move rfl) ?_
        refine CK [.o s18] hO rfl (fun k' hx hr hO' => aLen_spec (hO := hO')) ?_
        rintro _ _ w ⟨rfl, rfl⟩ hO
        simp only [List.cons_append, List.nil_append] at hO
        refine l_y rfl rfl (y_move rfl) ?_
        refine N2 (hp := (by omega)) ?_
        refine l_y rfl rfl (y_pick_t rfl rfl) ?_
        refine l_y rfl rfl (y_move rfl) ?_
        refine l_y rfl rfl (y_move rfl) ?_
        refine Z0 (fun h19_13 => ?_) (fun h19_13 => ?_)
        · refine l_y rfl rfl (y_move rfl) ?_
          repeat refine M2 ?_
          refine l_y rfl rfl (y_pick_t rfl rfl) ?_
          refine l_y rfl rfl (y_pick_t rfl rfl) ?_
          refine l_y rfl rfl (y_assign rfl) ?_
          refine K2 (K3 (K6 ?_))
          exact fin1 rfl rfl ⟨_, rfl, hO.only []⟩
        · refine l_y rfl rfl (y_move rfl) ?_
          refine l_y rfl rfl (y_move rfl) ?_
          refine l_y rfl rfl (y_move rfl) ?_
          refine CK [.o s18] hO rfl (fun k' hx hr hO' => aFind_spec (by omega) (hO := hO')) ?_
          rintro _ _ w ⟨rfl, rfl⟩ hO
          simp only [List.cons_append, List.nil_append] at hO
          rw [hC.findN (by omega) (by omega)]
          refine l_y rfl rfl (y_move rfl) ?_
          refine l_y rfl rfl (D4) ?_
          refine N2 (hp := rfl) ?_
          refine l_y rfl rfl (y_pick_f rfl rfl) ?_
          refine l_y rfl rfl (y_pick_t rfl rfl) ?_
          refine l_y rfl rfl (y_assign rfl) ?_
          refine K2 (K3 (K6 ?_))
          exact fin1 rfl rfl ⟨_, rfl, hO.only []⟩
end
end Go.Proofs.Ytbhicbpfdbnpfaa
