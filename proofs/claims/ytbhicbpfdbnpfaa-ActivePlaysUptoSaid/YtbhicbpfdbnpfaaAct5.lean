/- The plain law of three of a kind, and the walk of the law ActiveArk. -/
import Derived.Test.YtbhicbpfdbnpfaaAct4
import Derived.Test.YtbhicbpfdbnpfaaPlay1
set_option linter.unusedVariables false
set_option linter.unusedSimpArgs false
set_option maxRecDepth 100000
namespace Go.Proofs.Ytbhicbpfdbnpfaa
open Go Go.Hb Go.RowKit
/-! all names are of one space -/
def ZpOk (A : List Node_one) : Prop := ∀ i, i < A.length → (at_ A i).Node.Space = 0
theorem ZpOk.new : ZpOk [docD] := fun i hi => by
  have : i = 0 := by simp at hi; omega
  subst this; rfl
theorem ZpOk.app {A : List Node_one} (h : ZpOk A) {n : Node_one} (hn : n.Node.Space = 0) : ZpOk (A ++ [n]) := fun i hi => by
  by_cases h1 : i < A.length
  · rw [at_app_l h1]; exact h i h1
  · have : i = A.length := by simp at hi; omega
    subst this; rw [at_app_new]; exact hn
theorem ZpOk.set {A : List Node_one} (h : ZpOk A) {i : Nat} {n : Node_one} (hn : i < A.length → n.Node.Space = (at_ A i).Node.Space) : ZpOk (A.set i n) := fun j hj => by
  have hj' : j < A.length := by simpa using hj
  by_cases h1 : i < A.length
  · rw [at_set h1]
    split
    · rw [hn h1]; exact h i h1
    · exact h j hj'
  · rw [List.set_eq_of_length_le (by omega)]; exact h j hj'
theorem ZpOk.element {A : List Node_one} (h : ZpOk A) {nm : ByteArray} {xs : List Api_attr} {q : Option Addr} {d : Nat} : ZpOk (elementL A 0 nm xs q d).2.2 := by
  unfold elementL
  rw [if_neg (by omega)]
  have h2 : ZpOk (A ++ [blankN (elementN q d 0 nm xs)]) := h.app rfl
  repeat' split
  all_goals first | exact h | exact h2 | skip
  dsimp only
  unfold setHost setInner
  refine ZpOk.set (ZpOk.set (h2.app (n := blankN fragmentN) rfl) ?_) ?_
  · intro _; rfl
  · intro _; rfl
section
variable {k : Ctx} {w : World}
set_option maxHeartbeats 1000000 in
theorem arenas13_spec {lp : Option Addr} {lc : Nat} {L : List ByteArray} (hs : Sli (Ro k) (.slice lp L.length lc) (L.map eS)) (hO : Own k w []) :
    Tri Try.prog 41 #[.slice lp L.length lc] k w fun v m => ∃ a r A K R, v = .tuple #[.pointer (some ⟨a, 0, none⟩), .pointer (some ⟨r, 0, none⟩)] ∧ m = [arenaL a A, rarL r R] ∧ Two A K R ∧ ZpOk A := by
  refine enter (args := [.slice lp L.length lc]) Try.func41 rfl rfl ?_
  have hgs := sli_gs hs
  refine K0 (K1 ?_)
  refine l_y rfl rfl (y_assign rfl) ?_
  refine l_y rfl rfl (y_assign rfl) ?_
  refine K2 (K3 (K0 (K1 ?_)))
  refine CK [] hO rfl (fun k' hx hr hO' => New_spec (hO := hO')) ?_
  rintro _ _ w ⟨a7, rfl, rfl⟩ hO
  simp only [List.cons_append, List.nil_append] at hO
  refine l_y rfl rfl (y_assign rfl) ?_
  refine K2 (K3 (K0 (K1 ?_)))
  refine CK [] hO rfl (fun k' hx hr hO' => rNew_spec (hO := hO')) ?_
  rintro _ _ w ⟨r8, rfl, rfl⟩ hO
  simp only [List.cons_append, List.nil_append] at hO
  refine l_y rfl rfl (y_assign rfl) ?_
  refine K2 (K3 (K0 (K0 (K1 ?_))))
  refine l_y rfl rfl (y_assign rfl) ?_
  refine K2 (K3 (K4 ?_))
  refine c_rounds (X := Nat × List Node_one × (Int → List Int) × List Ref01_one) (fun x => [(0, .slice lp L.length lc), (2, .pointer none), (3, .pointer none), (4, .pointer (some ⟨a7, 0, none⟩)), (5, .pointer (some ⟨r8, 0, none⟩)), (6, .int .i64 (x.1 : Int))]) (fun x w => Own k w [arenaL a7 x.2.1, rarL r8 x.2.2.2] ∧ (x.1 ≤ L.length) ∧ (Two x.2.1 x.2.2.1 x.2.2.2) ∧ (ZpOk x.2.1)) (fun x => L.length - x.1) ((0, [docD], fun _ => [], [docR])) ⟨rfl, rfl, rfl, rfl, rfl, rfl, trivial⟩ ⟨hO.only [.o a7, .o r8], Nat.zero_le _, Two.new, ZpOk.new⟩ ?_
  rintro x w m hm ⟨hO, hi, t, hsp⟩
  refine K0 (K0 (K1 ?_))
  refine l_y rfl rfl (y_move rfl) ?_
  refine l_y rfl rfl (y_move rfl) ?_
  refine l_y rfl rfl (y_lenL rfl) ?_
  refine Z0 (fun h4_3 => ?_) (fun h4_3 => ?_)
  · refine l_y rfl rfl (y_move rfl) ?_
    refine l_y rfl rfl (y_move rfl) ?_
    refine Z0 (fun h4_6 => ?_) (fun h4_6 => ?_)
    · refine l_y rfl rfl (y_pick_t rfl rfl) ?_
      refine l_y rfl rfl (y_move rfl) ?_
      refine l_y rfl rfl (y_move rfl) ?_
      refine l_y rfl rfl (y_nePnil rfl rfl rfl) ?_
      refine l_y rfl rfl (y_pick_t rfl rfl) ?_
      refine K2 (K3 (L8 (K5 (K3 (K0 (K4 (K0 (K1 ?_))))))))
      refine l_y rfl rfl (y_move rfl) ?_
      refine l_y rfl rfl (y_move rfl) ?_
      refine l_y rfl rfl (y_move rfl) ?_
      refine l_y rfl rfl (y_idx rfl rfl) ?_
      refine l_y rfl rfl (y_r1 (x0 := 0) (enc := eS) (xs := L) hO rfl) ?_
      refine CK [.o a7] hO rfl (fun k' hx hr hO' => Element_spec (xs := []) t.pos t.max (Sli.nil rfl) (hO := hO')) ?_
      rintro _ _ w ⟨q1, d1, rfl, rfl⟩ hO
      refine K2 (K3 (K1 ?_))
      refine l_y rfl rfl (y_move rfl) ?_
      refine l_y rfl rfl (y_move rfl) ?_
      refine l_y rfl rfl (y_move rfl) ?_
      refine l_y rfl rfl (y_idx rfl rfl) ?_
      refine l_y rfl rfl (y_r1 (x0 := 0) (enc := eS) (xs := L) hO rfl) ?_
      refine CK [.o r8] hO rfl (fun k' hx hr hO' => rElement_spec (xs := []) t.rmax (Sli.nil rfl) (hO := hO')) ?_
      rintro _ _ w ⟨q2, d2, rfl, rfl⟩ hO
      simp only [List.cons_append, List.nil_append] at hO
      obtain ⟨e1, e2, Kz, t9⟩ := el_both t 0 (at_ L x.1) [] q1 q2 d1 d2
      refine K2 (K8 (K3 (K1 ?_)))
      refine l_y rfl rfl (y_move rfl) ?_
      refine l_y rfl rfl (D4) ?_
      refine l_y rfl rfl (y_assign rfl) ?_
      refine K2 ?_
      exact q_next ((x.1 + 1, (elementL x.2.1 0 (at_ L x.1) [] q1 d1).2.2, Kz, (elementR x.2.2.2 0 (at_ L x.1) [] q2 d2).2.2)) ⟨rfl, rfl, rfl, rfl, rfl, rfl, trivial⟩ ⟨hO.only [.o a7, .o r8], by dsimp only; omega, t9, hsp.element⟩ (by dsimp only; omega)
    · refine l_y rfl rfl (y_pick_t rfl rfl) ?_
      refine l_y rfl rfl (y_move rfl) ?_
      repeat refine M2 ?_
      refine l_y rfl rfl (y_pick_f rfl rfl) ?_
      refine K2 (K3 (L9 (K7 (L1 (L1 (L2 (K3 (K0 (K1 ?_)))))))))
      refine l_y rfl rfl (y_move rfl) ?_
      refine l_y rfl rfl (y_move rfl) ?_
      refine l_y rfl rfl (y_assign rfl) ?_
      refine l_y rfl rfl (y_assign rfl) ?_
      refine K2 (K3 (K6 ?_))
      exact fin2 rfl rfl rfl ⟨_, ⟨a7, r8, _, _, _, rfl, rfl, t, hsp⟩, hO.only [.o a7, .o r8]⟩
  · refine l_y rfl rfl (y_move rfl) ?_
    repeat refine M2 ?_
    refine l_y rfl rfl (y_pick_f rfl rfl) ?_
    refine l_y rfl rfl (y_move rfl) ?_
    repeat refine M2 ?_
    refine l_y rfl rfl (y_pick_f rfl rfl) ?_
    refine K2 (K3 (L9 (K7 (L1 (L1 (L2 (K3 (K0 (K1 ?_)))))))))
    refine l_y rfl rfl (y_move rfl) ?_
    refine l_y rfl rfl (y_move rfl) ?_
    refine l_y rfl rfl (y_assign rfl) ?_
    refine l_y rfl rfl (y_assign rfl) ?_
    refine K2 (K3 (K6 ?_))
    exact fin2 rfl rfl rfl ⟨_, ⟨a7, r8, _, _, _, rfl, rfl, t, hsp⟩, hO.only [.o a7, .o r8]⟩
end
/-! the entries behind the last marker, the last one first -/
def rv (L : List Api_entry) : List Api_entry := L.reverse.takeWhile fun e => decide (e.Node ≠ -1)
theorem rv_mark {L : List Api_entry} {e : Api_entry} (h : e.Node = -1) : rv (L ++ [e]) = [] := by simp [rv, h]
theorem rv_app {u v : List Api_entry} (h : ∀ e ∈ v, e.Node ≠ -1) : rv (u ++ v) = v.reverse ++ rv u := by
  rw [rv, List.reverse_append, List.takeWhile_append_of_pos]
  · rfl
  · intro e he; exact decide_eq_true (h e (List.mem_reverse.1 he))
theorem bk_rv {L : List Api_entry} : ∀ n, n ≤ L.length → (bk L n).map (at_ L) = rv (L.take n)
  | 0, _ => rfl
  | n + 1, h => by
    rw [take_succ_at (by omega), bk]
    split
    · next hn => rw [rv_mark hn]; rfl
    · next hn =>
      rw [rv_app (fun e he => by rw [List.mem_singleton.1 he]; exact hn), List.map_cons, bk_rv n (by omega)]; rfl
theorem bk_aft {L : List Api_entry} {n : Nat} : ∀ {i : Nat}, i ∈ bk L n → ∀ j, i ≤ j → j < n → (at_ L j).Node ≠ -1 := by
  induction n with
  | zero => intro i h; cases h
  | succ n ih =>
    intro i h j h1 h2
    rw [bk] at h
    split at h
    · cases h
    · next hn =>
      by_cases e : j = n
      · subst e; exact hn
      · rcases List.mem_cons.1 h with rfl | h
        · omega
        · exact ih h j h1 (by omega)
def cn (p : Api_entry → Bool) (L : List Api_entry) : Nat := (rv L).countP p
theorem cn_bk {p : Api_entry → Bool} {L : List Api_entry} : (bk L L.length).countP (fun i => p (at_ L i)) = cn p L := by
  have h := bk_rv (L := L) L.length (Nat.le_refl _)
  rw [List.take_length] at h
  rw [cn, ← h, List.countP_map]; rfl
theorem cn_add {p : Api_entry → Bool} {L : List Api_entry} {e : Api_entry} (h : e.Node ≠ -1) : cn p (L ++ [e]) = cn p L + (if p e = true then 1 else 0) := by
  rw [cn, rv_app (fun y hy => by rw [List.mem_singleton.1 hy]; exact h), List.countP_append, List.reverse_singleton, List.countP_singleton, cn, Nat.add_comm]
theorem cn_cut {p : Api_entry → Bool} {L : List Api_entry} {i : Nat} (h : i ∈ bk L L.length) : cn p L = cn p (cutE L i) + (if p (at_ L i) = true then 1 else 0) := by
  have hi := bk_lt h
  have hv : ∀ e ∈ L.drop (i + 1), e.Node ≠ -1 := fun e he => by
    obtain ⟨j, hj, e2⟩ := mem_at he
    have h3 : at_ (L.drop (i + 1)) j = at_ L (i + 1 + j) := by
      have h4 := at_get hj
      rw [List.getElem?_drop] at h4
      exact (at_eq h4).symm
    rw [← e2, h3]
    simp at hj
    exact bk_aft h _ (by omega) (by omega)
  have hv2 : ∀ e ∈ [at_ L i] ++ L.drop (i + 1), e.Node ≠ -1 := fun e he => by
    rcases List.mem_append.1 he with he | he
    · rw [List.mem_singleton.1 he]; exact bk_ne h
    · exact hv e he
  have hL : L = L.take i ++ ([at_ L i] ++ L.drop (i + 1)) := by
    rw [← List.append_assoc, ← take_succ_at hi, List.take_append_drop]
  have e1 : rv L = (([at_ L i] ++ L.drop (i + 1)).reverse) ++ rv (L.take i) := by
    conv => lhs; rw [hL]
    exact rv_app hv2
  rw [cn, cn, e1, cutE, rv_app hv]
  simp only [List.reverse_append, List.countP_append, List.reverse_singleton, List.countP_singleton]
  omega
section
variable {A : List Node_one} {L : List Api_entry} {e : Api_entry}
theorem pk_count (xs : List Nat) : (pk A L e xs).1 = xs.countP (fun i => kinB A e (at_ L i)) ∧ (0 < (pk A L e xs).1 → kinB A e (at_ L (pk A L e xs).2) = true) := by
  have key : ∀ (xs : List Nat) (z : Nat × Nat), (xs.foldl (fun z i => if kinB A e (at_ L i) = true then (z.1 + 1, i) else z) z).1 = z.1 + xs.countP (fun i => kinB A e (at_ L i)) ∧
      ((xs.foldl (fun z i => if kinB A e (at_ L i) = true then (z.1 + 1, i) else z) z) = z ∨ kinB A e (at_ L (xs.foldl (fun z i => if kinB A e (at_ L i) = true then (z.1 + 1, i) else z) z).2) = true) := by
    intro xs
    induction xs with
    | nil => intro z; exact ⟨rfl, .inl rfl⟩
    | cons i xs ih =>
      intro z
      rw [List.foldl_cons, List.countP_cons]
      by_cases h : kinB A e (at_ L i) = true
      · rw [if_pos h, if_pos h]
        obtain ⟨h1, h2⟩ := ih (z.1 + 1, i)
        refine ⟨by rw [h1]; dsimp only; omega, .inr ?_⟩
        rcases h2 with h2 | h2
        · rw [h2]; exact h
        · exact h2
      · rw [if_neg h, if_neg h]
        obtain ⟨h1, h2⟩ := ih z
        exact ⟨by rw [h1]; omega, h2⟩
  obtain ⟨h1, h2⟩ := key xs (0, 0)
  refine ⟨by rw [pk, h1]; simp, fun h => ?_⟩
  rcases h2 with h2 | h2
  · rw [pk, h2] at h; exact absurd h (by decide)
  · exact h2
def x1A : Api_attr := ⟨0, ⟨#[]⟩, ⟨#[120]⟩, ⟨#[49]⟩⟩
def pT (A : List Node_one) (t : ByteArray) (n : Nat) (y : Api_entry) : Bool := decide ((nodeA A y.Node).Name = t) && decide (y.Token.Attrs.length = n)
def Xs (l : List Api_attr) : Prop := l = [] ∨ l = [x1A]
theorem kin_pT {y : Api_entry} (hz : ZpOk A) (he : elB A e.Node = true) (hy : elB A y.Node = true) (h1 : Xs e.Token.Attrs) (h2 : Xs y.Token.Attrs) : kinB A e y = pT A (nodeA A e.Node).Name e.Token.Attrs.length y := by
  have hs : ∀ {j : Int}, elB A j = true → (nodeA A j).Space = 0 := fun {j} hj => hz _ (by have := hasB_true (elB_has hj); omega)
  have e1 : withinB [x1A] [x1A] = true := by simp [withinB]
  have e2 : withinB [x1A] [] = false := rfl
  rw [kinB, pT, hs he, hs hy, show decide ((nodeA A e.Node).Name = (nodeA A y.Node).Name) = decide ((nodeA A y.Node).Name = (nodeA A e.Node).Name) from decide_eq_decide.2 eq_comm]
  rcases h1 with h1 | h1 <;> rcases h2 with h2 | h2 <;> rw [h1, h2]
  · simp [withinB]
  · rw [e2]; simp
  · rw [e2]; simp
  · rw [e1]; simp
structure ArkI (A : List Node_one) (L : List Api_entry) (F : Pl) (i : Nat) : Prop where
  ent : ∀ e ∈ L, e.Node = -1 ∨ (elB A e.Node = true ∧ e.Node < i)
  xs : ∀ e ∈ L, Xs e.Token.Attrs
  att : ∀ e ∈ L, Sli (PH F) (.slice e.Token.AttrsP e.Token.Attrs.length e.Token.AttrsC) (e.Token.Attrs.map Api_attr.cells)
  cnt : ∀ t n, cn (pT A t n) L ≤ 3
theorem ArkI.new {F : Pl} : ArkI A [] F 1 := ⟨(fun e h => absurd h (by simp)), (fun e h => absurd h (by simp)), (fun e h => absurd h (by simp)), fun t n => Nat.zero_le _⟩
theorem ArkI.le {F G : Pl} {i j : Nat} (h : ArkI A L F i) (hl : PLe F G) (hi : i ≤ j) : ArkI A L G j :=
  ⟨fun e he => (h.ent e he).imp id (fun x => ⟨x.1, by omega⟩), h.xs, fun e he => (h.att e he).le hl, h.cnt⟩
theorem ArkI.mark {F : Pl} {i : Nat} (h : ArkI A L F i) : ArkI A (L ++ [markE]) F i := by
  have hm : ∀ {e}, e ∈ L ++ [markE] → e ∈ L ∨ e = markE := fun {e} he => by simpa using he
  refine ⟨fun e he => ?_, fun e he => ?_, fun e he => ?_, fun t n => by rw [cn, rv_mark rfl]; exact Nat.zero_le _⟩
  · rcases hm he with he | rfl
    · exact h.ent e he
    · exact .inl rfl
  · rcases hm he with he | rfl
    · exact h.xs e he
    · exact .inl rfl
  · rcases hm he with he | rfl
    · exact h.att e he
    · exact Sli.nil rfl
theorem mem_cutE {i : Nat} {y : Api_entry} (h : y ∈ cutE L i) : y ∈ L := by
  rcases List.mem_append.1 h with h | h
  · exact List.mem_of_mem_take h
  · exact List.mem_of_mem_drop h
theorem ArkI.fresh {F : Pl} {i : Nat} (h : ArkI A L F i) (he : elB A i = true) : freshF A L i = 0 := by
  rw [freshF, if_neg (by rw [he]; simp), findE_none, if_neg (by decide)]
  intro y hy
  rcases h.ent y hy with h | h
  · rw [h]; omega
  · omega
theorem ArkI.push {F : Pl} {i : Nat} (h : ArkI A L F i) (hz : ZpOk A) (hn : e.Node = (i : Int)) (he : elB A i = true) (hx : Xs e.Token.Attrs) (hs : Sli (PH F) (.slice e.Token.AttrsP e.Token.Attrs.length e.Token.AttrsC) (e.Token.Attrs.map Api_attr.cells)) :
    ArkI A (pushE A L e) F (i + 1) ∧ findE (pushE A L e) i = ((pushE A L e).length : Int) - 1 ∧ lastE A (pushE A L e) (nodeA A e.Node).Name (bk (pushE A L e) (pushE A L e).length) = i ∧ (pushE A L e).length ≤ L.length + 1 := by
  have he2 : elB A e.Node = true := by rw [hn]; exact he
  have hne : e.Node ≠ -1 := by rw [hn]; omega
  have hk : ∀ j ∈ bk L L.length, kinB A e (at_ L j) = pT A (nodeA A e.Node).Name e.Token.Attrs.length (at_ L j) := fun j hj => by
    have hm := at_mem (bk_lt hj)
    refine kin_pT hz he2 ?_ hx (h.xs _ hm)
    rcases h.ent _ hm with h1 | h1
    · exact absurd h1 (bk_ne hj)
    · exact h1.1
  obtain ⟨hc1, hc2⟩ := pk_count (A := A) (L := L) (e := e) (bk L L.length)
  have hc3 : (pk A L e (bk L L.length)).1 = cn (pT A (nodeA A e.Node).Name e.Token.Attrs.length) L := by
    rw [hc1, ← cn_bk]
    exact List.countP_congr fun j hj => by rw [hk j hj]
  obtain ⟨M, hM⟩ : ∃ M, M = if 3 ≤ (pk A L e (bk L L.length)).1 then cutE L (pk A L e (bk L L.length)).2 else L := ⟨_, rfl⟩
  have hP : pushE A L e = M ++ [e] := by rw [pushE, ← hM]
  have hML : ∀ y ∈ M, y ∈ L := fun y hy => by
    rw [hM] at hy; split at hy
    · exact mem_cutE hy
    · exact hy
  have hlen : M.length ≤ L.length := by
    rw [hM]; split
    · simp [cutE]; omega
    · exact Nat.le_refl _
  have hmem : ∀ {y}, y ∈ M ++ [e] → y ∈ L ∨ y = e := fun {y} hy => by
    rcases List.mem_append.1 hy with hy | hy
    · exact .inl (hML y hy)
    · exact .inr (List.mem_singleton.1 hy)
  rw [hP]
  refine ⟨⟨fun y hy => ?_, fun y hy => ?_, fun y hy => ?_, fun t n => ?_⟩, ?_, ?_, by simp; omega⟩
  · rcases hmem hy with hy | rfl
    · exact (h.ent y hy).imp id (fun x => ⟨x.1, by omega⟩)
    · exact .inr ⟨he2, by omega⟩
  · rcases hmem hy with hy | rfl
    · exact h.xs y hy
    · exact hx
  · rcases hmem hy with hy | rfl
    · exact h.att y hy
    · exact hs
  · rw [cn_add hne]
    have h3 := h.cnt t n
    by_cases hp : pT A t n e = true
    · rw [if_pos hp]
      have h4 := hp
      simp only [pT, Bool.and_eq_true, decide_eq_true_eq] at h4
      obtain ⟨rfl, rfl⟩ := h4
      by_cases h5 : 3 ≤ (pk A L e (bk L L.length)).1
      · rw [if_pos h5] at hM
        have hin := pk_mem (show 0 < (pk A L e (bk L L.length)).1 by omega)
        have h6 := cn_cut (p := pT A (nodeA A e.Node).Name e.Token.Attrs.length) hin
        rw [if_pos (by rw [← hk _ hin]; exact hc2 (by omega)), ← hM] at h6
        omega
      · rw [if_neg h5] at hM
        rw [hM]; omega
    · rw [if_neg hp]
      by_cases h5 : 3 ≤ (pk A L e (bk L L.length)).1
      · rw [if_pos h5] at hM
        have hin := pk_mem (show 0 < (pk A L e (bk L L.length)).1 by omega)
        have h6 := cn_cut (p := pT A t n) hin
        rw [← hM] at h6
        omega
      · rw [if_neg h5] at hM
        rw [hM]; omega
  · rw [findE, if_neg (by omega), idx_at (p := fun y : Api_entry => decide (y.Node = (i : Int))) (i := M.length) (by simp) (decide_eq_true (by rw [at_app_new]; exact hn)) (fun j hj => decide_eq_false ?_)]
    · simp
    · rw [at_app_l hj]
      rcases h.ent _ (hML _ (at_mem hj)) with h1 | h1
      · rw [h1]; omega
      · omega
  · rw [show (M ++ [e]).length = M.length + 1 by simp, bk, at_app_new, if_neg hne, lastE, at_app_new, if_pos ⟨hz _ (by have := hasB_true (elB_has he2); omega), rfl⟩, hn]
end
end Go.Proofs.Ytbhicbpfdbnpfaa
