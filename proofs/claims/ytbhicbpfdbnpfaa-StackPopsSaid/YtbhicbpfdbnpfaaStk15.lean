/- The walk of the law StackPops. -/
import Derived.Test.YtbhicbpfdbnpfaaStk14
set_option linter.unusedVariables false
set_option linter.unusedSimpArgs false
set_option maxRecDepth 100000
namespace Go.Proofs.Ytbhicbpfdbnpfaa
open Go Go.Hb Go.RowKit
/-- where the last of a name stands -/
def LastI (p : Int → Bool) (l : List Int) (z : Int) : Prop := (z = -1 ∧ popR p l.reverse = none) ∨ (0 ≤ z ∧ z < l.length ∧ popR p l.reverse = some (l.take z.toNat).reverse)
theorem LastI.nil (p : Int → Bool) : LastI p [] (-1) := .inl ⟨rfl, rfl⟩
theorem LastI.yes {p : Int → Bool} {l : List Int} {z x : Int} (h : LastI p l z) (hx : p x = true) : LastI p (l ++ [x]) (l.length : Int) := .inr ⟨by omega, by simp; omega, by
  rw [popR_snoc, if_pos hx]; simp⟩
theorem LastI.no {p : Int → Bool} {l : List Int} {z x : Int} (h : LastI p l z) (hx : ¬ p x = true) : LastI p (l ++ [x]) z := by
  rcases h with ⟨rfl, h⟩ | ⟨h0, h1, h⟩
  · exact .inl ⟨rfl, by rw [popR_snoc, if_neg hx]; exact h⟩
  · exact .inr ⟨h0, by simp; omega, by rw [popR_snoc, if_neg hx, h, List.take_append_of_le_length (by omega)]⟩
theorem LastI.step {p : Int → Bool} {l : List Int} {z x : Int} (h : LastI p l z) : LastI p (l ++ [x]) (if p x = true then (l.length : Int) else z) := by
  split
  · next h1 => exact h.yes h1
  · next h1 => exact h.no h1
theorem LastI.pop {p : Int → Bool} {l : List Int} {z : Int} (h : LastI p l z) : (popTo p l).1 = decide (0 ≤ z) ∧ (0 ≤ z → ((popTo p l).2.length : Int) = z) ∧ (z < 0 → (popTo p l).2 = l) := by
  rcases h with ⟨rfl, h⟩ | ⟨h0, h1, h⟩
  · rw [popTo_no h]; exact ⟨rfl, fun h => by omega, fun _ => rfl⟩
  · rw [popTo_yes h]; exact ⟨(decide_eq_true h0).symm, fun _ => by simp; omega, fun h => by omega⟩
theorem drop_top {is : Int → Bool} {l : List Int} (h : 0 < (dropL is l).length) : is (topI (dropL is l)) = false := by
  rw [topI_at h]
  have key : ∀ m : List Int, 0 < ((m.dropWhile is).reverse).length → is (at_ (m.dropWhile is).reverse ((m.dropWhile is).reverse.length - 1)) = false := fun m => by
    induction m with
    | nil => intro h; simp at h
    | cons x m ih =>
      intro h
      rw [List.dropWhile_cons] at h ⊢
      split at h
      · next h1 => rw [if_pos h1]; exact ih h
      · next h1 =>
        rw [if_neg h1]
        have : (x :: m).reverse = m.reverse ++ [x] := by simp
        rw [this, show (m.reverse ++ [x]).length - 1 = m.reverse.length by simp, at_app_new]
        simpa using h1
  exact key _ h
section
variable {k : Ctx} {w : World}
theorem popsT {A : List Node_one} {q l : List Int} {name : ByteArray} {n : Api_node} (hI : StkI A l) (hq : q = dropL (implA A name) l) (h0 : 0 < q.length) (hn : NV A (topI q) n) (hs : n.Space = 0) (hp : n.Name = ⟨#[112]⟩ ∨ n.Name = ⟨#[108, 105]⟩) : n.Name = name := by
  have hI2 : StkI A q := hq ▸ hI.drop
  have he : elB A (topI q) = true := hI2.el _ (by rw [topI_at h0]; exact at_mem (by omega))
  have h1 : implA A name (topI q) = false := by
    have := drop_top (is := implA A name) (l := l) (by rw [← hq]; exact h0)
    rwa [← hq] at this
  rw [← hn.imp he, implB, namB, hs] at h1
  by_cases h2 : n.Name = name
  · exact h2
  · have h3 : inB n.Name implL = true := by rcases hp with hp | hp <;> rw [hp] <;> decide
    rw [h3] at h1; simp at h1; exact absurd h1 h2
theorem popsU {A : List Node_one} {q l : List Int} {n : Api_node} (hI : StkI A l) (hq : q = dropL (thorA A) l) (h0 : 0 < q.length) (hn : NV A (topI q) n) (hs : n.Space = 0) : n.Name ≠ ⟨#[116, 114]⟩ ∧ n.Name ≠ ⟨#[112]⟩ := by
  have hI2 : StkI A q := hq ▸ hI.drop
  have he : elB A (topI q) = true := hI2.el _ (by rw [topI_at h0]; exact at_mem (by omega))
  have h1 : thorA A (topI q) = false := by
    have := drop_top (is := thorA A) (l := l) (by rw [← hq]; exact h0)
    rwa [← hq] at this
  rw [← hn.thor he, thorB, namB, namB, hs] at h1
  constructor
  · intro e
    have h3 : inB n.Name thorL = true := by rw [e]; decide
    rw [h3] at h1; simp at h1
  · intro e
    have h3 : inB n.Name implL = true := by rw [e]; decide
    rw [h3] at h1; simp at h1
set_option maxHeartbeats 4000000 in
theorem StackPops_spec {lp : Option Addr} {lc : Nat} {L : List Law12_elem} {name : ByteArray} (hs : Sli (Ro k) (.slice lp L.length lc) (L.map Law12_elem.cells)) (hO : Own k w []) :
    Tri Try.prog 4 #[.slice lp L.length lc, .string name] k w fun v m => v = .bool true := by
  refine enter (args := [.slice lp L.length lc, .string name]) Try.func4 rfl rfl ?_
  refine K0 (K1 ?_)
  refine l_y rfl rfl (y_assign rfl) ?_
  refine K2 (K3 (K0 (K1 ?_)))
  refine l_y rfl rfl (y_move rfl) ?_
  refine CK [] hO rfl (fun k' hx hr hO' => arenas_spec (hs.ext hO hx) (hO := hO')) ?_
  rintro _ _ w ⟨a, r, A, K, R, rfl, rfl, t, hsp⟩ hO
  simp only [List.cons_append, List.nil_append] at hO
  have hpos := t.pos
  have ha := t.tree.attrs
  have hlA : A.length ≤ 1000000 := Nat.le_trans t.max (by decide)
  refine l_y rfl rfl (y_move rfl) ?_
  refine l_y rfl rfl (y_extract rfl rfl) ?_
  refine l_y rfl rfl (y_extract rfl rfl) ?_
  refine l_y rfl rfl (y_assign rfl) ?_
  refine l_y rfl rfl (y_assign rfl) ?_
  refine K2 (K3 (K0 (K0 (K1 ?_))))
  refine l_y rfl rfl (y_move rfl) ?_
  refine l_y rfl rfl (y_eqPnil rfl rfl rfl) ?_
  refine K2 (K3 (L9 (K5 (K3 (K0 (K1 ?_))))))
  refine l_y rfl rfl (y_move rfl) ?_
  refine CK [.o a] hO rfl (fun k' hx hr hO' => sNew_spec hpos (hO := hO')) ?_
  rintro _ _ w ⟨s28, rfl, rfl⟩ hO
  simp only [List.cons_append, List.nil_append] at hO
  refine l_y rfl rfl (y_move rfl) ?_
  refine l_y rfl rfl (y_extract rfl rfl) ?_
  refine l_y rfl rfl (y_extract rfl rfl) ?_
  refine l_y rfl rfl (y_assign rfl) ?_
  refine l_y rfl rfl (y_assign rfl) ?_
  refine K2 (K3 (K0 (K1 ?_)))
  refine l_y rfl rfl (y_move rfl) ?_
  refine CK [.o a] hO rfl (fun k' hx hr hO' => sNew_spec hpos (hO := hO')) ?_
  rintro _ _ w ⟨s33, rfl, rfl⟩ hO
  simp only [List.cons_append, List.nil_append] at hO
  refine l_y rfl rfl (y_move rfl) ?_
  refine l_y rfl rfl (y_extract rfl rfl) ?_
  refine l_y rfl rfl (y_extract rfl rfl) ?_
  refine l_y rfl rfl (y_assign rfl) ?_
  refine l_y rfl rfl (y_assign rfl) ?_
  refine K2 (K3 (K0 (K0 (K1 ?_))))
  refine l_y rfl rfl (y_move rfl) ?_
  refine l_y rfl rfl (y_eqPnil rfl rfl rfl) ?_
  refine l_y rfl rfl (y_move rfl) ?_
  refine l_y rfl rfl (y_move rfl) ?_
  refine l_y rfl rfl (y_eqPnil rfl rfl rfl) ?_
  refine l_y rfl rfl (y_pick_f rfl rfl) ?_
  refine K2 (K3 (L9 (K5 (K3 (K0 (K1 ?_))))))
  refine l_y rfl rfl (y_assign rfl) ?_
  refine K2 (K3 (K0 (K1 ?_)))
  refine l_y rfl rfl (y_assign rfl) ?_
  refine K2 (K3 (K0 (K0 (K1 ?_))))
  refine l_y rfl rfl (y_assign rfl) ?_
  refine K2 (K3 (K4 ?_))
  refine c_rounds (X := Nat × List Int × Int) (fun x => [(1, .string name), (4, .bool false), (5, .pointer (some ⟨a, 0, none⟩)), (7, .pointer (some ⟨s28, 0, none⟩)), (9, .pointer (some ⟨s33, 0, none⟩)), (11, .int .i64 x.2.2), (12, .int .i64 (x.2.1.length : Int)), (13, .int .i64 (x.1 : Int))]) (fun x w => Own k w [arenaL a A, stkL s28 a x.2.1, stkL s33 a x.2.1] ∧ (Els A x.2.1 x.1) ∧ (LastI (namA A [name]) x.2.1 x.2.2)) (fun x => A.length - x.1) ((1, [], -1)) ⟨rfl, rfl, rfl, rfl, rfl, rfl, rfl, rfl, trivial⟩ ⟨hO.only [.o a, .o s28, .o s33], Els.nil, LastI.nil _⟩ ?_
  rintro x w m hm ⟨hO, hE, hz⟩
  refine K0 (K0 (K1 ?_))
  refine l_y rfl rfl (y_move rfl) ?_
  refine l_y rfl rfl (y_move rfl) ?_
  refine CK [.o a] hO rfl (fun k' hx hr hO' => LenC_spec hpos (hO := hO')) ?_
  rintro _ _ w ⟨rfl, rfl⟩ hO
  simp only [List.cons_append, List.nil_append] at hO
  refine l_y rfl rfl (D4) ?_
  refine Z0 (fun h11_4 => ?_) (fun h11_4 => ?_)
  · refine K2 (K3 (L8 (K5 (K3 (K0 (K4 (K0 ?_)))))))
    have hb : hasB A (x.1 : Int) = true := by rw [hasB]; exact decide_eq_true (by omega)
    obtain ⟨l2, hl2⟩ : ∃ l2, l2 = if elB A (x.1 : Int) = true then x.2.1 ++ [(x.1 : Int)] else x.2.1 := ⟨_, rfl⟩
    refine K1 ?_
    refine l_y rfl rfl (y_move rfl) ?_
    refine l_y rfl rfl (y_move rfl) ?_
    refine CK [.o a] hO rfl (fun k' hx hr hO' => NodeD_spec hpos ha (hO := hO')) ?_
    rintro _ _ w ⟨x13_2, hx13_2, rfl, rfl⟩ hO
    simp only [List.cons_append, List.nil_append] at hO
    refine l_y rfl rfl (y_move rfl) ?_
    refine l_y rfl rfl (y_extract rfl rfl) ?_
    refine l_y rfl rfl (y_extract rfl rfl) ?_
    refine s_alloc (vs := [.int .i64 0, .int .i64 0, .string ⟨#[]⟩, .slice none 0 0, .string ⟨#[]⟩, .string ⟨#[]⟩, .int .i64 0, .int .i64 0, .int .i64 0, .int .i64 0, .int .i64 0, .int .i64 0]) hO rfl rfl rfl fun b14 w hO => ?_
    refine Y3 hO rfl rfl (fun w hO => ?_)
    refine l_y rfl rfl (y_assign rfl) ?_
    refine K2 (K3 (K0 (K1 ?_)))
    refine l_y rfl rfl (y_fldb (o' := 0) rfl) ?_
    refine l_y rfl rfl (D5 hO rfl) ?_
    refine Z0 (fun h14_2 => ?_) (fun h14_2 => ?_)
    · refine K2 (K3 (L8 (K0 ?_)))
      have he : elB A (x.1 : Int) = true := hx13_2.elK hb h14_2
      have hna : namA A [name] (x.1 : Int) = (decide (x13_2.Space = 0) && decide (x13_2.Name = name)) := by rw [namA, namB, inB, ← hx13_2.space hb, ← hx13_2.name hb]; simp
      have hl0 : x.2.1.length ≤ 1000000 := Nat.le_trans hE.toStkI.len hlA
      rw [if_pos he] at hl2
      have hl2l : l2.length = x.2.1.length + 1 := by rw [hl2]; simp
      refine K1 ?_
      refine l_y rfl rfl (y_move rfl) ?_
      refine l_y rfl rfl (y_move rfl) ?_
      refine CK [.o a, .o s28] hO rfl (fun k' hx hr hO' => sPush_spec hpos ha hl0 (hO := hO')) ?_
      rintro _ _ w ⟨rfl, rfl⟩ hO
      simp only [List.cons_append, List.nil_append] at hO
      rw [hE.fresh he, if_pos rfl, ← hl2] at hO
      rw [hE.fresh he]
      refine K2 (K3 (K0 (K1 ?_)))
      refine l_y rfl rfl (y_move rfl) ?_
      refine l_y rfl rfl (y_move rfl) ?_
      refine CK [.o a, .o s33] hO rfl (fun k' hx hr hO' => sPush_spec hpos ha hl0 (hO := hO')) ?_
      rintro _ _ w ⟨rfl, rfl⟩ hO
      simp only [List.cons_append, List.nil_append] at hO
      rw [hE.fresh he, if_pos rfl, ← hl2] at hO
      rw [hE.fresh he]
      refine K2 (K3 (K0 (K0 (K1 ?_))))
      refine l_y rfl rfl (y_fldb (o' := 1) rfl) ?_
      refine l_y rfl rfl (D5 hO rfl) ?_
      refine Z0 (fun h17_2 => ?_) (fun h17_2 => ?_)
      · refine l_y rfl rfl (y_move rfl) ?_
        refine l_y rfl rfl (y_fldb (o' := 2) rfl) ?_
        refine l_y rfl rfl (D5 hO rfl) ?_
        refine l_y rfl rfl (y_move rfl) ?_
        refine Z2 (fun h17_7 => ?_) (fun h17_7 => ?_)
        · refine l_y rfl rfl (y_pick_t rfl rfl) ?_
          refine K2 (K3 (L8 (K1 ?_)))
          refine l_y rfl rfl (y_move rfl) ?_
          refine l_y rfl rfl (y_assign rfl) ?_
          refine K2 (K3 (K1 ?_))
          refine l_y rfl rfl (y_move rfl) ?_
          refine l_y rfl rfl (D4 (h1 := by omega) (h2 := by omega) (r := (l2.length : Int)) (hr := by simp [arith, hl2l])) ?_
          refine l_y rfl rfl (y_assign rfl) ?_
          refine K2 (K8 (K3 (K1 ?_)))
          refine l_y rfl rfl (y_move rfl) ?_
          refine l_y rfl rfl (D4) ?_
          refine l_y rfl rfl (y_assign rfl) ?_
          refine K2 ?_
          first
          | (have h5 : ¬ x13_2.Kind = 1 := h14_2
             have hl3 : l2 = x.2.1 := by rw [hl2, if_neg (fun h => h5 (by rw [elB, Bool.and_eq_true] at h; rw [hx13_2.kind hb]; exact of_decide_eq_true h.2))]
             rw [← hl3] at hO hz hE ⊢)
          | (have e11 : (if namA A [name] (x.1 : Int) = true then (x.2.1.length : Int) else x.2.2) = (x.2.1.length : Int) := by
               rw [hna]; first | (simp [h17_2, h17_7]; done) | (simp [h17_2]; done))
          exact q_next ((x.1 + 1, l2, (x.2.1.length : Int))) ⟨rfl, rfl, rfl, rfl, rfl, rfl, rfl, rfl, trivial⟩ ⟨hO.only [.o a, .o s28, .o s33], (by first | exact hE.skip | (rw [hl2]; exact hE.push he)), (by dsimp only; first | exact hz | (rw [hl2, ← e11]; exact hz.step))⟩ (by dsimp only; omega)
        · refine l_y rfl rfl (y_pick_t rfl rfl) ?_
          refine K2 (K3 (L9 (K5 (K3 (K1 ?_)))))
          refine l_y rfl rfl (y_move rfl) ?_
          refine l_y rfl rfl (D4 (h1 := by omega) (h2 := by omega) (r := (l2.length : Int)) (hr := by simp [arith, hl2l])) ?_
          refine l_y rfl rfl (y_assign rfl) ?_
          refine K2 (K8 (K3 (K1 ?_)))
          refine l_y rfl rfl (y_move rfl) ?_
          refine l_y rfl rfl (D4) ?_
          refine l_y rfl rfl (y_assign rfl) ?_
          refine K2 ?_
          first
          | (have h5 : ¬ x13_2.Kind = 1 := h14_2
             have hl3 : l2 = x.2.1 := by rw [hl2, if_neg (fun h => h5 (by rw [elB, Bool.and_eq_true] at h; rw [hx13_2.kind hb]; exact of_decide_eq_true h.2))]
             rw [← hl3] at hO hz hE ⊢)
          | (have e11 : (if namA A [name] (x.1 : Int) = true then (x.2.1.length : Int) else x.2.2) = x.2.2 := by
               rw [hna]; first | (simp [h17_2, h17_7]; done) | (simp [h17_2]; done))
          exact q_next ((x.1 + 1, l2, x.2.2)) ⟨rfl, rfl, rfl, rfl, rfl, rfl, rfl, rfl, trivial⟩ ⟨hO.only [.o a, .o s28, .o s33], (by first | exact hE.skip | (rw [hl2]; exact hE.push he)), (by dsimp only; first | exact hz | (rw [hl2, ← e11]; exact hz.step))⟩ (by dsimp only; omega)
      · refine l_y rfl rfl (y_move rfl) ?_
        repeat refine M2 ?_
        refine l_y rfl rfl (y_pick_f rfl rfl) ?_
        refine K2 (K3 (L9 (K5 (K3 (K1 ?_)))))
        refine l_y rfl rfl (y_move rfl) ?_
        refine l_y rfl rfl (D4 (h1 := by omega) (h2 := by omega) (r := (l2.length : Int)) (hr := by simp [arith, hl2l])) ?_
        refine l_y rfl rfl (y_assign rfl) ?_
        refine K2 (K8 (K3 (K1 ?_)))
        refine l_y rfl rfl (y_move rfl) ?_
        refine l_y rfl rfl (D4) ?_
        refine l_y rfl rfl (y_assign rfl) ?_
        refine K2 ?_
        first
        | (have h5 : ¬ x13_2.Kind = 1 := h14_2
           have hl3 : l2 = x.2.1 := by rw [hl2, if_neg (fun h => h5 (by rw [elB, Bool.and_eq_true] at h; rw [hx13_2.kind hb]; exact of_decide_eq_true h.2))]
           rw [← hl3] at hO hz hE ⊢)
        | (have e11 : (if namA A [name] (x.1 : Int) = true then (x.2.1.length : Int) else x.2.2) = x.2.2 := by
             rw [hna]; first | (simp [h17_2, h17_7]; done) | (simp [h17_2]; done))
        exact q_next ((x.1 + 1, l2, x.2.2)) ⟨rfl, rfl, rfl, rfl, rfl, rfl, rfl, rfl, trivial⟩ ⟨hO.only [.o a, .o s28, .o s33], (by first | exact hE.skip | (rw [hl2]; exact hE.push he)), (by dsimp only; first | exact hz | (rw [hl2, ← e11]; exact hz.step))⟩ (by dsimp only; omega)
    · refine K2 (K3 (L9 (K5 (K8 (K3 (K1 ?_))))))
      refine l_y rfl rfl (y_move rfl) ?_
      refine l_y rfl rfl (D4) ?_
      refine l_y rfl rfl (y_assign rfl) ?_
      refine K2 ?_
      first
      | (have h5 : ¬ x13_2.Kind = 1 := h14_2
         have hl3 : l2 = x.2.1 := by rw [hl2, if_neg (fun h => h5 (by rw [elB, Bool.and_eq_true] at h; rw [hx13_2.kind hb]; exact of_decide_eq_true h.2))]
         rw [← hl3] at hO hz hE ⊢)
      | (have e11 : (if namA A [name] (x.1 : Int) = true then (x.2.1.length : Int) else x.2.2) = x.2.2 := by
           rw [hna]; first | (simp [h17_2, h17_7]; done) | (simp [h17_2]; done))
      exact q_next ((x.1 + 1, l2, x.2.2)) ⟨rfl, rfl, rfl, rfl, rfl, rfl, rfl, rfl, trivial⟩ ⟨hO.only [.o a, .o s28, .o s33], (by first | exact hE.skip | (rw [hl2]; exact hE.push he)), (by dsimp only; first | exact hz | (rw [hl2, ← e11]; exact hz.step))⟩ (by dsimp only; omega)
  · refine K2 (K3 (L9 (K7 (L1 (L1 (L2 (K3 ?_)))))))
    refine c_cut (X := Unit) (fun x0 => [(1, .string name), (5, .pointer (some ⟨a, 0, none⟩)), (9, .pointer (some ⟨s33, 0, none⟩)), (12, .int .i64 (x.2.1.length : Int))]) (fun x0 w => Own k w [arenaL a A, stkL s33 a x.2.1] ∧ True) ?_ ?_
    · refine K0 ?_
      have hl1 : x.2.1.length ≤ 1000000 := Nat.le_trans hE.toStkI.len hlA
      obtain ⟨hp1, hp2, hp3⟩ := hz.pop
      refine K1 ?_
      refine l_y rfl rfl (y_move rfl) ?_
      refine l_y rfl rfl (y_move rfl) ?_
      refine CK [.o a, .o s28] hO rfl (fun k' hx hr hO' => sPopTo_spec hpos ha hE.el hl1 (hO := hO')) ?_
      rintro _ _ w ⟨rfl, rfl⟩ hO
      simp only [List.cons_append, List.nil_append] at hO
      rw [hp1]
      refine l_y rfl rfl (y_move rfl) ?_
      refine l_y rfl rfl (y_cmpI rfl rfl rfl) ?_
      refine l_y rfl rfl (y_neB (c := false) rfl rfl (by simp)) ?_
      refine l_y rfl rfl (y_move rfl) ?_
      refine l_y rfl rfl (y_move rfl) ?_
      refine Z0 (fun h20_8 => ?_) (fun h20_8 => ?_)
      · refine l_y rfl rfl (y_move rfl) ?_
        refine l_y rfl rfl (y_move rfl) ?_
        refine CK [.o s28] hO rfl (fun k' hx hr hO' => sLenC_spec (hO := hO')) ?_
        rintro _ _ w ⟨rfl, rfl⟩ hO
        simp only [List.cons_append, List.nil_append] at hO
        rw [hp2 (by omega)]
        refine l_y rfl rfl (y_move rfl) ?_
        refine N4 (hp := rfl) ?_
        refine l_y rfl rfl (y_pick_t rfl rfl) ?_
        refine l_y rfl rfl (y_pick_f rfl rfl) ?_
        refine l_y rfl rfl (y_move rfl) ?_
        refine l_y rfl rfl (y_move rfl) ?_
        refine Z0 (fun h20_18 => ?_) (fun h20_18 => ?_)
        · refine l_y rfl rfl (y_move rfl) ?_
          refine l_y rfl rfl (y_move rfl) ?_
          refine CK [.o s28] hO rfl (fun k' hx hr hO' => sLenC_spec (hO := hO')) ?_
          rintro _ _ w ⟨rfl, rfl⟩ hO
          simp only [List.cons_append, List.nil_append] at hO
          rw [hp3 (by omega)]
          refine l_y rfl rfl (y_move rfl) ?_
          refine N4 (hp := rfl) ?_
          refine l_y rfl rfl (y_pick_t rfl rfl) ?_
          refine l_y rfl rfl (y_pick_f rfl rfl) ?_
          refine K2 (K3 (L9 (K5 ?_)))
          exact q_cut (()) ⟨rfl, rfl, rfl, rfl, trivial⟩ ⟨hO.only [.o a, .o s33], trivial⟩
        · refine l_y rfl rfl (y_move rfl) ?_
          repeat refine M2 ?_
          refine l_y rfl rfl (y_pick_f rfl rfl) ?_
          refine l_y rfl rfl (y_pick_f rfl rfl) ?_
          refine K2 (K3 (L9 (K5 ?_)))
          exact q_cut (()) ⟨rfl, rfl, rfl, rfl, trivial⟩ ⟨hO.only [.o a, .o s33], trivial⟩
      · refine l_y rfl rfl (y_move rfl) ?_
        repeat refine M2 ?_
        refine l_y rfl rfl (y_pick_f rfl rfl) ?_
        refine l_y rfl rfl (y_pick_f rfl rfl) ?_
        refine l_y rfl rfl (y_move rfl) ?_
        refine l_y rfl rfl (y_move rfl) ?_
        refine Z0 (fun h20_18 => ?_) (fun h20_18 => ?_)
        · refine l_y rfl rfl (y_move rfl) ?_
          refine l_y rfl rfl (y_move rfl) ?_
          refine CK [.o s28] hO rfl (fun k' hx hr hO' => sLenC_spec (hO := hO')) ?_
          rintro _ _ w ⟨rfl, rfl⟩ hO
          simp only [List.cons_append, List.nil_append] at hO
          rw [hp3 (by omega)]
          refine l_y rfl rfl (y_move rfl) ?_
          refine N4 (hp := rfl) ?_
          refine l_y rfl rfl (y_pick_t rfl rfl) ?_
          refine l_y rfl rfl (y_pick_f rfl rfl) ?_
          refine K2 (K3 (L9 (K5 ?_)))
          exact q_cut (()) ⟨rfl, rfl, rfl, rfl, trivial⟩ ⟨hO.only [.o a, .o s33], trivial⟩
        · refine l_y rfl rfl (y_move rfl) ?_
          repeat refine M2 ?_
          refine l_y rfl rfl (y_pick_f rfl rfl) ?_
          refine l_y rfl rfl (y_pick_f rfl rfl) ?_
          refine K2 (K3 (L9 (K5 ?_)))
          exact q_cut (()) ⟨rfl, rfl, rfl, rfl, trivial⟩ ⟨hO.only [.o a, .o s33], trivial⟩
    · rintro x0 w ⟨hO, _⟩
      have hl1 : x.2.1.length ≤ 1000000 := Nat.le_trans hE.toStkI.len hlA
      refine K0 (K1 ?_)
      refine l_y rfl rfl (y_move rfl) ?_
      refine l_y rfl rfl (y_move rfl) ?_
      refine CK [.o a, .o s33] hO rfl (fun k' hx hr hO' => sImplied_spec hpos ha hE.el hl1 (hO := hO')) ?_
      rintro _ _ w ⟨rfl, rfl⟩ hO
      simp only [List.cons_append, List.nil_append] at hO
      obtain ⟨q, hq⟩ : ∃ q, q = dropL (implA A name) x.2.1 := ⟨_, rfl⟩
      rw [← hq] at hO ⊢
      have hIq : StkI A q := hq ▸ hE.toStkI.drop
      have hlq : q.length ≤ 1000000 := Nat.le_trans hIq.len hlA
      refine l_y rfl rfl (y_assign rfl) ?_
      refine K2 (K3 (K0 (K1 ?_)))
      refine l_y rfl rfl (y_move rfl) ?_
      refine l_y rfl rfl (y_move rfl) ?_
      refine CK [.o s33] hO rfl (fun k' hx hr hO' => sTopC_spec (x := 0) hlq (hO := hO')) ?_
      rintro _ _ w ⟨rfl, rfl⟩ hO
      simp only [List.cons_append, List.nil_append] at hO
      refine CK [.o a] hO rfl (fun k' hx hr hO' => NodeD_spec hpos ha (hO := hO')) ?_
      rintro _ _ w ⟨x23_3, hx23_3, rfl, rfl⟩ hO
      simp only [List.cons_append, List.nil_append] at hO
      refine l_y rfl rfl (y_move rfl) ?_
      refine l_y rfl rfl (y_extract rfl rfl) ?_
      refine l_y rfl rfl (y_extract rfl rfl) ?_
      refine s_alloc (vs := [.int .i64 0, .int .i64 0, .string ⟨#[]⟩, .slice none 0 0, .string ⟨#[]⟩, .string ⟨#[]⟩, .int .i64 0, .int .i64 0, .int .i64 0, .int .i64 0, .int .i64 0, .int .i64 0]) hO rfl rfl rfl fun b17 w hO => ?_
      refine Y3 hO rfl rfl (fun w hO => ?_)
      refine l_y rfl rfl (y_assign rfl) ?_
      refine K2 (K3 ?_)
      refine c_cut (X := Unit) (fun x0 => [(5, .pointer (some ⟨a, 0, none⟩)), (9, .pointer (some ⟨s33, 0, none⟩)), (12, .int .i64 (x.2.1.length : Int)), (16, .int .i64 ((x.2.1.length : Int) - (q.length : Int))), (17, .pointer (some ⟨b17, 0, none⟩))]) (fun x0 w => Own k w [arenaL a A, stkL s33 a q, blk b17 41 (Api_node.cells x23_3)] ∧ True) ?_ ?_
      · refine K0 (K1 ?_)
        refine l_y rfl rfl (y_move rfl) ?_
        refine l_y rfl rfl (y_move rfl) ?_
        refine CK [.o s33] hO rfl (fun k' hx hr hO' => sLenC_spec (hO := hO')) ?_
        rintro _ _ w ⟨rfl, rfl⟩ hO
        simp only [List.cons_append, List.nil_append] at hO
        refine l_y rfl rfl (D4) ?_
        refine l_y rfl rfl (y_move rfl) ?_
        refine N4 ?_
        refine l_y rfl rfl (y_move rfl) ?_
        refine l_y rfl rfl (y_move rfl) ?_
        refine CK [.o s33] hO rfl (fun k' hx hr hO' => sLenC_spec (hO := hO')) ?_
        rintro _ _ w ⟨rfl, rfl⟩ hO
        simp only [List.cons_append, List.nil_append] at hO
        refine Z0 (fun h24_9 => ?_) (fun h24_9 => ?_)
        · refine l_y rfl rfl (y_move rfl) ?_
          refine l_y rfl rfl (y_fldb (o' := 1) rfl) ?_
          refine l_y rfl rfl (D5 hO rfl) ?_
          refine Z0 (fun h24_13 => ?_) (fun h24_13 => ?_)
          · refine l_y rfl rfl (y_pick_t rfl rfl) ?_
            refine l_y rfl rfl (y_move rfl) ?_
            refine l_y rfl rfl (y_fldb (o' := 2) rfl) ?_
            refine l_y rfl rfl (D5 hO rfl) ?_
            refine Z2 (fun h24_18 => ?_) (fun h24_18 => ?_)
            · refine l_y rfl rfl (y_move rfl) ?_
              repeat refine M2 ?_
              refine l_y rfl rfl (y_pick_t rfl rfl) ?_
              refine l_y rfl rfl (y_pick_t rfl rfl) ?_
              refine l_y rfl rfl (y_move rfl) ?_
              refine l_y rfl rfl (y_fldb (o' := 2) rfl) ?_
              refine l_y rfl rfl (D5 hO rfl) ?_
              refine l_y rfl rfl (y_move rfl) ?_
              refine Z3 (fun h24_29 => ?_) (fun h24_29 => ?_)
              · refine l_y rfl rfl (y_pick_t rfl rfl) ?_
                refine l_y rfl rfl (y_pick_f rfl rfl) ?_
                refine K2 (K3 (L8 (K0 (K1 ?_))))
                refine l_y rfl rfl (y_assign rfl) ?_
                refine K2 (K3 (K6 (K9 ?_)))
                exfalso
                have := popsT hE.toStkI hq (by omega) hx23_3 h24_13 (by first | exact .inl h24_18 | exact .inr h24_22)
                exact h24_29 this
              · refine l_y rfl rfl (y_pick_t rfl rfl) ?_
                refine l_y rfl rfl (y_pick_f rfl rfl) ?_
                refine K2 (K3 (L9 (K5 ?_)))
                exact q_cut (()) ⟨rfl, rfl, rfl, rfl, rfl, trivial⟩ ⟨hO.only [.o a, .o s33, .b b17], trivial⟩
            · refine l_y rfl rfl (y_move rfl) ?_
              refine l_y rfl rfl (y_fldb (o' := 2) rfl) ?_
              refine l_y rfl rfl (D5 hO rfl) ?_
              refine Z2 (fun h24_22 => ?_) (fun h24_22 => ?_)
              · refine l_y rfl rfl (y_pick_f rfl rfl) ?_
                refine l_y rfl rfl (y_pick_t rfl rfl) ?_
                refine l_y rfl rfl (y_move rfl) ?_
                refine l_y rfl rfl (y_fldb (o' := 2) rfl) ?_
                refine l_y rfl rfl (D5 hO rfl) ?_
                refine l_y rfl rfl (y_move rfl) ?_
                refine Z3 (fun h24_29 => ?_) (fun h24_29 => ?_)
                · refine l_y rfl rfl (y_pick_t rfl rfl) ?_
                  refine l_y rfl rfl (y_pick_f rfl rfl) ?_
                  refine K2 (K3 (L8 (K0 (K1 ?_))))
                  refine l_y rfl rfl (y_assign rfl) ?_
                  refine K2 (K3 (K6 (K9 ?_)))
                  exfalso
                  have := popsT hE.toStkI hq (by omega) hx23_3 h24_13 (by first | exact .inl h24_18 | exact .inr h24_22)
                  exact h24_29 this
                · refine l_y rfl rfl (y_pick_t rfl rfl) ?_
                  refine l_y rfl rfl (y_pick_f rfl rfl) ?_
                  refine K2 (K3 (L9 (K5 ?_)))
                  exact q_cut (()) ⟨rfl, rfl, rfl, rfl, rfl, trivial⟩ ⟨hO.only [.o a, .o s33, .b b17], trivial⟩
              · refine l_y rfl rfl (y_pick_f rfl rfl) ?_
                refine l_y rfl rfl (y_pick_t rfl rfl) ?_
                refine l_y rfl rfl (y_move rfl) ?_
                repeat refine M2 ?_
                refine l_y rfl rfl (y_pick_f rfl rfl) ?_
                refine l_y rfl rfl (y_pick_f rfl rfl) ?_
                refine K2 (K3 (L9 (K5 ?_)))
                exact q_cut (()) ⟨rfl, rfl, rfl, rfl, rfl, trivial⟩ ⟨hO.only [.o a, .o s33, .b b17], trivial⟩
          · refine l_y rfl rfl (y_pick_t rfl rfl) ?_
            refine l_y rfl rfl (y_move rfl) ?_
            repeat refine M2 ?_
            refine l_y rfl rfl (y_pick_f rfl rfl) ?_
            refine l_y rfl rfl (y_move rfl) ?_
            repeat refine M2 ?_
            refine l_y rfl rfl (y_pick_f rfl rfl) ?_
            refine l_y rfl rfl (y_pick_f rfl rfl) ?_
            refine K2 (K3 (L9 (K5 ?_)))
            exact q_cut (()) ⟨rfl, rfl, rfl, rfl, rfl, trivial⟩ ⟨hO.only [.o a, .o s33, .b b17], trivial⟩
        · refine l_y rfl rfl (y_move rfl) ?_
          repeat refine M2 ?_
          refine l_y rfl rfl (y_pick_f rfl rfl) ?_
          refine l_y rfl rfl (y_move rfl) ?_
          repeat refine M2 ?_
          refine l_y rfl rfl (y_pick_f rfl rfl) ?_
          refine l_y rfl rfl (y_move rfl) ?_
          repeat refine M2 ?_
          refine l_y rfl rfl (y_pick_f rfl rfl) ?_
          refine l_y rfl rfl (y_pick_f rfl rfl) ?_
          refine K2 (K3 (L9 (K5 ?_)))
          exact q_cut (()) ⟨rfl, rfl, rfl, rfl, rfl, trivial⟩ ⟨hO.only [.o a, .o s33, .b b17], trivial⟩
      · rintro x0 w ⟨hO, _⟩
        refine K0 (K1 ?_)
        refine l_y rfl rfl (y_move rfl) ?_
        refine l_y rfl rfl (y_move rfl) ?_
        refine CK [.o a, .o s33] hO rfl (fun k' hx hr hO' => sThorough_spec hpos ha hIq.el hlq (hO := hO')) ?_
        rintro _ _ w ⟨rfl, rfl⟩ hO
        simp only [List.cons_append, List.nil_append] at hO
        obtain ⟨q2, hq2⟩ : ∃ q2, q2 = dropL (thorA A) q := ⟨_, rfl⟩
        rw [← hq2] at hO ⊢
        have hIq2 : StkI A q2 := hq2 ▸ hIq.drop
        have hlq2 : q2.length ≤ 1000000 := Nat.le_trans hIq2.len hlA
        refine l_y rfl rfl (D4) ?_
        refine l_y rfl rfl (y_assign rfl) ?_
        refine K2 (K3 (K0 (K1 ?_)))
        refine l_y rfl rfl (y_move rfl) ?_
        refine l_y rfl rfl (y_move rfl) ?_
        refine CK [.o s33] hO rfl (fun k' hx hr hO' => sTopC_spec (x := 0) hlq2 (hO := hO')) ?_
        rintro _ _ w ⟨rfl, rfl⟩ hO
        simp only [List.cons_append, List.nil_append] at hO
        refine CK [.o a] hO rfl (fun k' hx hr hO' => NodeD_spec hpos ha (hO := hO')) ?_
        rintro _ _ w ⟨x27_3, hx27_3, rfl, rfl⟩ hO
        simp only [List.cons_append, List.nil_append] at hO
        refine l_y rfl rfl (y_move rfl) ?_
        refine l_y rfl rfl (y_extract rfl rfl) ?_
        refine l_y rfl rfl (y_extract rfl rfl) ?_
        refine Y3 hO rfl rfl (fun w hO => ?_)
        refine K2 (K3 (K0 (K1 ?_)))
        refine l_y rfl rfl (y_move rfl) ?_
        refine l_y rfl rfl (y_move rfl) ?_
        refine CK [.o s33] hO rfl (fun k' hx hr hO' => sLenC_spec (hO := hO')) ?_
        rintro _ _ w ⟨rfl, rfl⟩ hO
        simp only [List.cons_append, List.nil_append] at hO
        refine l_y rfl rfl (D4) ?_
        refine l_y rfl rfl (y_move rfl) ?_
        refine N2 ?_
        refine l_y rfl rfl (y_move rfl) ?_
        refine l_y rfl rfl (y_move rfl) ?_
        refine CK [.o s33] hO rfl (fun k' hx hr hO' => sLenC_spec (hO := hO')) ?_
        rintro _ _ w ⟨rfl, rfl⟩ hO
        simp only [List.cons_append, List.nil_append] at hO
        refine Z0 (fun h28_9 => ?_) (fun h28_9 => ?_)
        · refine l_y rfl rfl (y_move rfl) ?_
          repeat refine M2 ?_
          refine l_y rfl rfl (y_pick_t rfl rfl) ?_
          refine l_y rfl rfl (y_move rfl) ?_
          repeat refine M2 ?_
          refine l_y rfl rfl (y_pick_t rfl rfl) ?_
          refine l_y rfl rfl (y_pick_t rfl rfl) ?_
          refine l_y rfl rfl (y_move rfl) ?_
          refine CK [] hO rfl (fun k' hx hr hO' => awake12_spec (hO := hO')) ?_
          rintro _ _ w ⟨rfl, rfl⟩ hO
          simp only [List.cons_append, List.nil_append] at hO
          refine l_y rfl rfl (y_pick_t rfl rfl) ?_
          refine l_y rfl rfl (y_assign rfl) ?_
          refine K2 (K3 (K6 ?_))
          first
          | exact fin1 rfl rfl ⟨_, rfl, hO⟩
          | (exfalso; have h9 := popsU hIq hq2 (by omega) hx27_3 (by simpa using h28_13); first | exact h9.1 (by simpa using h28_18) | exact h9.2 (by simpa using h28_22))
        · refine l_y rfl rfl (y_move rfl) ?_
          refine l_y rfl rfl (y_fldb (o' := 1) rfl) ?_
          refine l_y rfl rfl (D5 hO rfl) ?_
          refine Z1 (fun h28_13 => ?_) (fun h28_13 => ?_)
          · refine l_y rfl rfl (y_pick_f rfl rfl) ?_
            refine l_y rfl rfl (y_move rfl) ?_
            repeat refine M2 ?_
            refine l_y rfl rfl (y_pick_t rfl rfl) ?_
            refine l_y rfl rfl (y_pick_t rfl rfl) ?_
            refine l_y rfl rfl (y_move rfl) ?_
            refine CK [] hO rfl (fun k' hx hr hO' => awake12_spec (hO := hO')) ?_
            rintro _ _ w ⟨rfl, rfl⟩ hO
            simp only [List.cons_append, List.nil_append] at hO
            refine l_y rfl rfl (y_pick_t rfl rfl) ?_
            refine l_y rfl rfl (y_assign rfl) ?_
            refine K2 (K3 (K6 ?_))
            first
            | exact fin1 rfl rfl ⟨_, rfl, hO⟩
            | (exfalso; have h9 := popsU hIq hq2 (by omega) hx27_3 (by simpa using h28_13); first | exact h9.1 (by simpa using h28_18) | exact h9.2 (by simpa using h28_22))
          · refine l_y rfl rfl (y_pick_f rfl rfl) ?_
            refine l_y rfl rfl (y_move rfl) ?_
            refine l_y rfl rfl (y_fldb (o' := 2) rfl) ?_
            refine l_y rfl rfl (D5 hO rfl) ?_
            refine Z3 (fun h28_18 => ?_) (fun h28_18 => ?_)
            · refine l_y rfl rfl (y_move rfl) ?_
              refine l_y rfl rfl (y_fldb (o' := 2) rfl) ?_
              refine l_y rfl rfl (D5 hO rfl) ?_
              refine Z3 (fun h28_22 => ?_) (fun h28_22 => ?_)
              · refine l_y rfl rfl (y_pick_t rfl rfl) ?_
                refine l_y rfl rfl (y_pick_f rfl rfl) ?_
                refine l_y rfl rfl (y_pick_t rfl rfl) ?_
                refine l_y rfl rfl (y_move rfl) ?_
                refine CK [] hO rfl (fun k' hx hr hO' => awake12_spec (hO := hO')) ?_
                rintro _ _ w ⟨rfl, rfl⟩ hO
                simp only [List.cons_append, List.nil_append] at hO
                refine l_y rfl rfl (y_pick_t rfl rfl) ?_
                refine l_y rfl rfl (y_assign rfl) ?_
                refine K2 (K3 (K6 ?_))
                first
                | exact fin1 rfl rfl ⟨_, rfl, hO⟩
                | (exfalso; have h9 := popsU hIq hq2 (by omega) hx27_3 (by simpa using h28_13); first | exact h9.1 (by simpa using h28_18) | exact h9.2 (by simpa using h28_22))
              · refine l_y rfl rfl (y_pick_t rfl rfl) ?_
                refine l_y rfl rfl (y_pick_f rfl rfl) ?_
                refine l_y rfl rfl (y_pick_t rfl rfl) ?_
                refine l_y rfl rfl (y_move rfl) ?_
                repeat refine M2 ?_
                refine l_y rfl rfl (y_pick_f rfl rfl) ?_
                refine l_y rfl rfl (y_assign rfl) ?_
                refine K2 (K3 (K6 ?_))
                first
                | exact fin1 rfl rfl ⟨_, rfl, hO⟩
                | (exfalso; have h9 := popsU hIq hq2 (by omega) hx27_3 (by simpa using h28_13); first | exact h9.1 (by simpa using h28_18) | exact h9.2 (by simpa using h28_22))
            · refine l_y rfl rfl (y_move rfl) ?_
              repeat refine M2 ?_
              refine l_y rfl rfl (y_pick_f rfl rfl) ?_
              refine l_y rfl rfl (y_pick_f rfl rfl) ?_
              refine l_y rfl rfl (y_pick_t rfl rfl) ?_
              refine l_y rfl rfl (y_move rfl) ?_
              repeat refine M2 ?_
              refine l_y rfl rfl (y_pick_f rfl rfl) ?_
              refine l_y rfl rfl (y_assign rfl) ?_
              refine K2 (K3 (K6 ?_))
              first
              | exact fin1 rfl rfl ⟨_, rfl, hO⟩
              | (exfalso; have h9 := popsU hIq hq2 (by omega) hx27_3 (by simpa using h28_13); first | exact h9.1 (by simpa using h28_18) | exact h9.2 (by simpa using h28_22))
end
end Go.Proofs.Ytbhicbpfdbnpfaa
