/- The walk of the law StackScopes. -/
import Derived.Test.YtbhicbpfdbnpfaaStk12
set_option linter.unusedVariables false
set_option linter.unusedSimpArgs false
set_option maxRecDepth 100000
namespace Go.Proofs.Ytbhicbpfdbnpfaa
open Go Go.Hb Go.RowKit
theorem scanR_cons (is bd : Int → Bool) (x : Int) (r : List Int) : scanR is bd (x :: r) = if is x = true then true else if bd x = true then false else scanR is bd r := rfl
theorem scope_mono {is bd bd' : Int → Bool} (hb : ∀ x, bd x = true → bd' x = true) {l : List Int} (h : scopeG is bd' l = true) : scopeG is bd l = true := by
  unfold scopeG at *
  generalize l.reverse = m at *
  induction m with
  | nil => exact h
  | cons x m ih =>
    rw [scanR_cons] at h ⊢
    by_cases h1 : is x = true
    · rw [if_pos h1]
    · rw [if_neg h1] at h ⊢
      by_cases h2 : bd' x = true
      · rw [if_pos h2] at h; cases h
      · rw [if_neg h2] at h
        rw [if_neg (fun h3 => h2 (hb x h3))]; exact ih h
theorem scope_ex {is bd : Int → Bool} {l : List Int} (h : scopeG is bd l = true) : l.any is = true := by
  unfold scopeG at h
  rw [← List.any_reverse]
  generalize l.reverse = m at *
  induction m with
  | nil => cases h
  | cons x m ih =>
    rw [scanR_cons] at h
    by_cases h1 : is x = true
    · rw [List.any_cons, h1]; rfl
    · rw [if_neg h1] at h
      by_cases h2 : bd x = true
      · rw [if_pos h2] at h; cases h
      · rw [if_neg h2] at h
        rw [List.any_cons, ih h, Bool.or_true]
theorem scopeL_in {A : List Node_one} {is : Int → Bool} {kind : Int} {l : List Int} (h0 : 0 ≤ kind) (h4 : kind ≤ 4) : scopeL A is kind l = scopeG is (bdA A kind) l := by rw [scopeL, if_neg (by omega)]
theorem scopeL_out {A : List Node_one} {is : Int → Bool} {kind : Int} {l : List Int} (h : kind < 0 ∨ 4 < kind) : scopeL A is kind l = false := by rw [scopeL, if_pos h]
theorem scope12 {A : List Node_one} {is : Int → Bool} {kind : Int} {l : List Int} (hk : kind = 1 ∨ kind = 2) (h : scopeL A is kind l = true) : scopeL A is 0 l = true := by
  rw [scopeL_in (by omega) (by omega)] at h ⊢
  refine scope_mono (fun x hx => ?_) h
  unfold bdA at *
  unfold borderB at *
  rw [if_neg (by omega), if_neg (by omega), if_neg (by omega), if_neg (by omega)] at hx
  rw [if_neg (by omega), if_neg (by omega)]
  repeat' split
  all_goals first | rfl | (simp_all; done)
theorem scope03 {A : List Node_one} {is : Int → Bool} {l : List Int} (h : scopeL A is 0 l = true) : scopeL A is 3 l = true := by
  rw [scopeL_in (by omega) (by omega)] at h ⊢
  refine scope_mono (fun x hx => ?_) h
  unfold bdA at *
  unfold borderB at *
  rw [if_pos rfl, namB, Bool.and_eq_true, decide_eq_true_eq] at hx
  rw [if_neg (by omega), if_neg (by omega), if_neg (by omega), if_neg (by omega), if_neg (by omega), if_neg (by omega)]
  obtain ⟨_, h2⟩ := hx
  obtain ⟨t, ht, e⟩ := List.any_eq_true.1 h2
  refine List.any_eq_true.2 ⟨t, ?_, e⟩
  simp only [tblL, List.mem_cons, List.not_mem_nil, or_false] at ht
  rcases ht with rfl | rfl | rfl <;> simp [bordL]
theorem scope_any {A : List Node_one} {is : Int → Bool} {kind : Int} {l : List Int} (h : scopeL A is kind l = true) : l.any is = true := by
  unfold scopeL at h
  split at h
  · cases h
  · exact scope_ex h
/-- the elements below i, one behind the other -/
structure Els (A : List Node_one) (l : List Int) (i : Nat) : Prop extends StkI A l where
  below : ∀ x ∈ l, x < (i : Int)
theorem Els.fresh {A : List Node_one} {l : List Int} {i : Nat} (h : Els A l i) (he : elB A (i : Int) = true) : freshE A l (i : Int) = 0 := by
  have hn : findI l (i : Int) = -1 := idx_none fun j hj => decide_eq_false fun e => by have := h.below _ (at_mem hj); rw [e] at this; omega
  rw [freshE, he, if_neg (by simp), hn, if_neg (by omega)]
theorem Els.push {A : List Node_one} {l : List Int} {i : Nat} (h : Els A l i) (he : elB A (i : Int) = true) : Els A (l ++ [(i : Int)]) (i + 1) := ⟨by
  have := h.toStkI.push (id := (i : Int))
  rwa [h.fresh he, if_pos rfl] at this, fun x hx => by
  rcases List.mem_append.1 hx with hx | hx
  · have := h.below x hx; omega
  · have := List.mem_singleton.1 hx; omega⟩
theorem Els.skip {A : List Node_one} {l : List Int} {i : Nat} (h : Els A l i) : Els A l (i + 1) := ⟨h.toStkI, fun x hx => by have := h.below x hx; omega⟩
theorem Els.nil {A : List Node_one} {i : Nat} : Els A [] i := ⟨StkI.nil, fun x hx => by simp at hx⟩
theorem NV.elK {A : List Node_one} {id : Int} {n : Api_node} (h : NV A id n) (hb : hasB A id = true) (hk : n.Kind = 1) : elB A id = true := by rw [elB, hb, ← h.kind hb, hk]; rfl
section
variable {k : Ctx} {w : World}
set_option maxHeartbeats 4000000 in
theorem StackScopes_spec {lp : Option Addr} {lc : Nat} {L : List Law12_elem} {name : ByteArray} (hs : Sli (Ro k) (.slice lp L.length lc) (L.map Law12_elem.cells)) (hO : Own k w []) :
    Tri Try.prog 5 #[.slice lp L.length lc, .string name] k w fun v m => v = .bool true := by
  refine enter (args := [.slice lp L.length lc, .string name]) Try.func5 rfl rfl ?_
  refine K0 (K1 ?_)
  refine l_y rfl rfl (y_assign rfl) ?_
  refine K2 (K3 (K0 (K1 ?_)))
  refine l_y rfl rfl (y_move rfl) ?_
  refine CK [] hO rfl (fun k' hx hr hO' => arenas_spec (hs.ext hO hx) (hO := hO')) ?_
  rintro _ _ w ⟨a, r, A, K, R, rfl, rfl, t, hsp⟩ hO
  simp only [List.cons_append, List.nil_append] at hO
  have hpos := t.pos
  have ha := t.tree.attrs
  have hlA : A.length ≤ 1000000 := Nat.le_trans t.max (by decide)
  refine l_y rfl rfl (y_move rfl) ?_
  refine l_y rfl rfl (y_extract rfl rfl) ?_
  refine l_y rfl rfl (y_extract rfl rfl) ?_
  refine l_y rfl rfl (y_assign rfl) ?_
  refine l_y rfl rfl (y_assign rfl) ?_
  refine K2 (K3 (K0 (K0 (K1 ?_))))
  refine l_y rfl rfl (y_move rfl) ?_
  refine l_y rfl rfl (y_eqPnil rfl rfl rfl) ?_
  refine K2 (K3 (L9 (K5 (K3 (K0 (K1 ?_))))))
  refine l_y rfl rfl (y_move rfl) ?_
  refine CK [.o a] hO rfl (fun k' hx hr hO' => sNew_spec hpos (hO := hO')) ?_
  rintro _ _ w ⟨s24, rfl, rfl⟩ hO
  simp only [List.cons_append, List.nil_append] at hO
  refine l_y rfl rfl (y_move rfl) ?_
  refine l_y rfl rfl (y_extract rfl rfl) ?_
  refine l_y rfl rfl (y_extract rfl rfl) ?_
  refine l_y rfl rfl (y_assign rfl) ?_
  refine l_y rfl rfl (y_assign rfl) ?_
  refine K2 (K3 (K0 (K0 (K1 ?_))))
  refine l_y rfl rfl (y_move rfl) ?_
  refine l_y rfl rfl (y_eqPnil rfl rfl rfl) ?_
  refine K2 (K3 (L9 (K5 (K3 (K0 (K1 ?_))))))
  refine l_y rfl rfl (y_assign rfl) ?_
  refine K2 (K3 (K0 (K0 (K1 ?_))))
  refine l_y rfl rfl (y_assign rfl) ?_
  refine K2 (K3 (K4 ?_))
  refine c_rounds (X := Nat × List Int × Bool) (fun x => [(1, .string name), (4, .bool false), (5, .pointer (some ⟨a, 0, none⟩)), (7, .pointer (some ⟨s24, 0, none⟩)), (9, .bool x.2.2), (10, .int .i64 (x.1 : Int))]) (fun x w => Own k w [arenaL a A, stkL s24 a x.2.1] ∧ (Els A x.2.1 x.1) ∧ (x.2.2 = x.2.1.any (namA A [name]))) (fun x => A.length - x.1) ((1, [], false)) ⟨rfl, rfl, rfl, rfl, rfl, rfl, trivial⟩ ⟨hO.only [.o a, .o s24], Els.nil, rfl⟩ ?_
  rintro x w m hm ⟨hO, hE, hth⟩
  refine K0 (K0 (K1 ?_))
  refine l_y rfl rfl (y_move rfl) ?_
  refine l_y rfl rfl (y_move rfl) ?_
  refine CK [.o a] hO rfl (fun k' hx hr hO' => LenC_spec hpos (hO := hO')) ?_
  rintro _ _ w ⟨rfl, rfl⟩ hO
  simp only [List.cons_append, List.nil_append] at hO
  refine l_y rfl rfl (D4) ?_
  refine Z0 (fun h9_4 => ?_) (fun h9_4 => ?_)
  · refine K2 (K3 (L8 (K5 (K3 (K0 (K4 (K0 ?_)))))))
    have hb : hasB A (x.1 : Int) = true := by rw [hasB]; exact decide_eq_true (by omega)
    refine K1 ?_
    refine l_y rfl rfl (y_move rfl) ?_
    refine l_y rfl rfl (y_move rfl) ?_
    refine CK [.o a] hO rfl (fun k' hx hr hO' => NodeD_spec hpos ha (hO := hO')) ?_
    rintro _ _ w ⟨x11_2, hx11_2, rfl, rfl⟩ hO
    simp only [List.cons_append, List.nil_append] at hO
    refine l_y rfl rfl (y_move rfl) ?_
    refine l_y rfl rfl (y_extract rfl rfl) ?_
    refine l_y rfl rfl (y_extract rfl rfl) ?_
    refine s_alloc (vs := [.int .i64 0, .int .i64 0, .string ⟨#[]⟩, .slice none 0 0, .string ⟨#[]⟩, .string ⟨#[]⟩, .int .i64 0, .int .i64 0, .int .i64 0, .int .i64 0, .int .i64 0, .int .i64 0]) hO rfl rfl rfl fun b11 w hO => ?_
    refine Y3 hO rfl rfl (fun w hO => ?_)
    refine l_y rfl rfl (y_assign rfl) ?_
    refine K2 (K3 (K0 (K1 ?_)))
    refine l_y rfl rfl (y_fldb (o' := 0) rfl) ?_
    refine l_y rfl rfl (D5 hO rfl) ?_
    refine Z0 (fun h12_2 => ?_) (fun h12_2 => ?_)
    · refine K2 (K3 (L8 (K0 ?_)))
      have he : elB A (x.1 : Int) = true := hx11_2.elK hb h12_2
      have e1 := hx11_2.space hb
      have e2 := hx11_2.name hb
      have hl0 : x.2.1.length ≤ 1000000 := Nat.le_trans hE.toStkI.len hlA
      have hna : namA A [name] (x.1 : Int) = (decide (x11_2.Space = 0) && decide (x11_2.Name = name)) := by rw [namA, namB, inB, ← e1, ← e2]; simp
      refine K1 ?_
      refine l_y rfl rfl (y_move rfl) ?_
      refine l_y rfl rfl (y_move rfl) ?_
      refine CK [.o a, .o s24] hO rfl (fun k' hx hr hO' => sPush_spec hpos ha hl0 (hO := hO')) ?_
      rintro _ _ w ⟨rfl, rfl⟩ hO
      simp only [List.cons_append, List.nil_append] at hO
      rw [hE.fresh he, if_pos rfl] at hO
      rw [hE.fresh he]
      refine K2 (K3 (K1 ?_))
      refine l_y rfl rfl (y_move rfl) ?_
      refine l_y rfl rfl (y_move rfl) ?_
      refine l_split 49 rfl (fun hg49 => ?_) (fun hg49 => ?_)
      · repeat refine M2 ?_
        refine l_y rfl rfl (y_pick_t rfl rfl) ?_
        refine l_y rfl rfl (y_assign rfl) ?_
        refine K2 (K8 (K3 (K1 ?_)))
        refine l_y rfl rfl (y_move rfl) ?_
        refine l_y rfl rfl (D4) ?_
        refine l_y rfl rfl (y_assign rfl) ?_
        refine K2 ?_
        exact q_next ((x.1 + 1, _, _)) ⟨rfl, rfl, rfl, rfl, rfl, rfl, trivial⟩ ⟨hO.only [.o a, .o s24], (by first | exact hE.push he | exact hE.skip), (by dsimp only; first | rfl | (rw [List.any_append, ← hth, List.any_cons, List.any_nil, hna]; clear hth e1 e2 hna; simp [*]; done) | (exact hth))⟩ (by dsimp only; omega)
      · refine l_y rfl rfl (y_fldb (o' := 1) rfl) ?_
        refine l_y rfl rfl (D5 hO rfl) ?_
        refine Z0 (fun h14_4 => ?_) (fun h14_4 => ?_)
        · refine l_y rfl rfl (y_move rfl) ?_
          refine l_y rfl rfl (y_fldb (o' := 2) rfl) ?_
          refine l_y rfl rfl (D5 hO rfl) ?_
          refine l_y rfl rfl (y_move rfl) ?_
          refine Z2 (fun h14_9 => ?_) (fun h14_9 => ?_)
          · refine l_y rfl rfl (y_pick_t rfl rfl) ?_
            refine l_y rfl rfl (y_pick_f rfl rfl) ?_
            refine l_y rfl rfl (y_assign rfl) ?_
            refine K2 (K8 (K3 (K1 ?_)))
            refine l_y rfl rfl (y_move rfl) ?_
            refine l_y rfl rfl (D4) ?_
            refine l_y rfl rfl (y_assign rfl) ?_
            refine K2 ?_
            exact q_next ((x.1 + 1, _, _)) ⟨rfl, rfl, rfl, rfl, rfl, rfl, trivial⟩ ⟨hO.only [.o a, .o s24], (by first | exact hE.push he | exact hE.skip), (by dsimp only; first | rfl | (rw [List.any_append, ← hth, List.any_cons, List.any_nil, hna]; clear hth e1 e2 hna; simp [*]; done) | (exact hth))⟩ (by dsimp only; omega)
          · refine l_y rfl rfl (y_pick_t rfl rfl) ?_
            refine l_y rfl rfl (y_pick_f rfl rfl) ?_
            refine l_y rfl rfl (y_assign rfl) ?_
            refine K2 (K8 (K3 (K1 ?_)))
            refine l_y rfl rfl (y_move rfl) ?_
            refine l_y rfl rfl (D4) ?_
            refine l_y rfl rfl (y_assign rfl) ?_
            refine K2 ?_
            exact q_next ((x.1 + 1, _, _)) ⟨rfl, rfl, rfl, rfl, rfl, rfl, trivial⟩ ⟨hO.only [.o a, .o s24], (by first | exact hE.push he | exact hE.skip), (by dsimp only; first | rfl | (rw [List.any_append, ← hth, List.any_cons, List.any_nil, hna]; clear hth e1 e2 hna; simp [*]; done) | (exact hth))⟩ (by dsimp only; omega)
        · refine l_y rfl rfl (y_move rfl) ?_
          repeat refine M2 ?_
          refine l_y rfl rfl (y_pick_f rfl rfl) ?_
          refine l_y rfl rfl (y_pick_f rfl rfl) ?_
          refine l_y rfl rfl (y_assign rfl) ?_
          refine K2 (K8 (K3 (K1 ?_)))
          refine l_y rfl rfl (y_move rfl) ?_
          refine l_y rfl rfl (D4) ?_
          refine l_y rfl rfl (y_assign rfl) ?_
          refine K2 ?_
          exact q_next ((x.1 + 1, _, _)) ⟨rfl, rfl, rfl, rfl, rfl, rfl, trivial⟩ ⟨hO.only [.o a, .o s24], (by first | exact hE.push he | exact hE.skip), (by dsimp only; first | rfl | (rw [List.any_append, ← hth, List.any_cons, List.any_nil, hna]; clear hth e1 e2 hna; simp [*]; done) | (exact hth))⟩ (by dsimp only; omega)
    · refine K2 (K3 (L9 (K5 (K8 (K3 (K1 ?_))))))
      refine l_y rfl rfl (y_move rfl) ?_
      refine l_y rfl rfl (D4) ?_
      refine l_y rfl rfl (y_assign rfl) ?_
      refine K2 ?_
      exact q_next ((x.1 + 1, _, _)) ⟨rfl, rfl, rfl, rfl, rfl, rfl, trivial⟩ ⟨hO.only [.o a, .o s24], (by first | exact hE.push he | exact hE.skip), (by dsimp only; first | rfl | (rw [List.any_append, ← hth, List.any_cons, List.any_nil, hna]; clear hth e1 e2 hna; simp [*]; done) | (exact hth))⟩ (by dsimp only; omega)
  · refine K2 (K3 (L9 (K7 (L1 (L1 (L2 (K3 (K0 ?_))))))))
    have hl1 : x.2.1.length ≤ 1000000 := Nat.le_trans hE.toStkI.len hlA
    refine K1 ?_
    refine l_y rfl rfl (y_move rfl) ?_
    refine l_y rfl rfl (y_move rfl) ?_
    refine CK [.o a, .o s24] hO rfl (fun k' hx hr hO' => sScope_spec hpos ha hE.el hl1 (hO := hO')) ?_
    rintro _ _ w ⟨rfl, rfl⟩ hO
    simp only [List.cons_append, List.nil_append] at hO
    refine l_y rfl rfl (y_assign rfl) ?_
    refine K2 (K3 (K0 (K0 (K1 ?_))))
    refine l_y rfl rfl (y_move rfl) ?_
    refine l_y rfl rfl (y_move rfl) ?_
    refine CK [.o a, .o s24] hO rfl (fun k' hx hr hO' => sScope_spec hpos ha hE.el hl1 (hO := hO')) ?_
    rintro _ _ w ⟨rfl, rfl⟩ hO
    simp only [List.cons_append, List.nil_append] at hO
    refine l_y rfl rfl (y_move rfl) ?_
    refine l_split 66 rfl (fun hg66 => ?_) (fun hg66 => ?_)
    · repeat refine M2 ?_
      refine l_y rfl rfl (y_pick_t rfl rfl) ?_
      refine l_y rfl rfl (y_move rfl) ?_
      refine l_y rfl rfl (y_move rfl) ?_
      refine l_y rfl rfl (y_not rfl rfl) ?_
      refine l_y rfl rfl (y_pick_t rfl rfl) ?_
      refine l_y rfl rfl (y_move rfl) ?_
      refine l_split 75 rfl (fun hg75 => ?_) (fun hg75 => ?_)
      · simp only [Bool.not_eq_true', Bool.not_eq_false'] at hg75
        repeat refine M2 ?_
        refine l_y rfl rfl (y_pick_t rfl rfl) ?_
        refine l_y rfl rfl (y_move rfl) ?_
        repeat refine M2 ?_
        refine l_y rfl rfl (y_pick_t rfl rfl) ?_
        refine K2 (K3 (L8 (K0 (K1 ?_))))
        refine l_y rfl rfl (y_assign rfl) ?_
        refine K2 (K3 (K6 (K9 ?_)))
        exfalso
        first
        | (have := scope12 (A := A) (.inl rfl) hg66; simp_all; done)
        | (have := scope12 (A := A) (.inr rfl) hg71; simp_all; done)
        | (rw [scopeL_out (by omega)] at hg80; simp at hg80; done)
        | (rw [scopeL_out (by omega)] at hc84; simp at hc84; done)
      · simp only [Bool.not_eq_true', Bool.not_eq_false'] at hg75
        refine l_y rfl rfl (y_move rfl) ?_
        refine l_y rfl rfl (y_move rfl) ?_
        refine CK [.o a, .o s24] hO rfl (fun k' hx hr hO' => sScope_spec hpos ha hE.el hl1 (hO := hO')) ?_
        rintro _ _ w ⟨rfl, rfl⟩ hO
        simp only [List.cons_append, List.nil_append] at hO
        refine l_y rfl rfl (y_pick_f rfl rfl) ?_
        refine l_y rfl rfl (y_move rfl) ?_
        refine l_split 80 rfl (fun hg80 => ?_) (fun hg80 => ?_)
        · repeat refine M2 ?_
          refine l_y rfl rfl (y_pick_t rfl rfl) ?_
          refine K2 (K3 (L8 (K0 (K1 ?_))))
          refine l_y rfl rfl (y_assign rfl) ?_
          refine K2 (K3 (K6 (K9 ?_)))
          exfalso
          first
          | (have := scope12 (A := A) (.inl rfl) hg66; simp_all; done)
          | (have := scope12 (A := A) (.inr rfl) hg71; simp_all; done)
          | (rw [scopeL_out (by omega)] at hg80; simp at hg80; done)
          | (rw [scopeL_out (by omega)] at hc84; simp at hc84; done)
        · refine l_y rfl rfl (y_move rfl) ?_
          refine l_y rfl rfl (y_move rfl) ?_
          refine CK [.o a, .o s24] hO rfl (fun k' hx hr hO' => sScope_spec hpos ha hE.el hl1 (hO := hO')) ?_
          rintro _ _ w ⟨rfl, rfl⟩ hO
          simp only [List.cons_append, List.nil_append] at hO
          refine l_y rfl rfl (y_pick_f rfl rfl) ?_
          refine K2 (K3 ?_)
          refine c_split rfl (fun hc84 => ?_) (fun hc84 => ?_)
          · refine K0 (K1 ?_)
            refine l_y rfl rfl (y_assign rfl) ?_
            refine K2 (K3 (K6 (K9 ?_)))
            exfalso
            first
            | (have := scope12 (A := A) (.inl rfl) hg66; simp_all; done)
            | (have := scope12 (A := A) (.inr rfl) hg71; simp_all; done)
            | (rw [scopeL_out (by omega)] at hg80; simp at hg80; done)
            | (rw [scopeL_out (by omega)] at hc84; simp at hc84; done)
          · refine K5 (K3 (K0 (K0 (K1 ?_))))
            refine l_y rfl rfl (y_assign rfl) ?_
            refine K2 (K3 (K4 ?_))
            refine c_rounds (X := Nat) (fun j => [(1, .string name), (4, .bool false), (7, .pointer (some ⟨s24, 0, none⟩)), (9, .bool x.2.2), (13, .bool (scopeL A (namA A [name]) (0) x.2.1)), (14, .int .i64 (j : Int))]) (fun j w => Own k w [arenaL a A, stkL s24 a x.2.1] ∧ (True)) (fun j => 5 - j) (0) ⟨rfl, rfl, rfl, rfl, rfl, rfl, trivial⟩ ⟨hO.only [.o a, .o s24], trivial⟩ ?_
            rintro j w m hm ⟨hO, hT0⟩
            refine K0 (K0 (K1 ?_))
            refine l_y rfl rfl (y_move rfl) ?_
            refine Z0 (fun h19_1 => ?_) (fun h19_1 => ?_)
            · refine K2 (K3 (L8 (K5 (K3 (K0 (K4 (K0 (K1 ?_))))))))
              refine l_y rfl rfl (y_move rfl) ?_
              refine l_y rfl rfl (y_move rfl) ?_
              refine l_y rfl rfl (y_move rfl) ?_
              refine CK [.o a, .o s24] hO rfl (fun k' hx hr hO' => sScope_spec hpos ha hE.el hl1 (hO := hO')) ?_
              rintro _ _ w ⟨rfl, rfl⟩ hO
              simp only [List.cons_append, List.nil_append] at hO
              refine l_y rfl rfl (y_move rfl) ?_
              refine l_split 93 rfl (fun hg93 => ?_) (fun hg93 => ?_)
              · refine l_y rfl rfl (y_move rfl) ?_
                refine l_y rfl rfl (y_not rfl rfl) ?_
                refine l_y rfl rfl (y_pick_t rfl rfl) ?_
                refine K2 (K3 ?_)
                refine c_split rfl (fun hc96 => ?_) (fun hc96 => ?_)
                · simp only [Bool.not_eq_true', Bool.not_eq_false'] at hc96
                  refine K0 (K1 ?_)
                  refine l_y rfl rfl (y_assign rfl) ?_
                  refine K2 (K3 (K6 (L0 (K9 (K9 (L0 (K9 ?_)))))))
                  exfalso
                  have h9 := scope_any hg93
                  rw [← hth] at h9
                  simp_all
                · simp only [Bool.not_eq_true', Bool.not_eq_false'] at hc96
                  refine K5 (K8 (K3 (K1 ?_)))
                  refine l_y rfl rfl (y_move rfl) ?_
                  refine l_y rfl rfl (D4) ?_
                  refine l_y rfl rfl (y_assign rfl) ?_
                  refine K2 ?_
                  exact q_next (j + 1) ⟨rfl, rfl, rfl, rfl, rfl, rfl, trivial⟩ ⟨hO.only [.o a, .o s24], trivial⟩ (by omega)
              · repeat refine M2 ?_
                refine l_y rfl rfl (y_pick_f rfl rfl) ?_
                refine K2 (K3 (L9 (K5 (K8 (K3 (K1 ?_))))))
                refine l_y rfl rfl (y_move rfl) ?_
                refine l_y rfl rfl (D4) ?_
                refine l_y rfl rfl (y_assign rfl) ?_
                refine K2 ?_
                exact q_next (j + 1) ⟨rfl, rfl, rfl, rfl, rfl, rfl, trivial⟩ ⟨hO.only [.o a, .o s24], trivial⟩ (by omega)
            · refine K2 (K3 (L9 (K7 (L1 (L1 (L2 (K3 (K0 (K1 ?_)))))))))
              refine l_y rfl rfl (y_move rfl) ?_
              refine l_y rfl rfl (y_not rfl rfl) ?_
              refine l_y rfl rfl (y_move rfl) ?_
              refine l_split 99 rfl (fun hg99 => ?_) (fun hg99 => ?_)
              · simp only [Bool.not_eq_true', Bool.not_eq_false'] at hg99
                repeat refine M2 ?_
                refine l_y rfl rfl (y_pick_t rfl rfl) ?_
                refine l_y rfl rfl (y_move rfl) ?_
                refine CK [] hO rfl (fun k' hx hr hO' => awake12_spec (hO := hO')) ?_
                rintro _ _ w ⟨rfl, rfl⟩ hO
                simp only [List.cons_append, List.nil_append] at hO
                refine l_y rfl rfl (y_pick_t rfl rfl) ?_
                refine l_y rfl rfl (y_assign rfl) ?_
                refine K2 (K3 (K6 ?_))
                first
                | exact fin1 rfl rfl ⟨_, rfl, hO⟩
                | (exfalso; have h9 := scope03 (A := A) (is := namA A [name]) (l := x.2.1) (by simpa using hg99); simp_all; done)
              · simp only [Bool.not_eq_true', Bool.not_eq_false'] at hg99
                refine l_y rfl rfl (y_move rfl) ?_
                refine l_y rfl rfl (y_move rfl) ?_
                refine CK [.o a, .o s24] hO rfl (fun k' hx hr hO' => sScope_spec hpos ha hE.el hl1 (hO := hO')) ?_
                rintro _ _ w ⟨rfl, rfl⟩ hO
                simp only [List.cons_append, List.nil_append] at hO
                refine l_y rfl rfl (y_pick_f rfl rfl) ?_
                refine l_y rfl rfl (y_move rfl) ?_
                refine l_split 104 rfl (fun hg104 => ?_) (fun hg104 => ?_)
                · refine CK [] hO rfl (fun k' hx hr hO' => awake12_spec (hO := hO')) ?_
                  rintro _ _ w ⟨rfl, rfl⟩ hO
                  simp only [List.cons_append, List.nil_append] at hO
                  refine l_y rfl rfl (y_pick_t rfl rfl) ?_
                  refine l_y rfl rfl (y_assign rfl) ?_
                  refine K2 (K3 (K6 ?_))
                  first
                  | exact fin1 rfl rfl ⟨_, rfl, hO⟩
                  | (exfalso; have h9 := scope03 (A := A) (is := namA A [name]) (l := x.2.1) (by simpa using hg99); simp_all; done)
                · repeat refine M2 ?_
                  refine l_y rfl rfl (y_pick_f rfl rfl) ?_
                  refine l_y rfl rfl (y_assign rfl) ?_
                  refine K2 (K3 (K6 ?_))
                  first
                  | exact fin1 rfl rfl ⟨_, rfl, hO⟩
                  | (exfalso; have h9 := scope03 (A := A) (is := namA A [name]) (l := x.2.1) (by simpa using hg99); simp_all; done)
    · refine l_y rfl rfl (y_move rfl) ?_
      refine l_y rfl rfl (y_move rfl) ?_
      refine CK [.o a, .o s24] hO rfl (fun k' hx hr hO' => sScope_spec hpos ha hE.el hl1 (hO := hO')) ?_
      rintro _ _ w ⟨rfl, rfl⟩ hO
      simp only [List.cons_append, List.nil_append] at hO
      refine l_y rfl rfl (y_pick_f rfl rfl) ?_
      refine l_y rfl rfl (y_move rfl) ?_
      refine l_split 71 rfl (fun hg71 => ?_) (fun hg71 => ?_)
      · refine l_y rfl rfl (y_move rfl) ?_
        refine l_y rfl rfl (y_not rfl rfl) ?_
        refine l_y rfl rfl (y_pick_t rfl rfl) ?_
        refine l_y rfl rfl (y_move rfl) ?_
        refine l_split 75 rfl (fun hg75 => ?_) (fun hg75 => ?_)
        · simp only [Bool.not_eq_true', Bool.not_eq_false'] at hg75
          repeat refine M2 ?_
          refine l_y rfl rfl (y_pick_t rfl rfl) ?_
          refine l_y rfl rfl (y_move rfl) ?_
          repeat refine M2 ?_
          refine l_y rfl rfl (y_pick_t rfl rfl) ?_
          refine K2 (K3 (L8 (K0 (K1 ?_))))
          refine l_y rfl rfl (y_assign rfl) ?_
          refine K2 (K3 (K6 (K9 ?_)))
          exfalso
          first
          | (have := scope12 (A := A) (.inl rfl) hg66; simp_all; done)
          | (have := scope12 (A := A) (.inr rfl) hg71; simp_all; done)
          | (rw [scopeL_out (by omega)] at hg80; simp at hg80; done)
          | (rw [scopeL_out (by omega)] at hc84; simp at hc84; done)
        · simp only [Bool.not_eq_true', Bool.not_eq_false'] at hg75
          refine l_y rfl rfl (y_move rfl) ?_
          refine l_y rfl rfl (y_move rfl) ?_
          refine CK [.o a, .o s24] hO rfl (fun k' hx hr hO' => sScope_spec hpos ha hE.el hl1 (hO := hO')) ?_
          rintro _ _ w ⟨rfl, rfl⟩ hO
          simp only [List.cons_append, List.nil_append] at hO
          refine l_y rfl rfl (y_pick_f rfl rfl) ?_
          refine l_y rfl rfl (y_move rfl) ?_
          refine l_split 80 rfl (fun hg80 => ?_) (fun hg80 => ?_)
          · repeat refine M2 ?_
            refine l_y rfl rfl (y_pick_t rfl rfl) ?_
            refine K2 (K3 (L8 (K0 (K1 ?_))))
            refine l_y rfl rfl (y_assign rfl) ?_
            refine K2 (K3 (K6 (K9 ?_)))
            exfalso
            first
            | (have := scope12 (A := A) (.inl rfl) hg66; simp_all; done)
            | (have := scope12 (A := A) (.inr rfl) hg71; simp_all; done)
            | (rw [scopeL_out (by omega)] at hg80; simp at hg80; done)
            | (rw [scopeL_out (by omega)] at hc84; simp at hc84; done)
          · refine l_y rfl rfl (y_move rfl) ?_
            refine l_y rfl rfl (y_move rfl) ?_
            refine CK [.o a, .o s24] hO rfl (fun k' hx hr hO' => sScope_spec hpos ha hE.el hl1 (hO := hO')) ?_
            rintro _ _ w ⟨rfl, rfl⟩ hO
            simp only [List.cons_append, List.nil_append] at hO
            refine l_y rfl rfl (y_pick_f rfl rfl) ?_
            refine K2 (K3 ?_)
            refine c_split rfl (fun hc84 => ?_) (fun hc84 => ?_)
            · refine K0 (K1 ?_)
              refine l_y rfl rfl (y_assign rfl) ?_
              refine K2 (K3 (K6 (K9 ?_)))
              exfalso
              first
              | (have := scope12 (A := A) (.inl rfl) hg66; simp_all; done)
              | (have := scope12 (A := A) (.inr rfl) hg71; simp_all; done)
              | (rw [scopeL_out (by omega)] at hg80; simp at hg80; done)
              | (rw [scopeL_out (by omega)] at hc84; simp at hc84; done)
            · refine K5 (K3 (K0 (K0 (K1 ?_))))
              refine l_y rfl rfl (y_assign rfl) ?_
              refine K2 (K3 (K4 ?_))
              refine c_rounds (X := Nat) (fun j => [(1, .string name), (4, .bool false), (7, .pointer (some ⟨s24, 0, none⟩)), (9, .bool x.2.2), (13, .bool (scopeL A (namA A [name]) (0) x.2.1)), (14, .int .i64 (j : Int))]) (fun j w => Own k w [arenaL a A, stkL s24 a x.2.1] ∧ (True)) (fun j => 5 - j) (0) ⟨rfl, rfl, rfl, rfl, rfl, rfl, trivial⟩ ⟨hO.only [.o a, .o s24], trivial⟩ ?_
              rintro j w m hm ⟨hO, hT0⟩
              refine K0 (K0 (K1 ?_))
              refine l_y rfl rfl (y_move rfl) ?_
              refine Z0 (fun h19_1 => ?_) (fun h19_1 => ?_)
              · refine K2 (K3 (L8 (K5 (K3 (K0 (K4 (K0 (K1 ?_))))))))
                refine l_y rfl rfl (y_move rfl) ?_
                refine l_y rfl rfl (y_move rfl) ?_
                refine l_y rfl rfl (y_move rfl) ?_
                refine CK [.o a, .o s24] hO rfl (fun k' hx hr hO' => sScope_spec hpos ha hE.el hl1 (hO := hO')) ?_
                rintro _ _ w ⟨rfl, rfl⟩ hO
                simp only [List.cons_append, List.nil_append] at hO
                refine l_y rfl rfl (y_move rfl) ?_
                refine l_split 93 rfl (fun hg93 => ?_) (fun hg93 => ?_)
                · refine l_y rfl rfl (y_move rfl) ?_
                  refine l_y rfl rfl (y_not rfl rfl) ?_
                  refine l_y rfl rfl (y_pick_t rfl rfl) ?_
                  refine K2 (K3 ?_)
                  refine c_split rfl (fun hc96 => ?_) (fun hc96 => ?_)
                  · simp only [Bool.not_eq_true', Bool.not_eq_false'] at hc96
                    refine K0 (K1 ?_)
                    refine l_y rfl rfl (y_assign rfl) ?_
                    refine K2 (K3 (K6 (L0 (K9 (K9 (L0 (K9 ?_)))))))
                    exfalso
                    have h9 := scope_any hg93
                    rw [← hth] at h9
                    simp_all
                  · simp only [Bool.not_eq_true', Bool.not_eq_false'] at hc96
                    refine K5 (K8 (K3 (K1 ?_)))
                    refine l_y rfl rfl (y_move rfl) ?_
                    refine l_y rfl rfl (D4) ?_
                    refine l_y rfl rfl (y_assign rfl) ?_
                    refine K2 ?_
                    exact q_next (j + 1) ⟨rfl, rfl, rfl, rfl, rfl, rfl, trivial⟩ ⟨hO.only [.o a, .o s24], trivial⟩ (by omega)
                · repeat refine M2 ?_
                  refine l_y rfl rfl (y_pick_f rfl rfl) ?_
                  refine K2 (K3 (L9 (K5 (K8 (K3 (K1 ?_))))))
                  refine l_y rfl rfl (y_move rfl) ?_
                  refine l_y rfl rfl (D4) ?_
                  refine l_y rfl rfl (y_assign rfl) ?_
                  refine K2 ?_
                  exact q_next (j + 1) ⟨rfl, rfl, rfl, rfl, rfl, rfl, trivial⟩ ⟨hO.only [.o a, .o s24], trivial⟩ (by omega)
              · refine K2 (K3 (L9 (K7 (L1 (L1 (L2 (K3 (K0 (K1 ?_)))))))))
                refine l_y rfl rfl (y_move rfl) ?_
                refine l_y rfl rfl (y_not rfl rfl) ?_
                refine l_y rfl rfl (y_move rfl) ?_
                refine l_split 99 rfl (fun hg99 => ?_) (fun hg99 => ?_)
                · simp only [Bool.not_eq_true', Bool.not_eq_false'] at hg99
                  repeat refine M2 ?_
                  refine l_y rfl rfl (y_pick_t rfl rfl) ?_
                  refine l_y rfl rfl (y_move rfl) ?_
                  refine CK [] hO rfl (fun k' hx hr hO' => awake12_spec (hO := hO')) ?_
                  rintro _ _ w ⟨rfl, rfl⟩ hO
                  simp only [List.cons_append, List.nil_append] at hO
                  refine l_y rfl rfl (y_pick_t rfl rfl) ?_
                  refine l_y rfl rfl (y_assign rfl) ?_
                  refine K2 (K3 (K6 ?_))
                  first
                  | exact fin1 rfl rfl ⟨_, rfl, hO⟩
                  | (exfalso; have h9 := scope03 (A := A) (is := namA A [name]) (l := x.2.1) (by simpa using hg99); simp_all; done)
                · simp only [Bool.not_eq_true', Bool.not_eq_false'] at hg99
                  refine l_y rfl rfl (y_move rfl) ?_
                  refine l_y rfl rfl (y_move rfl) ?_
                  refine CK [.o a, .o s24] hO rfl (fun k' hx hr hO' => sScope_spec hpos ha hE.el hl1 (hO := hO')) ?_
                  rintro _ _ w ⟨rfl, rfl⟩ hO
                  simp only [List.cons_append, List.nil_append] at hO
                  refine l_y rfl rfl (y_pick_f rfl rfl) ?_
                  refine l_y rfl rfl (y_move rfl) ?_
                  refine l_split 104 rfl (fun hg104 => ?_) (fun hg104 => ?_)
                  · refine CK [] hO rfl (fun k' hx hr hO' => awake12_spec (hO := hO')) ?_
                    rintro _ _ w ⟨rfl, rfl⟩ hO
                    simp only [List.cons_append, List.nil_append] at hO
                    refine l_y rfl rfl (y_pick_t rfl rfl) ?_
                    refine l_y rfl rfl (y_assign rfl) ?_
                    refine K2 (K3 (K6 ?_))
                    first
                    | exact fin1 rfl rfl ⟨_, rfl, hO⟩
                    | (exfalso; have h9 := scope03 (A := A) (is := namA A [name]) (l := x.2.1) (by simpa using hg99); simp_all; done)
                  · repeat refine M2 ?_
                    refine l_y rfl rfl (y_pick_f rfl rfl) ?_
                    refine l_y rfl rfl (y_assign rfl) ?_
                    refine K2 (K3 (K6 ?_))
                    first
                    | exact fin1 rfl rfl ⟨_, rfl, hO⟩
                    | (exfalso; have h9 := scope03 (A := A) (is := namA A [name]) (l := x.2.1) (by simpa using hg99); simp_all; done)
      · repeat refine M2 ?_
        refine l_y rfl rfl (y_pick_f rfl rfl) ?_
        refine l_y rfl rfl (y_move rfl) ?_
        refine l_y rfl rfl (y_move rfl) ?_
        refine l_y rfl rfl (y_move rfl) ?_
        refine CK [.o a, .o s24] hO rfl (fun k' hx hr hO' => sScope_spec hpos ha hE.el hl1 (hO := hO')) ?_
        rintro _ _ w ⟨rfl, rfl⟩ hO
        simp only [List.cons_append, List.nil_append] at hO
        refine l_y rfl rfl (y_pick_f rfl rfl) ?_
        refine l_y rfl rfl (y_move rfl) ?_
        refine l_split 80 rfl (fun hg80 => ?_) (fun hg80 => ?_)
        · repeat refine M2 ?_
          refine l_y rfl rfl (y_pick_t rfl rfl) ?_
          refine K2 (K3 (L8 (K0 (K1 ?_))))
          refine l_y rfl rfl (y_assign rfl) ?_
          refine K2 (K3 (K6 (K9 ?_)))
          exfalso
          first
          | (have := scope12 (A := A) (.inl rfl) hg66; simp_all; done)
          | (have := scope12 (A := A) (.inr rfl) hg71; simp_all; done)
          | (rw [scopeL_out (by omega)] at hg80; simp at hg80; done)
          | (rw [scopeL_out (by omega)] at hc84; simp at hc84; done)
        · refine l_y rfl rfl (y_move rfl) ?_
          refine l_y rfl rfl (y_move rfl) ?_
          refine CK [.o a, .o s24] hO rfl (fun k' hx hr hO' => sScope_spec hpos ha hE.el hl1 (hO := hO')) ?_
          rintro _ _ w ⟨rfl, rfl⟩ hO
          simp only [List.cons_append, List.nil_append] at hO
          refine l_y rfl rfl (y_pick_f rfl rfl) ?_
          refine K2 (K3 ?_)
          refine c_split rfl (fun hc84 => ?_) (fun hc84 => ?_)
          · refine K0 (K1 ?_)
            refine l_y rfl rfl (y_assign rfl) ?_
            refine K2 (K3 (K6 (K9 ?_)))
            exfalso
            first
            | (have := scope12 (A := A) (.inl rfl) hg66; simp_all; done)
            | (have := scope12 (A := A) (.inr rfl) hg71; simp_all; done)
            | (rw [scopeL_out (by omega)] at hg80; simp at hg80; done)
            | (rw [scopeL_out (by omega)] at hc84; simp at hc84; done)
          · refine K5 (K3 (K0 (K0 (K1 ?_))))
            refine l_y rfl rfl (y_assign rfl) ?_
            refine K2 (K3 (K4 ?_))
            refine c_rounds (X := Nat) (fun j => [(1, .string name), (4, .bool false), (7, .pointer (some ⟨s24, 0, none⟩)), (9, .bool x.2.2), (13, .bool (scopeL A (namA A [name]) (0) x.2.1)), (14, .int .i64 (j : Int))]) (fun j w => Own k w [arenaL a A, stkL s24 a x.2.1] ∧ (True)) (fun j => 5 - j) (0) ⟨rfl, rfl, rfl, rfl, rfl, rfl, trivial⟩ ⟨hO.only [.o a, .o s24], trivial⟩ ?_
            rintro j w m hm ⟨hO, hT0⟩
            refine K0 (K0 (K1 ?_))
            refine l_y rfl rfl (y_move rfl) ?_
            refine Z0 (fun h19_1 => ?_) (fun h19_1 => ?_)
            · refine K2 (K3 (L8 (K5 (K3 (K0 (K4 (K0 (K1 ?_))))))))
              refine l_y rfl rfl (y_move rfl) ?_
              refine l_y rfl rfl (y_move rfl) ?_
              refine l_y rfl rfl (y_move rfl) ?_
              refine CK [.o a, .o s24] hO rfl (fun k' hx hr hO' => sScope_spec hpos ha hE.el hl1 (hO := hO')) ?_
              rintro _ _ w ⟨rfl, rfl⟩ hO
              simp only [List.cons_append, List.nil_append] at hO
              refine l_y rfl rfl (y_move rfl) ?_
              refine l_split 93 rfl (fun hg93 => ?_) (fun hg93 => ?_)
              · refine l_y rfl rfl (y_move rfl) ?_
                refine l_y rfl rfl (y_not rfl rfl) ?_
                refine l_y rfl rfl (y_pick_t rfl rfl) ?_
                refine K2 (K3 ?_)
                refine c_split rfl (fun hc96 => ?_) (fun hc96 => ?_)
                · simp only [Bool.not_eq_true', Bool.not_eq_false'] at hc96
                  refine K0 (K1 ?_)
                  refine l_y rfl rfl (y_assign rfl) ?_
                  refine K2 (K3 (K6 (L0 (K9 (K9 (L0 (K9 ?_)))))))
                  exfalso
                  have h9 := scope_any hg93
                  rw [← hth] at h9
                  simp_all
                · simp only [Bool.not_eq_true', Bool.not_eq_false'] at hc96
                  refine K5 (K8 (K3 (K1 ?_)))
                  refine l_y rfl rfl (y_move rfl) ?_
                  refine l_y rfl rfl (D4) ?_
                  refine l_y rfl rfl (y_assign rfl) ?_
                  refine K2 ?_
                  exact q_next (j + 1) ⟨rfl, rfl, rfl, rfl, rfl, rfl, trivial⟩ ⟨hO.only [.o a, .o s24], trivial⟩ (by omega)
              · repeat refine M2 ?_
                refine l_y rfl rfl (y_pick_f rfl rfl) ?_
                refine K2 (K3 (L9 (K5 (K8 (K3 (K1 ?_))))))
                refine l_y rfl rfl (y_move rfl) ?_
                refine l_y rfl rfl (D4) ?_
                refine l_y rfl rfl (y_assign rfl) ?_
                refine K2 ?_
                exact q_next (j + 1) ⟨rfl, rfl, rfl, rfl, rfl, rfl, trivial⟩ ⟨hO.only [.o a, .o s24], trivial⟩ (by omega)
            · refine K2 (K3 (L9 (K7 (L1 (L1 (L2 (K3 (K0 (K1 ?_)))))))))
              refine l_y rfl rfl (y_move rfl) ?_
              refine l_y rfl rfl (y_not rfl rfl) ?_
              refine l_y rfl rfl (y_move rfl) ?_
              refine l_split 99 rfl (fun hg99 => ?_) (fun hg99 => ?_)
              · simp only [Bool.not_eq_true', Bool.not_eq_false'] at hg99
                repeat refine M2 ?_
                refine l_y rfl rfl (y_pick_t rfl rfl) ?_
                refine l_y rfl rfl (y_move rfl) ?_
                refine CK [] hO rfl (fun k' hx hr hO' => awake12_spec (hO := hO')) ?_
                rintro _ _ w ⟨rfl, rfl⟩ hO
                simp only [List.cons_append, List.nil_append] at hO
                refine l_y rfl rfl (y_pick_t rfl rfl) ?_
                refine l_y rfl rfl (y_assign rfl) ?_
                refine K2 (K3 (K6 ?_))
                first
                | exact fin1 rfl rfl ⟨_, rfl, hO⟩
                | (exfalso; have h9 := scope03 (A := A) (is := namA A [name]) (l := x.2.1) (by simpa using hg99); simp_all; done)
              · simp only [Bool.not_eq_true', Bool.not_eq_false'] at hg99
                refine l_y rfl rfl (y_move rfl) ?_
                refine l_y rfl rfl (y_move rfl) ?_
                refine CK [.o a, .o s24] hO rfl (fun k' hx hr hO' => sScope_spec hpos ha hE.el hl1 (hO := hO')) ?_
                rintro _ _ w ⟨rfl, rfl⟩ hO
                simp only [List.cons_append, List.nil_append] at hO
                refine l_y rfl rfl (y_pick_f rfl rfl) ?_
                refine l_y rfl rfl (y_move rfl) ?_
                refine l_split 104 rfl (fun hg104 => ?_) (fun hg104 => ?_)
                · refine CK [] hO rfl (fun k' hx hr hO' => awake12_spec (hO := hO')) ?_
                  rintro _ _ w ⟨rfl, rfl⟩ hO
                  simp only [List.cons_append, List.nil_append] at hO
                  refine l_y rfl rfl (y_pick_t rfl rfl) ?_
                  refine l_y rfl rfl (y_assign rfl) ?_
                  refine K2 (K3 (K6 ?_))
                  first
                  | exact fin1 rfl rfl ⟨_, rfl, hO⟩
                  | (exfalso; have h9 := scope03 (A := A) (is := namA A [name]) (l := x.2.1) (by simpa using hg99); simp_all; done)
                · repeat refine M2 ?_
                  refine l_y rfl rfl (y_pick_f rfl rfl) ?_
                  refine l_y rfl rfl (y_assign rfl) ?_
                  refine K2 (K3 (K6 ?_))
                  first
                  | exact fin1 rfl rfl ⟨_, rfl, hO⟩
                  | (exfalso; have h9 := scope03 (A := A) (is := namA A [name]) (l := x.2.1) (by simpa using hg99); simp_all; done)
end
end Go.Proofs.Ytbhicbpfdbnpfaa
