/- What the row of this folder leans on, part 3: the walks of the functions and the laws of what they compute; no condition. -/
import Derived.Test.YtpejdlfkaaiehaaGreatDoorWka2
section
set_option linter.unusedVariables false
set_option linter.unusedSimpArgs false
set_option maxRecDepth 100000
namespace Go.Proofs.YtpejdlfkaaiehaaGreatDoor
open Go Go.Hb Go.RowKit
section
variable {P : Program} {ops : Array Oper} {Q : Exit → Act → World → Prop} {n : Nat} {ds : List Deferred} {E : Env} {w : World} {k : Ctx} {l : List HP}
variable {rest : List Oper} {d : Option Tmp} {ty : TypeId} {pos : String} {aft : Array Edge} {g : Option (Nat × Bool)}
end
section
variable {k : Ctx} {w : World} {s a c : Nat} {p : Option Addr} {L : List Api_entry} {A : List Node_one}
theorem findE_cases (L : List Api_entry) (x : Int) : findE L x = -1 ∨ ∃ i : Nat, findE L x = i ∧ i < L.length ∧ (at_ L i).Node = x ∧ x ≠ -1 := by
  by_cases h : x = -1
  · exact .inl (by rw [findE, if_pos h])
  · rcases idx_cases (fun y : Api_entry => decide (y.Node = x)) L with ⟨h1, _⟩ | ⟨i, h1, h2, h3, _⟩
    · exact .inl (by rw [findE, if_neg h]; exact h1)
    · exact .inr ⟨i, by rw [findE, if_neg h]; exact h1, h2, of_decide_eq_true h3, h⟩
def swapE (A : List Node_one) (L : List Api_entry) (old id : Int) : Int × List Api_entry := if elB A id = false ∨ findE L old < 0 then (6, L) else if freshF A L id = 0 then (0, L.set (findE L old).toNat { at_ L (findE L old).toNat with Node := id }) else (1, L)
theorem freshF_cases (A : List Node_one) (L : List Api_entry) (id : Int) : (freshF A L id = 6 ∧ elB A id = false) ∨ (freshF A L id = 1 ∧ elB A id = true ∧ 0 ≤ findE L id) ∨ (freshF A L id = 0 ∧ elB A id = true ∧ findE L id < 0) := by
  unfold freshF
  cases h : elB A id with
  | false => exact .inl ⟨rfl, rfl⟩
  | true =>
    right
    by_cases h2 : 0 ≤ findE L id
    · exact .inl ⟨by rw [if_neg (by simp), if_pos h2], rfl, h2⟩
    · exact .inr ⟨by rw [if_neg (by simp), if_neg h2], rfl, by omega⟩
theorem aSwap_spec {old id : Int} (hn : 0 < A.length) (ha : AttrsOk A) (hl : L.length ≤ 2000000) (hO : Own k w [arenaL a A, actL s a L]) :
    Tri Tryz.prog 166 #[.pointer (some ⟨s, 0, none⟩), .int .i64 old, .int .i64 id] k w fun v m => v = .int .i64 (swapE A L old id).1 ∧ m = [arenaL a A, actL s a (swapE A L old id).2] := by
  refine enter (args := [.pointer (some ⟨s, 0, none⟩), .int .i64 old, .int .i64 id]) Tryz.func166 rfl rfl ?_
  obtain ⟨p, c, hg, hlc, hO⟩ := actL_open (hO.ks [.o s])
  have hf := freshF_cases A L id
  refine K0 (K1 ?_)
  refine l_y rfl rfl (y_assign rfl) ?_
  refine K2 (K3 (K0 (K1 ?_)))
  refine l_y rfl rfl (y_move rfl) ?_
  refine l_y rfl rfl (y_move rfl) ?_
  refine CK [.o a, .b s, .p p] hO rfl (fun k' hx hr hO' => afresh_spec hn ha hg hl (hO := hO')) ?_
  rintro _ _ w ⟨rfl, rfl⟩ hO
  simp only [List.cons_append, List.nil_append] at hO
  refine l_y rfl rfl (y_assign rfl) ?_
  refine K2 (K3 (K0 (K1 ?_)))
  refine l_y rfl rfl (y_move rfl) ?_
  refine l_y rfl rfl (y_move rfl) ?_
  refine CK [.b s, .p p] hO rfl (fun k' hx hr hO' => aFindB_spec hg hl (hO := hO')) ?_
  rintro _ _ w ⟨rfl, rfl⟩ hO
  simp only [List.cons_append, List.nil_append] at hO
  refine l_y rfl rfl (y_assign rfl) ?_
  refine K2 (K3 (K0 (K4 (K0 (K1 ?_)))))
  refine l_y rfl rfl (y_move rfl) ?_
  refine N3 ?_
  refine l_y rfl rfl (y_move rfl) ?_
  refine l_y rfl rfl (y_move rfl) ?_
  refine Z0 (fun h3_4 => ?_) (fun h3_4 => ?_)
  · refine l_y rfl rfl (y_pick_f rfl rfl) ?_
    refine l_y rfl rfl (y_assign rfl) ?_
    refine K2 (K3 (L8 (K0 (K1 ?_))))
    refine l_y rfl rfl (y_move rfl) ?_
    refine l_y rfl rfl (y_assign rfl) ?_
    refine K2 (K3 (K6 (L0 (K9 ?_))))
    have hel : elB A id = false := by rcases hf with ⟨_, h⟩ | ⟨h, _, _⟩ | ⟨h, _, _⟩ <;> first | exact h | omega
    have er : swapE A L old id = (6, L) := by rw [swapE, if_pos (.inl hel)]
    rw [er]
    exact fin1 rfl rfl ⟨_, ⟨by simp [*], rfl⟩, ((actL_shut (hO.ks [.b s, .p p])).ks [.o a, .o s]).two⟩
  · refine l_y rfl rfl (y_pick_f rfl rfl) ?_
    refine l_y rfl rfl (y_assign rfl) ?_
    refine K2 (K3 (L9 (K0 (K1 ?_))))
    refine l_y rfl rfl (y_move rfl) ?_
    refine Z0 (fun h5_1 => ?_) (fun h5_1 => ?_)
    · refine l_y rfl rfl (y_assign rfl) ?_
      refine K2 (K3 (L8 (K0 (K1 ?_))))
      refine l_y rfl rfl (y_assign rfl) ?_
      refine K2 (K3 (K6 (L0 (K9 ?_))))
      have er : swapE A L old id = (6, L) := by rw [swapE, if_pos (.inr h5_1)]
      rw [er]
      exact fin1 rfl rfl ⟨_, ⟨rfl, rfl⟩, ((actL_shut (hO.ks [.b s, .p p])).ks [.o a, .o s]).two⟩
    · refine l_y rfl rfl (y_assign rfl) ?_
      refine K2 (K3 (L9 (K0 (K1 ?_))))
      refine l_y rfl rfl (y_move rfl) ?_
      refine Z0 (fun h7_1 => ?_) (fun h7_1 => ?_)
      · refine l_y rfl rfl (y_assign rfl) ?_
        refine K2 (K3 (L8 ?_))
        obtain ⟨i, hi, hfl⟩ : ∃ i : Nat, findE L old = i ∧ i < L.length := by
          rcases findE_cases L old with h | ⟨i, h1, h2, _⟩
          · omega
          · exact ⟨i, h1, h2⟩
        have hel : elB A id = true := by rcases hf with ⟨h, _⟩ | ⟨h, _, _⟩ | ⟨_, h, _⟩ <;> first | exact h | omega
        have er : swapE A L old id = (0, L.set i { at_ L i with Node := id }) := by rw [swapE, if_neg (by simp [hel]; omega), if_pos h7_1, hi]; rfl
        rw [er]
        refine K1 ?_
        refine l_y rfl rfl (y_move rfl) ?_
        refine l_y rfl rfl (y_nilCheck rfl rfl) ?_
        refine l_y rfl rfl (y_fldb (o' := 1) rfl) ?_
        refine l_y rfl rfl (D5 hO rfl) ?_
        refine l_y (v := .int .i64 (i : Int)) rfl rfl (by rw [← hi]; exact y_move rfl) ?_
        refine l_y rfl rfl (y_move rfl) ?_
        refine l_y rfl rfl (y_idx rfl rfl) ?_
        refine l_y rfl rfl (y_fld (j' := 0) rfl) ?_
        refine s_e1 (x0 := 0) hO rfl rfl (fun w hO => ?_)
        refine K2 (K8 (K3 (K0 (K1 ?_))))
        refine l_y rfl rfl (y_move rfl) ?_
        refine l_y rfl rfl (y_assign rfl) ?_
        refine K2 (K3 (K6 ?_))
        have hls : L.length = (L.set i { at_ L i with Node := id }).length := by simp
        rw [hls] at hO
        exact fin1 rfl rfl ⟨_, ⟨by rw [h7_1], rfl⟩, ((actL_shut (hO.ks [.b s, .p p]) rfl).ks [.o a, .o s]).two⟩
      · refine l_y rfl rfl (y_assign rfl) ?_
        refine K2 (K3 (L9 (K5 (K8 (K3 (K0 (K1 ?_)))))))
        refine l_y rfl rfl (y_move rfl) ?_
        refine l_y rfl rfl (y_assign rfl) ?_
        refine K2 (K3 (K6 ?_))
        have hel : elB A id = true ∧ freshF A L id = 1 := by rcases hf with ⟨h, _⟩ | ⟨h, h2, _⟩ | ⟨h, _, _⟩ <;> first | exact ⟨h2, h⟩ | omega
        have er : swapE A L old id = (1, L) := by rw [swapE, if_neg (by simp [hel.1]; omega), if_neg h7_1]
        rw [er]
        exact fin1 rfl rfl ⟨_, ⟨by rw [hel.2], rfl⟩, ((actL_shut (hO.ks [.b s, .p p])).ks [.o a, .o s]).two⟩
end
end Go.Proofs.YtpejdlfkaaiehaaGreatDoor
end
section
set_option linter.unusedVariables false
set_option linter.unusedSimpArgs false
set_option maxRecDepth 100000
namespace Go.Proofs.YtpejdlfkaaiehaaGreatDoor
open Go Go.Hb Go.RowKit
section
variable {A : List Node_one} {L : List Api_entry}
theorem pk_all {e : Api_entry} : ∀ {xs : List Nat}, (∀ i ∈ xs, kinB A e (at_ L i) = true) → (pk A L e xs).1 = xs.length := by
  intro xs
  have key : ∀ r : List Nat, (∀ i ∈ r, kinB A e (at_ L i) = true) → (pk A L e r.reverse).1 = r.length := by
    intro r
    induction r with
    | nil => intro _; rfl
    | cons i r ih =>
      intro h
      rw [List.reverse_cons, pk_snoc, if_pos (h i (by simp)), List.length_cons]
      dsimp only
      rw [ih fun j hj => h j (by simp [hj])]
  intro h
  have := key xs.reverse fun i hi => h i (List.mem_reverse.1 hi)
  rwa [List.reverse_reverse, List.length_reverse] at this
theorem bk_all : ∀ {n : Nat}, (∀ i, i < n → (at_ L i).Node ≠ -1) → (bk L n).length = n
  | 0, _ => rfl
  | n + 1, h => by rw [bk, if_neg (h n (by omega)), List.length_cons, bk_all fun i hi => h i (by omega)]
end
structure AL (A : List Node_one) (es : List Api_entry) (nm : ByteArray) : Prop where
  one : ∀ e ∈ es, elB A e.Node = true ∧ (nd A e.Node).Name = nm ∧ (nd A e.Node).Space = 0 ∧ e.Token = tk 1 nm 0
  nodup : (es.map (·.Node)).Nodup
section
variable {A B : List Node_one} {es : List Api_entry} {nm : ByteArray}
theorem AL.nil : AL A [] nm := ⟨fun e he => by simp at he, List.nodup_nil⟩
theorem AL.ne (h : AL A es nm) : ∀ e ∈ es, e.Node ≠ -1 := fun e he c => by
  have := (elB_in (h.one e he).1).1; omega
theorem AL.eok {k : Ctx} (h : AL A es nm) : ∀ e ∈ es, EOk k e := fun e he => by
  rw [EOk, (h.one e he).2.2.2]
  exact ⟨Sli.nil rfl, Nat.zero_le _⟩
theorem AL.ext (h : AL A es nm) (hc : ∀ x, InA A x → InA B x ∧ coreN (at_ B x.toNat) = coreN (at_ A x.toNat)) : AL B es nm := ⟨fun e he => by
  obtain ⟨h1, h2, h3, h4⟩ := h.one e he
  obtain ⟨g1, g2⟩ := hc _ (elB_in h1)
  exact ⟨elB_of g1 ((core_kind g2).trans (elB_kind h1)), (core_name g2).trans h2, (core_space g2).trans h3, h4⟩, h.nodup⟩
theorem AL.kin (h : AL A es nm) {x : Api_entry} (hx : (nd A x.Node).Name = nm ∧ (nd A x.Node).Space = 0 ∧ x.Token = tk 1 nm 0) {e : Api_entry} (he : e ∈ es) : kinB A x e = true := by
  obtain ⟨_, h2, h3, h4⟩ := h.one e he
  have e1 : (nodeA A x.Node).Name = (nodeA A e.Node).Name := hx.1.trans h2.symm
  have e2 : (nodeA A x.Node).Space = (nodeA A e.Node).Space := hx.2.1.trans h3.symm
  rw [kinB, h4, hx.2.2, decide_eq_true e1, decide_eq_true e2]; rfl
theorem findE_none {es : List Api_entry} {x : Int} (h : ∀ e ∈ es, e.Node ≠ x) : findE es x < 0 := by
  unfold findE
  split
  · decide
  · rcases idx_cases (fun y : Api_entry => decide (y.Node = x)) es with ⟨e, _⟩ | ⟨i, e, h2, h3, _⟩
    · omega
    · exact absurd (of_decide_eq_true h3) (h _ (at_mem h2))
theorem AL.push (h : AL A es nm) {id : Int} (hel : elB A id = true) (h2 : (nd A id).Name = nm) (h3 : (nd A id).Space = 0) (hn : ∀ e ∈ es, e.Node ≠ id) : AL A (pushE A es ⟨id, tk 1 nm 0⟩) nm ∧ (pushE A es ⟨id, tk 1 nm 0⟩).length = (if 3 ≤ es.length then es.length else es.length + 1) ∧ freshF A es id = 0 ∧ ∀ e ∈ pushE A es ⟨id, tk 1 nm 0⟩, e ∈ es ∨ e = ⟨id, tk 1 nm 0⟩ := by
  have hbk := bk_all (L := es) (n := es.length) fun i hi => h.ne _ (at_mem hi)
  have hpk := pk_all (A := A) (L := es) (e := ⟨id, tk 1 nm 0⟩) (xs := bk es es.length) fun i hi => h.kin ⟨h2, h3, rfl⟩ (at_mem (bk_lt hi))
  rw [hbk] at hpk
  have hsub : ∀ e ∈ pushE A es ⟨id, tk 1 nm 0⟩, e ∈ es ∨ e = ⟨id, tk 1 nm 0⟩ := fun e he => by
    rw [pushE] at he
    rcases List.mem_append.1 he with he | he
    · left
      split at he
      · rw [cutE, ← List.eraseIdx_eq_take_drop_succ] at he
        exact (List.eraseIdx_sublist ..).subset he
      · exact he
    · exact .inr (List.mem_singleton.1 he)
  refine ⟨⟨fun e he => ?_, ?_⟩, ?_, ?_, hsub⟩
  · rcases hsub e he with he | rfl
    · exact h.one e he
    · exact ⟨hel, h2, h3, rfl⟩
  · have hs : ((if 3 ≤ (pk A es ⟨id, tk 1 nm 0⟩ (bk es es.length)).1 then cutE es (pk A es ⟨id, tk 1 nm 0⟩ (bk es es.length)).2 else es)).Sublist es := by
      split
      · rw [cutE, ← List.eraseIdx_eq_take_drop_succ]; exact List.eraseIdx_sublist ..
      · exact List.Sublist.refl _
    rw [pushE, List.map_append, List.nodup_append]
    refine ⟨h.nodup.sublist (hs.map _), by simp, fun x hx y hy => ?_⟩
    simp only [List.map_cons, List.map_nil, List.mem_singleton] at hy
    subst hy
    obtain ⟨e, he, rfl⟩ := List.mem_map.1 hx
    exact hn e (hs.subset he)
  · rw [pushE, List.length_append, List.length_singleton, hpk]
    by_cases h3 : 3 ≤ es.length
    · rw [if_pos h3, if_pos h3]
      have hm := pk_mem (A := A) (L := es) (e := ⟨id, tk 1 nm 0⟩) (xs := bk es es.length) (by rw [hpk]; omega)
      have := bk_lt hm
      rw [cutE, ← List.eraseIdx_eq_take_drop_succ, List.length_eraseIdx, if_pos this]; omega
    · rw [if_neg h3, if_neg h3]
  · rw [freshF, hel, if_neg (by simp), if_neg (by have := findE_none hn; omega)]
end
section
variable {k : Ctx} {w : World} {b a s l r : Nat} {q : BQ} {A : List Node_one} {K : Int → List Int} {st : List Int} {ns : List ByteArray} {nm : ByteArray} {es : List Api_entry}
theorem b_block0_spec (h : BI A K st ns) (hne : st ≠ []) (hp : ∀ n ∈ ns, n ≠ pS) (hnt : inB nm templL = false ∧ inB nm tableL = false) (hns : nm.size ≤ 1000) (hA : A.length ≤ 30000) (hO : Own k w [blk b 65 (bC a s l r q), arenaL a A, stkL s a st]) :
    Tri Tryz.prog 158 #[.pointer (some ⟨b, 0, none⟩), .agg (Api_token.cells (tk 1 nm 0)).toArray] k w fun v m => ∃ p d, v = .bool false ∧ m = [blk b 65 (bC a s l r q), arenaL a (addA A (elementN p d 0 nm []) (topI st)), stkL s a (st ++ [(A.length : Int)])] := by
  refine enter (args := [.pointer (some ⟨b, 0, none⟩), .agg (Api_token.cells (tk 1 nm 0)).toArray]) Tryz.func158 rfl rfl ?_
  have hl : st.length ≤ 1000000 := by have := h.len_st; omega
  refine K0 (K1 ?_)
  refine s_box (vs := [.int .i64 1, .string nm, .string ⟨#[]⟩, .string ⟨#[]⟩, .int .i64 0, .bool false, .int .i32 0, .bool false, .slice none 0 0]) hO rfl rfl rfl (by rfl) fun b3 w hO => ?_
  refine l_y rfl rfl (y_assign rfl) ?_
  refine K2 (K3 (K0 (K1 ?_)))
  refine l_y rfl rfl (y_move rfl) ?_
  refine CK [.b b, .o a, .o s] hO rfl (fun k' hx hr hO' => b_shutP0_spec h hl hp hO') ?_
  rintro _ _ w rfl hO
  simp only [List.cons_append, List.nil_append] at hO
  refine K2 (K3 (K0 (K1 ?_)))
  refine l_y rfl rfl (y_move rfl) ?_
  refine l_y rfl rfl (D8 (cs := [.int .i64 1, .string nm, .string ⟨#[]⟩, .string ⟨#[]⟩, .int .i64 0, .bool false, .int .i32 0, .bool false, .slice none 0 0]) hO rfl) ?_
  refine CK [.b b, .o a, .o s] hO rfl (fun k' hx hr hO' => b_put_spec (kd := 1) (nm := nm) (ch := 0) h hne hnt hns hA hO') ?_
  rintro _ _ w ⟨p1, d1, rfl, rfl⟩ hO
  simp only [List.cons_append, List.nil_append] at hO
  refine K2 (K3 (K0 (K1 ?_)))
  refine l_y rfl rfl (y_assign rfl) ?_
  refine K2 (K3 (K6 ?_))
  exact fin1 rfl rfl ⟨_, ⟨p1, d1, rfl, rfl⟩, hO.only [.b b, .o a, .o s]⟩
theorem b_block1_spec {bb : Bool} {st2 : List Int} {ns2 : List ByteArray} (h : BI A K st ns) (h2 : BI A K st2 ns2) (hne : st2 ≠ []) (hi : scopeL A (namA A [pS]) 2 st = true) (hd : dropL (implA A pS) st = st) (hb : nmB A (topI st) pS = bb) (hp : (popTo (namA A [pS]) st).2 = st2) (h9 : q.errs ≤ 1000000000) (h0 : 0 ≤ q.errs) (hnt : inB nm templL = false ∧ inB nm tableL = false) (hns : nm.size ≤ 1000) (hA : A.length ≤ 30000) (hO : Own k w [blk b 65 (bC a s l r q), arenaL a A, stkL s a st]) :
    Tri Tryz.prog 158 #[.pointer (some ⟨b, 0, none⟩), .agg (Api_token.cells (tk 1 nm 0)).toArray] k w fun v m => ∃ p d, v = .bool false ∧ m = [blk b 65 (bC a s l r (if bb = true then q else faultQ q)), arenaL a (addA A (elementN p d 0 nm []) (topI st2)), stkL s a (st2 ++ [(A.length : Int)])] := by
  refine enter (args := [.pointer (some ⟨b, 0, none⟩), .agg (Api_token.cells (tk 1 nm 0)).toArray]) Tryz.func158 rfl rfl ?_
  have hl : st.length ≤ 1000000 := by have := h.len_st; omega
  refine K0 (K1 ?_)
  refine s_box (vs := [.int .i64 1, .string nm, .string ⟨#[]⟩, .string ⟨#[]⟩, .int .i64 0, .bool false, .int .i32 0, .bool false, .slice none 0 0]) hO rfl rfl rfl (by rfl) fun b3 w hO => ?_
  refine l_y rfl rfl (y_assign rfl) ?_
  refine K2 (K3 (K0 (K1 ?_)))
  refine l_y rfl rfl (y_move rfl) ?_
  refine CK [.b b, .o a, .o s] hO rfl (fun k' hx hr hO' => b_shutP1_spec h hl hi hd hb hp h9 h0 hO') ?_
  rintro _ _ w rfl hO
  simp only [List.cons_append, List.nil_append] at hO
  refine K2 (K3 (K0 (K1 ?_)))
  refine l_y rfl rfl (y_move rfl) ?_
  refine l_y rfl rfl (D8 (cs := [.int .i64 1, .string nm, .string ⟨#[]⟩, .string ⟨#[]⟩, .int .i64 0, .bool false, .int .i32 0, .bool false, .slice none 0 0]) hO rfl) ?_
  refine CK [.b b, .o a, .o s] hO rfl (fun k' hx hr hO' => b_put_spec (kd := 1) (nm := nm) (ch := 0) h2 hne hnt hns hA hO') ?_
  rintro _ _ w ⟨p1, d1, rfl, rfl⟩ hO
  simp only [List.cons_append, List.nil_append] at hO
  refine K2 (K3 (K0 (K1 ?_)))
  refine l_y rfl rfl (y_assign rfl) ?_
  refine K2 (K3 (K6 ?_))
  exact fin1 rfl rfl ⟨_, ⟨p1, d1, rfl, rfl⟩, hO.only [.b b, .o a, .o s]⟩
/-- nothing to open again: the last entry's node is open -/
theorem b_rebuild0_spec (hl : st.length ≤ 1000000) (hel : es.length ≤ 2000000) (hL : es = [] ∨ 0 ≤ findI st (at_ es (es.length - 1)).Node) (hO : Own k w [blk b 65 (bC a s l r q), stkL s a st, actL l a es]) :
    Tri Tryz.prog 108 #[.pointer (some ⟨b, 0, none⟩)] k w fun v m => m = [blk b 65 (bC a s l r q), stkL s a st, actL l a es] := by
  refine enter (args := [.pointer (some ⟨b, 0, none⟩)]) Tryz.func108 rfl rfl ?_
  refine K0 (K1 ?_)
  refine l_y rfl rfl (y_move rfl) ?_
  refine l_y rfl rfl (y_nilCheck rfl rfl) ?_
  refine l_y rfl rfl (y_fldb (o' := 2) rfl) ?_
  refine l_y rfl rfl (D5 hO rfl) ?_
  refine CK [.o l] hO rfl (fun k' hx hr hO' => aLen_spec (hO := hO')) ?_
  rintro _ _ w ⟨rfl, rfl⟩ hO
  simp only [List.cons_append, List.nil_append] at hO
  refine l_y rfl rfl (y_assign rfl) ?_
  refine K2 (K3 (K0 (K1 ?_)))
  refine l_y rfl rfl (y_move rfl) ?_
  refine l_y rfl rfl (y_assign rfl) ?_
  refine K2 (K3 (K0 (K4 ?_)))
  refine c_rounds (X := Unit) (fun u => [(0, .pointer (some ⟨b, 0, none⟩)), (2, .int .i64 ((es.length : Nat) : Int)), (3, .int .i64 ((es.length : Nat) : Int))]) (fun u w => Own k w [blk b 65 (bC a s l r q), stkL s a st, actL l a es] ∧ (True)) (fun u => 0) (()) ⟨rfl, rfl, rfl, trivial⟩ ⟨hO.only [.b b, .o s, .o l], trivial⟩ ?_
  rintro u w m hm ⟨hO, hT0⟩
  refine K0 (K0 (K1 ?_))
  refine l_y rfl rfl (y_move rfl) ?_
  refine Z0 (fun h2_1 => ?_) (fun h2_1 => ?_)
  · refine K2 (K3 (L8 (K5 (K3 (K4 (K0 (K1 ?_)))))))
    refine l_y rfl rfl (y_move rfl) ?_
    refine l_y rfl rfl (y_nilCheck rfl rfl) ?_
    refine l_y rfl rfl (y_fldb (o' := 2) rfl) ?_
    refine l_y rfl rfl (D5 hO rfl) ?_
    refine l_y rfl rfl (y_move rfl) ?_
    refine l_y rfl rfl (D4) ?_
    have hL := hL.resolve_left (by rintro rfl; exact absurd h2_1 (by decide))
    refine CK [.o l] hO rfl (fun k' hx hr hO' => aAt_spec (i := ((es.length : Nat) : Int) - 1) hel hO') ?_
    rintro _ _ w ⟨hv, rfl⟩ hO
    simp only [List.cons_append, List.nil_append] at hO
    obtain ⟨_, rfl⟩ := hv.resolve_left (fun hh => by omega)
    obtain ⟨e0, he0⟩ : ∃ e0, e0 = at_ es (((es.length : Nat) : Int) - 1).toNat := ⟨_, rfl⟩
    rw [← he0]
    have he1 : e0 = at_ es (es.length - 1) := by rw [he0]; congr 1; omega
    rw [← he1] at hL
    refine l_y rfl rfl (y_move rfl) ?_
    refine l_y rfl rfl (y_extract rfl rfl) ?_
    refine l_y rfl rfl (y_extract rfl rfl) ?_
    refine s_alloc (vs := [.int .i64 0, .int .i64 0, .string ⟨#[]⟩, .string ⟨#[]⟩, .string ⟨#[]⟩, .int .i64 0, .bool false, .int .i32 0, .bool false, .slice none 0 0]) hO rfl rfl rfl fun b4 w hO => ?_
    refine Y3 hO rfl rfl (fun w hO => ?_)
    refine l_y rfl rfl (y_assign rfl) ?_
    refine K2 (K3 (K0 (K0 ?_)))
    refine da_region (by intro c a d v w h; cases d <;> exact h) ?_
    have hO := hO.drew
    refine da_phase _ [10] (SO.ks [.b b4, .b b] hO) ?_
    refine dx_u 0 (by kernel_rfl) rfl rfl rfl (fun w => y_fldb (o' := 0) rfl) ?_
    refine dx_y 1 (by kernel_rfl) rfl rfl rfl (fun w ⟨m, hw⟩ => D5 hw rfl) ?_
    refine dx_u 2 (by kernel_rfl) rfl rfl rfl (fun w => y_cmpI rfl rfl rfl) ?_
    refine dx_u 3 (by kernel_rfl) rfl rfl rfl (fun w => y_move rfl) ?_
    refine dx_split 30 rfl (fun hg30 => ?_) (fun hg30 => ?_)
    · have h4_2 := of_decide_eq_true hg30
      refine dx_pass 4 (by kernel_rfl) rfl rfl rfl ?_
      refine dx_pass 5 (by kernel_rfl) rfl rfl rfl ?_
      refine dx_pass 6 (by kernel_rfl) rfl rfl rfl ?_
      refine dx_pass 7 (by kernel_rfl) rfl rfl rfl ?_
      refine dx_pass 8 (by kernel_rfl) rfl rfl rfl ?_
      refine dx_pass 9 (by kernel_rfl) rfl rfl rfl ?_
      refine dx_close 10 (by kernel_rfl) rfl rfl ?_
      refine M2 ?_
      refine o_done ?_
      refine da_phase _ [] (SO.ks [] hO) ?_
      refine dx_pass 11 (by kernel_rfl) rfl rfl rfl ?_
      refine dx_u 12 (by kernel_rfl) rfl rfl rfl (fun w => y_pick_t rfl rfl) ?_
      refine dx_end (by kernel_rfl) ?_
      refine K3 (L8 (K7 (L1 (L7 (L1 (L2 (K3 (K0 (K1 ?_)))))))))
      refine l_y rfl rfl (y_move rfl) ?_
      refine l_y rfl rfl (y_assign rfl) ?_
      refine K2 (K3 (K4 ?_))
      refine c_rounds (X := Unit) (fun u => [(0, .pointer (some ⟨b, 0, none⟩)), (2, .int .i64 ((es.length : Nat) : Int)), (6, .int .i64 ((es.length : Nat) : Int))]) (fun u w => Own k w [blk b 65 (bC a s l r q), stkL s a st, actL l a es] ∧ (True)) (fun u => 0) (()) ⟨rfl, rfl, rfl, trivial⟩ ⟨hO.only [.b b, .o s, .o l], trivial⟩ ?_
      rintro u w m hm ⟨hO, hT0⟩
      refine K0 (K0 (K1 ?_))
      refine l_y rfl rfl (y_move rfl) ?_
      refine l_y rfl rfl (y_move rfl) ?_
      refine N3 ?_
      refine K2 (K3 (L9 (K7 (L1 (L1 (L2 ?_))))))
      exact fin0 rfl ⟨_, rfl, hO.only [.b b, .o s, .o l]⟩
    · have h4_2 := of_decide_eq_false hg30
      refine dx_u 4 (by kernel_rfl) rfl rfl rfl (fun w => y_move rfl) ?_
      refine dx_u 5 (by kernel_rfl) rfl rfl rfl (fun w => y_nilCheck rfl rfl) ?_
      refine dx_u 6 (by kernel_rfl) rfl rfl rfl (fun w => y_fldb (o' := 1) rfl) ?_
      refine dx_y 7 (by kernel_rfl) rfl rfl rfl (fun w ⟨m, hw⟩ => D5 hw rfl) ?_
      refine dx_u 8 (by kernel_rfl) rfl rfl rfl (fun w => y_fldb (o' := 0) rfl) ?_
      refine dx_y 9 (by kernel_rfl) rfl rfl rfl (fun w ⟨m, hw⟩ => D5 hw rfl) ?_
      refine dx_close 10 (by kernel_rfl) rfl rfl ?_
      refine CK [.o s] hO rfl (fun k' hx hr hO' => sFindC_spec (x := e0.Node) hl hO') ?_
      rintro _ _ w ⟨rfl, rfl⟩ hO
      simp only [List.cons_append, List.nil_append] at hO
      refine o_done ?_
      refine da_phase _ [] (SO.ks [] hO) ?_
      refine dx_y 11 (by kernel_rfl) rfl rfl rfl (fun w ⟨m, hw⟩ => D0) ?_
      refine dx_u 12 (by kernel_rfl) rfl rfl rfl (fun w => y_pick_f rfl rfl) ?_
      refine dx_end (by kernel_rfl) ?_
      refine K3 (L8 (K7 (L1 (L7 (L1 (L2 (K3 (K0 (K1 ?_)))))))))
      refine l_y rfl rfl (y_move rfl) ?_
      refine l_y rfl rfl (y_assign rfl) ?_
      refine K2 (K3 (K4 ?_))
      refine c_rounds (X := Unit) (fun u => [(0, .pointer (some ⟨b, 0, none⟩)), (2, .int .i64 ((es.length : Nat) : Int)), (6, .int .i64 ((es.length : Nat) : Int))]) (fun u w => Own k w [blk b 65 (bC a s l r q), stkL s a st, actL l a es] ∧ (True)) (fun u => 0) (()) ⟨rfl, rfl, rfl, trivial⟩ ⟨hO.only [.b b, .o s, .o l], trivial⟩ ?_
      rintro u w m hm ⟨hO, hT0⟩
      refine K0 (K0 (K1 ?_))
      refine l_y rfl rfl (y_move rfl) ?_
      refine l_y rfl rfl (y_move rfl) ?_
      refine N3 ?_
      refine K2 (K3 (L9 (K7 (L1 (L1 (L2 ?_))))))
      exact fin0 rfl ⟨_, rfl, hO.only [.b b, .o s, .o l]⟩
  · refine K2 (K3 (L9 (K7 (L1 (L1 (L2 (K3 (K0 (K1 ?_)))))))))
    refine l_y rfl rfl (y_move rfl) ?_
    refine l_y rfl rfl (y_assign rfl) ?_
    refine K2 (K3 (K4 ?_))
    refine c_rounds (X := Unit) (fun u => [(0, .pointer (some ⟨b, 0, none⟩)), (2, .int .i64 ((es.length : Nat) : Int)), (6, .int .i64 ((es.length : Nat) : Int))]) (fun u w => Own k w [blk b 65 (bC a s l r q), stkL s a st, actL l a es] ∧ (True)) (fun u => 0) (()) ⟨rfl, rfl, rfl, trivial⟩ ⟨hO.only [.b b, .o s, .o l], trivial⟩ ?_
    rintro u w m hm ⟨hO, hT0⟩
    refine K0 (K0 (K1 ?_))
    refine l_y rfl rfl (y_move rfl) ?_
    refine l_y rfl rfl (y_move rfl) ?_
    refine N3 ?_
    refine K2 (K3 (L9 (K7 (L1 (L1 (L2 ?_))))))
    exact fin0 rfl ⟨_, rfl, hO.only [.b b, .o s, .o l]⟩
end
end Go.Proofs.YtpejdlfkaaiehaaGreatDoor
end
section
set_option linter.unusedVariables false
set_option linter.unusedSimpArgs false
set_option maxRecDepth 100000
namespace Go.Proofs.YtpejdlfkaaiehaaGreatDoor
open Go Go.Hb Go.RowKit
theorem nodup_set : ∀ {l : List Int} {i : Nat} {x : Int}, l.Nodup → x ∉ l → (l.set i x).Nodup
  | [], _, _, _, _ => by simp
  | y :: l, 0, x, h, hx => by
    rw [List.set_cons_zero, List.nodup_cons]
    exact ⟨fun hm => hx (List.mem_cons_of_mem _ hm), (List.nodup_cons.1 h).2⟩
  | y :: l, i + 1, x, h, hx => by
    rw [List.set_cons_succ, List.nodup_cons]
    obtain ⟨h1, h2⟩ := List.nodup_cons.1 h
    refine ⟨fun hm => ?_, nodup_set h2 fun hm => hx (List.mem_cons_of_mem _ hm)⟩
    rcases List.mem_or_eq_of_mem_set hm with hm | hm
    · exact h1 hm
    · exact hx (by rw [← hm]; simp)
section
variable {A : List Node_one} {K : Int → List Int} {es : List Api_entry} {nm : ByteArray} {up : Int} {n : Api_node}
theorem AL.add (h : AL A es nm) (g : AddOk A K n up) : AL (addA A n up) es nm := h.ext fun x hx => ⟨addA_in hx, addA_old g hx⟩
theorem findE_at (h : AL A es nm) {i : Nat} (hi : i < es.length) : findE es (at_ es i).Node = (i : Int) := by
  rw [findE, if_neg (h.ne _ (at_mem hi))]
  rcases idx_cases (fun y : Api_entry => decide (y.Node = (at_ es i).Node)) es with ⟨_, h2⟩ | ⟨j, e, hj, h3, _⟩
  · exact absurd (h2 i hi) (by simp)
  · rw [e]
    have h4 := of_decide_eq_true h3
    have e1 : (es.map (·.Node))[j]? = some (at_ es j).Node := by rw [List.getElem?_map, at_get hj]; rfl
    have e2 : (es.map (·.Node))[i]? = some (at_ es i).Node := by rw [List.getElem?_map, at_get hi]; rfl
    have hji : j = i := (List.getElem?_inj (by rw [List.length_map]; exact hj) h.nodup).1 (by rw [e1, e2, h4])
    rw [hji]
theorem AL.swap (h : AL A es nm) {i : Nat} (hi : i < es.length) {id : Int} (hel : elB A id = true) (h2 : (nd A id).Name = nm) (h3 : (nd A id).Space = 0) (hn : ∀ e ∈ es, e.Node ≠ id) :
    swapE A es (at_ es i).Node id = (0, es.set i ⟨id, tk 1 nm 0⟩) ∧ AL A (es.set i ⟨id, tk 1 nm 0⟩) nm := by
  have hf := findE_at h hi
  have hfr : freshF A es id = 0 := by rw [freshF, hel, if_neg (by simp), if_neg (by have := findE_none hn; omega)]
  have e4 := (h.one _ (at_mem hi)).2.2.2
  refine ⟨?_, ⟨fun e he => ?_, ?_⟩⟩
  · rw [swapE, hf, if_neg (by rw [hel]; simp), if_pos hfr, Int.toNat_natCast]
    dsimp only
    rw [e4]
  · rcases List.mem_or_eq_of_mem_set he with he | rfl
    · exact h.one e he
    · exact ⟨hel, h2, h3, rfl⟩
  · rw [List.map_set]
    refine nodup_set h.nodup fun hm => ?_
    obtain ⟨e, he, h5⟩ := List.mem_map.1 hm
    exact hn e he h5
theorem new_el {q : Option Addr} {d : Nat} (g : AddOk A K (elementN q d 0 nm []) up) : elB (addA A (elementN q d 0 nm []) up) (A.length : Int) = true ∧ (nd (addA A (elementN q d 0 nm []) up) (A.length : Int)).Name = nm ∧ (nd (addA A (elementN q d 0 nm []) up) (A.length : Int)).Space = 0 := by
  have hc := addA_new g
  exact ⟨elB_of ⟨by omega, by rw [addA_len]; omega⟩ (core_kind hc), core_name hc, core_space hc⟩
theorem AL.old (h : AL A es nm) : ∀ e ∈ es, e.Node ≠ (A.length : Int) := fun e he c => by
  have := (elB_in (h.one e he).1).2; omega
theorem addKK_new (hu : InA A up) : addKK A K up (A.length : Int) = [] := by
  rw [addKK, linkK, if_neg (by have := hu.2; omega), addK, if_pos rfl]
/-- half of the entries are open again -/
structure RB (A0 : List Node_one) (n0 : Nat) (st0 : List Int) (ns0 : List ByteArray) (nm : ByteArray) (i : Nat) (A : List Node_one) (K : Int → List Int) (st : List Int) (es : List Api_entry) : Prop where
  bi : BI A K st (ns0 ++ List.replicate i nm)
  al : AL A es nm
  len : es.length = n0
  stk : st.length = st0.length + i
  top : K (topI st) = []
  tz : topI st ≠ 0
  mx : A.length = A0.length + i
  ne : st ≠ []
end
section
variable {k : Ctx} {w : World} {b a s l r : Nat} {q : BQ} {A : List Node_one} {K : Int → List Int} {st : List Int} {ns : List ByteArray} {nm : ByteArray} {es : List Api_entry}
set_option maxHeartbeats 1000000 in
theorem b_formatting_spec (h : BI A K st ns) (hne : st ≠ []) (hal : AL A es nm) (hL : es = [] ∨ 0 ≤ findI st (at_ es (es.length - 1)).Node) (hel : es.length ≤ 2000000) (ha : nm ≠ ⟨#[97]⟩) (hb : nm ≠ ⟨#[110, 111, 98, 114]⟩) (hnt : inB nm templL = false ∧ inB nm tableL = false) (hns : nm.size ≤ 1000) (hA : A.length ≤ 30000) (hO : Own k w [blk b 65 (bC a s l r q), arenaL a A, stkL s a st, actL l a es]) :
    Tri Tryz.prog 160 #[.pointer (some ⟨b, 0, none⟩), .agg (Api_token.cells (tk 1 nm 0)).toArray] k w fun v m => ∃ p d, v = .bool false ∧ m = [blk b 65 (bC a s l r q), arenaL a (addA A (elementN p d 0 nm []) (topI st)), stkL s a (st ++ [(A.length : Int)]), actL l a (pushE (addA A (elementN p d 0 nm []) (topI st)) es ⟨A.length, tk 1 nm 0⟩)] := by
  refine enter (args := [.pointer (some ⟨b, 0, none⟩), .agg (Api_token.cells (tk 1 nm 0)).toArray]) Tryz.func160 rfl rfl ?_
  have hl : st.length ≤ 1000000 := by have := h.len_st; omega
  refine K0 (K1 ?_)
  refine s_box (vs := [.int .i64 1, .string nm, .string ⟨#[]⟩, .string ⟨#[]⟩, .int .i64 0, .bool false, .int .i32 0, .bool false, .slice none 0 0]) hO rfl rfl rfl (by rfl) fun b3 w hO => ?_
  refine l_y rfl rfl (y_assign rfl) ?_
  refine K2 (K3 (K0 (K0 (K1 ?_))))
  refine l_y rfl rfl (y_fldb (o' := 0) rfl) ?_
  refine l_y rfl rfl (y_fldb (o' := 1) rfl) ?_
  refine l_y rfl rfl (D5 hO rfl) ?_
  refine K2 (K3 (K4 (K0 (K1 ?_))))
  refine N7 (hp := ha) ?_
  refine l_y rfl rfl (y_assign rfl) ?_
  refine K2 (K3 (L9 (K0 (K1 ?_))))
  refine N7 (hp := hb) ?_
  refine l_y rfl rfl (y_assign rfl) ?_
  refine K2 (K3 (L9 (K5 (K8 (K3 (K0 (K1 ?_)))))))
  refine l_y rfl rfl (y_move rfl) ?_
  refine CK [.b b, .o s, .o l] hO rfl (fun k' hx hr hO' => b_rebuild0_spec hl hel hL hO') ?_
  rintro _ _ w rfl hO
  simp only [List.cons_append, List.nil_append] at hO
  refine K2 (K3 (K0 ?_))
  refine da_region (by intro c a d v w h; cases d <;> exact h) ?_
  have hO := hO.drew
  refine da_phase _ [9] (SO.ks [.b b, .b b3] hO) ?_
  refine dx_u 0 (by kernel_rfl) rfl rfl rfl (fun w => y_move rfl) ?_
  refine dx_u 1 (by kernel_rfl) rfl rfl rfl (fun w => y_nilCheck rfl rfl) ?_
  refine dx_u 2 (by kernel_rfl) rfl rfl rfl (fun w => y_fldb (o' := 2) rfl) ?_
  refine dx_y 3 (by kernel_rfl) rfl rfl rfl (fun w ⟨m, hw⟩ => D5 hw rfl) ?_
  refine dx_u 4 (by kernel_rfl) rfl rfl rfl (fun w => y_move rfl) ?_
  refine dx_y 5 (by kernel_rfl) rfl rfl rfl (fun w ⟨m, hw⟩ => D8 (cs := [.int .i64 1, .string nm, .string ⟨#[]⟩, .string ⟨#[]⟩, .int .i64 0, .bool false, .int .i32 0, .bool false, .slice none 0 0]) hw rfl) ?_
  refine dx_u 7 (by kernel_rfl) rfl rfl rfl (fun w => y_fldb (o' := 0) rfl) ?_
  refine dx_y 8 (by kernel_rfl) rfl rfl rfl (fun w ⟨m, hw⟩ => D8 (cs := [.int .i64 1, .string nm, .string ⟨#[]⟩, .string ⟨#[]⟩, .int .i64 0, .bool false, .int .i32 0, .bool false, .slice none 0 0]) hw rfl) ?_
  refine dx_only 6 (by kernel_rfl) rfl rfl ?_
  refine CK [.b b, .o a, .o s] hO rfl (fun k' hx hr hO' => b_put_spec (kd := 1) (nm := nm) (ch := 0) h hne hnt hns hA hO') ?_
  rintro _ _ w ⟨p1, d1, rfl, rfl⟩ hO
  simp only [List.cons_append, List.nil_append] at hO
  have g : AddOk A K (elementN p1 d1 0 nm []) (topI st) := h.addOk hne ⟨show (1 : Int) ≠ 0 by decide, show (1 : Int) ≠ 5 by decide⟩ (Nat.zero_le _)
  have hal2 := hal.add g
  obtain ⟨e1, e2, e3⟩ := new_el g
  obtain ⟨_, _, hfr, _⟩ := hal2.push e1 e2 e3 hal.old
  refine o_done ?_
  refine ⟨SO.ks [.b b, .b b3] hO, ?_⟩
  refine dx_close 9 (by kernel_rfl) rfl rfl ?_
  refine CK [.o a, .o l] hO rfl (fun k' hx hr hO' => aPush_spec (id := (A.length : Int)) (tk := tk 1 nm 0) (by rw [addA_len]; omega) (addA_tree g).attrs hel (fun e he _ => elB_has (hal2.one e he).1) hal2.eok ⟨Sli.nil rfl, Nat.zero_le _⟩ hO') ?_
  rintro _ _ w ⟨rfl, rfl⟩ hO
  simp only [List.cons_append, List.nil_append] at hO
  rw [hfr, if_pos rfl] at hO
  refine o_done ?_
  refine da_end (by kernel_rfl) ?_
  refine K3 (K0 (K1 ?_))
  refine l_y rfl rfl (y_assign rfl) ?_
  refine K2 (K3 (K6 ?_))
  exact fin1 rfl rfl ⟨_, ⟨p1, d1, rfl, rfl⟩, hO.only [.b b, .o a, .o s, .o l]⟩
set_option maxHeartbeats 2000000 in
/-- all entries' elements are opened again -/
theorem b_rebuild1_spec (h : BI A K st ns) (hne : st ≠ []) (hK : K (topI st) = []) (hz : topI st ≠ 0) (hal : AL A es nm) (hno : ∀ e ∈ es, e.Node ∉ st) (hnt : inB nm templL = false ∧ inB nm tableL = false) (hns : nm.size ≤ 1000) (hes : es.length ≤ 3) (hA : A.length ≤ 20000) (hO : Own k w [blk b 65 (bC a s l r q), arenaL a A, stkL s a st, actL l a es]) :
    Tri Tryz.prog 108 #[.pointer (some ⟨b, 0, none⟩)] k w fun v m => ∃ A2 K2 st2 es2, RB A es.length st ns nm es.length A2 K2 st2 es2 ∧ m = [blk b 65 (bC a s l r q), arenaL a A2, stkL s a st2, actL l a es2] := by
  refine enter (args := [.pointer (some ⟨b, 0, none⟩)]) Tryz.func108 rfl rfl ?_
  have hl : st.length ≤ 1000000 := by have := h.len_st; omega
  refine K0 (K1 ?_)
  refine l_y rfl rfl (y_move rfl) ?_
  refine l_y rfl rfl (y_nilCheck rfl rfl) ?_
  refine l_y rfl rfl (y_fldb (o' := 2) rfl) ?_
  refine l_y rfl rfl (D5 hO rfl) ?_
  refine CK [.o l] hO rfl (fun k' hx hr hO' => aLen_spec (hO := hO')) ?_
  rintro _ _ w ⟨rfl, rfl⟩ hO
  simp only [List.cons_append, List.nil_append] at hO
  refine l_y rfl rfl (y_assign rfl) ?_
  refine K2 (K3 (K0 (K1 ?_)))
  refine l_y rfl rfl (y_move rfl) ?_
  refine l_y rfl rfl (y_assign rfl) ?_
  refine K2 (K3 (K0 (K4 ?_)))
  refine c_rounds (X := Int) (fun x => [(0, .pointer (some ⟨b, 0, none⟩)), (2, .int .i64 ((es.length : Nat) : Int)), (3, .int .i64 x)]) (fun x w => Own k w [blk b 65 (bC a s l r q), arenaL a A, stkL s a st, actL l a es] ∧ (0 ≤ x ∧ x ≤ ((es.length : Nat) : Int))) (fun x => x.toNat) (((es.length : Nat) : Int)) ⟨rfl, rfl, rfl, trivial⟩ ⟨hO.only [.b b, .o a, .o s, .o l], ⟨by omega, Int.le_refl _⟩⟩ ?_
  rintro x w m hm ⟨hO, hx⟩
  refine K0 (K0 (K1 ?_))
  refine l_y rfl rfl (y_move rfl) ?_
  refine Z0 (fun h2_1 => ?_) (fun h2_1 => ?_)
  · refine K2 (K3 (L8 (K5 (K3 (K4 (K0 (K1 ?_)))))))
    refine l_y rfl rfl (y_move rfl) ?_
    refine l_y rfl rfl (y_nilCheck rfl rfl) ?_
    refine l_y rfl rfl (y_fldb (o' := 2) rfl) ?_
    refine l_y rfl rfl (D5 hO rfl) ?_
    refine l_y rfl rfl (y_move rfl) ?_
    refine l_y rfl rfl (D4) ?_
    refine CK [.o l] hO rfl (fun k' hx hr hO' => aAt_spec (i := x - 1) (by omega) hO') ?_
    rintro _ _ w ⟨hv, rfl⟩ hO
    simp only [List.cons_append, List.nil_append] at hO
    obtain ⟨hv1, rfl⟩ := hv.resolve_left (fun hh => by omega)
    obtain ⟨e0, he0⟩ : ∃ e0, e0 = at_ es (x - 1).toNat := ⟨_, rfl⟩
    have hm0 : e0 ∈ es := by rw [he0]; exact at_mem (by omega)
    rw [← he0]
    have hf0 : findI st e0.Node < 0 := by
      rcases idx_cases (fun y => decide (y = e0.Node)) st with ⟨e, _⟩ | ⟨i, e, h2, h3, _⟩
      · unfold findI; omega
      · exact absurd (at_mem h2) (by have := of_decide_eq_true h3; rw [this]; exact hno e0 hm0)
    refine l_y rfl rfl (y_move rfl) ?_
    refine l_y rfl rfl (y_extract rfl rfl) ?_
    refine l_y rfl rfl (y_extract rfl rfl) ?_
    refine s_alloc (vs := [.int .i64 0, .int .i64 0, .string ⟨#[]⟩, .string ⟨#[]⟩, .string ⟨#[]⟩, .int .i64 0, .bool false, .int .i32 0, .bool false, .slice none 0 0]) hO rfl rfl rfl fun b4 w hO => ?_
    refine Y3 hO rfl rfl (fun w hO => ?_)
    refine l_y rfl rfl (y_assign rfl) ?_
    refine K2 (K3 (K0 (K0 ?_)))
    refine da_region (by intro c a d v w h; cases d <;> exact h) ?_
    have hO := hO.drew
    refine da_phase _ [10] (SO.ks [.b b4, .b b] hO) ?_
    refine dx_u 0 (by kernel_rfl) rfl rfl rfl (fun w => y_fldb (o' := 0) rfl) ?_
    refine dx_y 1 (by kernel_rfl) rfl rfl rfl (fun w ⟨m, hw⟩ => D5 hw rfl) ?_
    refine dx_y 2 (by kernel_rfl) rfl rfl rfl (fun w ⟨m, hw⟩ => D1 (hp := (hal.ne e0 hm0))) ?_
    refine dx_u 3 (by kernel_rfl) rfl rfl rfl (fun w => y_move rfl) ?_
    refine dx_u 4 (by kernel_rfl) rfl rfl rfl (fun w => y_move rfl) ?_
    refine dx_u 5 (by kernel_rfl) rfl rfl rfl (fun w => y_nilCheck rfl rfl) ?_
    refine dx_u 6 (by kernel_rfl) rfl rfl rfl (fun w => y_fldb (o' := 1) rfl) ?_
    refine dx_y 7 (by kernel_rfl) rfl rfl rfl (fun w ⟨m, hw⟩ => D5 hw rfl) ?_
    refine dx_u 8 (by kernel_rfl) rfl rfl rfl (fun w => y_fldb (o' := 0) rfl) ?_
    refine dx_y 9 (by kernel_rfl) rfl rfl rfl (fun w ⟨m, hw⟩ => D5 hw rfl) ?_
    refine dx_close 10 (by kernel_rfl) rfl rfl ?_
    refine CK [.o s] hO rfl (fun k' hx hr hO' => sFindC_spec (x := e0.Node) hl hO') ?_
    rintro _ _ w ⟨rfl, rfl⟩ hO
    simp only [List.cons_append, List.nil_append] at hO
    refine o_done ?_
    refine da_phase _ [] (SO.ks [] hO) ?_
    refine dx_y 11 (by kernel_rfl) rfl rfl rfl (fun w ⟨m, hw⟩ => D1) ?_
    refine dx_u 12 (by kernel_rfl) rfl rfl rfl (fun w => y_pick_f rfl rfl) ?_
    refine dx_end (by kernel_rfl) ?_
    refine K3 (L9 (K5 (K3 (K1 ?_))))
    refine l_y rfl rfl (y_move rfl) ?_
    refine l_y rfl rfl (D4) ?_
    refine l_y rfl rfl (y_assign rfl) ?_
    refine K2 (K8 ?_)
    exact q_next ((x - 1)) ⟨rfl, rfl, rfl, trivial⟩ ⟨hO.only [.b b, .o a, .o s, .o l], ⟨by omega, by omega⟩⟩ (by omega)
  · refine K2 (K3 (L9 (K7 (L1 (L1 (L2 (K3 (K0 ?_))))))))
    have hx0 : x = 0 := by omega
    subst hx0
    refine K1 ?_
    refine l_y rfl rfl (y_move rfl) ?_
    refine l_y rfl rfl (y_assign rfl) ?_
    refine K2 (K3 (K4 ?_))
    refine c_rounds (X := Nat × List Node_one × (Int → List Int) × List Int × List Api_entry) (fun y => [(0, .pointer (some ⟨b, 0, none⟩)), (2, .int .i64 ((es.length : Nat) : Int)), (6, .int .i64 (y.1 : Int))]) (fun y w => Own k w [blk b 65 (bC a s l r q), arenaL a y.2.1, stkL s a y.2.2.2.1, actL l a y.2.2.2.2] ∧ (y.1 ≤ es.length) ∧ (RB A es.length st ns nm y.1 y.2.1 y.2.2.1 y.2.2.2.1 y.2.2.2.2)) (fun y => es.length - y.1) ((0, A, K, st, es)) ⟨rfl, rfl, rfl, trivial⟩ ⟨hO.only [.b b, .o a, .o s, .o l], Nat.zero_le _, ⟨by simpa using h, hal, rfl, rfl, hK, hz, rfl, hne⟩⟩ ?_
    rintro y w m hm ⟨hO, hy, hR⟩
    refine K0 (K0 (K1 ?_))
    refine l_y rfl rfl (y_move rfl) ?_
    refine l_y rfl rfl (y_move rfl) ?_
    refine Z0 (fun h7_2 => ?_) (fun h7_2 => ?_)
    · refine K2 (K3 (L8 (K5 (K3 (K0 (K4 (K0 (K1 ?_))))))))
      refine l_y rfl rfl (y_move rfl) ?_
      refine l_y rfl rfl (y_nilCheck rfl rfl) ?_
      refine l_y rfl rfl (y_fldb (o' := 2) rfl) ?_
      refine l_y rfl rfl (D5 hO rfl) ?_
      refine l_y rfl rfl (y_move rfl) ?_
      have hyl := hR.len
      have hmx := hR.mx
      refine CK [.o l] hO rfl (fun k' hx hr hO' => aAt_spec (i := ((y.1 : Nat) : Int)) (by omega) hO') ?_
      rintro _ _ w ⟨hv, rfl⟩ hO
      simp only [List.cons_append, List.nil_append] at hO
      obtain ⟨hv1, rfl⟩ := hv.resolve_left (fun hh => by omega)
      have hm0 : at_ y.2.2.2.2 y.1 ∈ y.2.2.2.2 := at_mem (by omega)
      obtain ⟨e0, he0⟩ : ∃ e0, e0 = at_ y.2.2.2.2 y.1 := ⟨_, rfl⟩
      have ht0 : e0.Token = tk 1 nm 0 := by rw [he0]; exact (hR.al.one _ hm0).2.2.2
      rw [show at_ y.2.2.2.2 ((y.1 : Nat) : Int).toNat = e0 from he0.symm]
      obtain ⟨n0, t0⟩ := e0
      obtain rfl : t0 = tk 1 nm 0 := ht0
      have hn0 : (at_ y.2.2.2.2 y.1).Node = n0 := by rw [← he0]
      refine l_y rfl rfl (y_move rfl) ?_
      refine l_y rfl rfl (y_extract rfl rfl) ?_
      refine l_y rfl rfl (y_extract rfl rfl) ?_
      refine s_alloc (vs := [.int .i64 0, .int .i64 0, .string ⟨#[]⟩, .string ⟨#[]⟩, .string ⟨#[]⟩, .int .i64 0, .bool false, .int .i32 0, .bool false, .slice none 0 0]) hO rfl rfl rfl fun b7 w hO => ?_
      refine Y3 hO rfl rfl (fun w hO => ?_)
      refine l_y rfl rfl (y_assign rfl) ?_
      refine K2 (K3 ?_)
      refine da_region (by intro c a d v w h; cases d <;> exact h) ?_
      have hO := hO.drew
      refine da_phase _ [11] (SO.ks [.b b, .b b7] hO) ?_
      refine dx_u 0 (by kernel_rfl) rfl rfl rfl (fun w => y_move rfl) ?_
      refine dx_u 1 (by kernel_rfl) rfl rfl rfl (fun w => y_nilCheck rfl rfl) ?_
      refine dx_u 2 (by kernel_rfl) rfl rfl rfl (fun w => y_fldb (o' := 2) rfl) ?_
      refine dx_y 3 (by kernel_rfl) rfl rfl rfl (fun w ⟨m, hw⟩ => D5 hw rfl) ?_
      refine dx_u 4 (by kernel_rfl) rfl rfl rfl (fun w => y_fldb (o' := 0) rfl) ?_
      refine dx_y 5 (by kernel_rfl) rfl rfl rfl (fun w ⟨m, hw⟩ => D5 hw rfl) ?_
      refine dx_u 6 (by kernel_rfl) rfl rfl rfl (fun w => y_move rfl) ?_
      refine dx_u 7 (by kernel_rfl) rfl rfl rfl (fun w => y_fldb (o' := 1) rfl) ?_
      refine dx_y 8 (by kernel_rfl) rfl rfl rfl (fun w ⟨m, hw⟩ => D8 (cs := [.int .i64 1, .string nm, .string ⟨#[]⟩, .string ⟨#[]⟩, .int .i64 0, .bool false, .int .i32 0, .bool false, .slice none 0 0]) hw rfl) ?_
      refine dx_only 9 (by kernel_rfl) rfl rfl ?_
      refine s_build (parts := [(0, .tmp 65)]) (cs := [.int .i64 1, .string nm, .string ⟨#[]⟩, .string ⟨#[]⟩, .int .i64 0, .bool false, .int .i32 0, .bool false, .slice none 0 0]) rfl rfl (fun a ha => partsOf_sound ha _ _ rfl) (by kernel_rfl) ?_
      refine o_done ?_
      refine ⟨SO.ks [.b b, .b b7] hO, ?_⟩
      refine dx_only 10 (by kernel_rfl) rfl rfl ?_
      refine CK [.b b, .o a, .o s] hO rfl (fun k' hx hr hO' => b_put_spec (kd := 1) (nm := nm) (ch := 0) hR.bi hR.ne hnt hns (by omega) hO') ?_
      rintro _ _ w ⟨p1, d1, rfl, rfl⟩ hO
      simp only [List.cons_append, List.nil_append] at hO
      have g : AddOk y.2.1 y.2.2.1 (elementN p1 d1 0 nm []) (topI y.2.2.2.1) := hR.bi.addOk hR.ne ⟨show (1 : Int) ≠ 0 by decide, show (1 : Int) ≠ 5 by decide⟩ (Nat.zero_le _)
      have hal2 := hR.al.add g
      obtain ⟨e1, e2, e3⟩ := new_el g
      have hsw := hal2.swap (i := y.1) (by omega) e1 e2 e3 hR.al.old
      have hb2 := hR.bi.push g hnt
      rw [hn0] at hsw
      refine o_done ?_
      refine ⟨SO.ks [.b b, .b b7] hO, ?_⟩
      refine dx_close 11 (by kernel_rfl) rfl rfl ?_
      refine CK [.o a, .o l] hO rfl (fun k' hx hr hO' => aSwap_spec (old := n0) (id := (y.2.1.length : Int)) (by rw [addA_len]; omega) (addA_tree g).attrs (by omega) hO') ?_
      rintro _ _ w ⟨rfl, rfl⟩ hO
      simp only [List.cons_append, List.nil_append] at hO
      rw [hsw.1] at hO
      refine o_done ?_
      refine da_end (by kernel_rfl) ?_
      refine K8 (K3 (K1 ?_))
      refine l_y rfl rfl (y_move rfl) ?_
      refine l_y rfl rfl (D4) ?_
      refine l_y rfl rfl (y_assign rfl) ?_
      refine K2 ?_
      exact q_next ((y.1 + 1, addA y.2.1 (elementN p1 d1 0 nm []) (topI y.2.2.2.1), addKK y.2.1 y.2.2.1 (topI y.2.2.2.1), y.2.2.2.1 ++ [(y.2.1.length : Int)], y.2.2.2.2.set y.1 ⟨y.2.1.length, tk 1 nm 0⟩)) ⟨rfl, rfl, rfl, trivial⟩ ⟨hO.only [.b b, .o a, .o s, .o l], by dsimp only; omega, ⟨by dsimp only; have := hb2.1; rwa [List.append_assoc, ← List.replicate_succ'] at this, hsw.2, by rw [List.length_set]; exact hR.len, by dsimp only; rw [List.length_append, hR.stk]; rfl, by dsimp only; rw [topI_snoc]; exact addKK_new (elB_in (hR.bi.top hR.ne).1), by dsimp only; rw [topI_snoc]; have := hR.bi.pos; omega, by dsimp only; rw [addA_len, hR.mx]; rfl, by simp⟩⟩ (by dsimp only; omega)
    · refine K2 (K3 (L9 (K7 (L1 (L1 (L2 ?_))))))
      have e : y.1 = es.length := by omega
      rw [e] at hR
      exact fin0 rfl ⟨_, ⟨_, _, _, _, hR, rfl⟩, hO.only [.b b, .o a, .o s, .o l]⟩
end
end Go.Proofs.YtpejdlfkaaiehaaGreatDoor
end
section
set_option linter.unusedVariables false
set_option linter.unusedSimpArgs false
set_option maxRecDepth 100000
namespace Go.Proofs.YtpejdlfkaaiehaaGreatDoor
open Go Go.Hb Go.RowKit
section
variable {k : Ctx} {w : World} {b a s l r : Nat} {q : BQ} {A : List Node_one} {K : Int → List Int} {st : List Int} {ns : List ByteArray} {nm : ByteArray} {es : List Api_entry}
theorem startsL_size : ∀ g ∈ startsL, g.names.size < 1000000 := by decide
set_option maxHeartbeats 1000000 in
theorem b_inBody1_spec {j : Nat} {f : FuncId} [hF : Fun Tryz.prog f] {R : Value → List HP → Prop} (hsn : (decide ((1 : Int) = 1) && oneB nm ⟨#[110, 111, 115, 99, 114, 105, 112, 116]⟩) = false) (hj : j < 10) (hno : ∀ i, i < j → oneB nm (at_ startsL i).names = false) (hyes : oneB nm (at_ startsL j).names = true) (hf : (at_ startsL j).f = f)
    (hcall : ∀ k' w', Own k' w' [blk b 65 (bC a s l r q), arenaL a A, stkL s a st, actL l a es] → Tri Tryz.prog f #[.pointer (some ⟨b, 0, none⟩), .agg (Api_token.cells (tk 1 nm 0)).toArray] k' w' R) (hO : Own k w [blk b 65 (bC a s l r q), arenaL a A, stkL s a st, actL l a es]) :
    Tri Tryz.prog 48 #[.pointer (some ⟨b, 0, none⟩), .agg (Api_token.cells (tk 1 nm 0)).toArray] k w R := by
  refine enter (args := [.pointer (some ⟨b, 0, none⟩), .agg (Api_token.cells (tk 1 nm 0)).toArray]) Tryz.func48 rfl rfl ?_
  have hlen : startsL.length = 10 := rfl
  refine K0 (K1 ?_)
  refine s_box (vs := [.int .i64 1, .string nm, .string ⟨#[]⟩, .string ⟨#[]⟩, .int .i64 0, .bool false, .int .i32 0, .bool false, .slice none 0 0]) hO rfl rfl rfl (by rfl) fun b3 w hO => ?_
  refine l_y rfl rfl (y_assign rfl) ?_
  refine K2 (K3 (K0 (K1 ?_)))
  refine CK [] hO rfl (fun k' hx hr hO' => starts_spec hO') ?_
  rintro _ _ w ⟨g1, rfl, rfl⟩ hO
  simp only [List.cons_append, List.nil_append] at hO
  have hO : Own k w (sls (some ⟨g1, 0, none⟩) 10 129 2 Grp.cells startsL :: _) := hO
  refine l_y rfl rfl (y_assign rfl) ?_
  refine l_y rfl rfl (y_assign rfl) ?_
  refine K2 (K3 (K0 (K0 (K1 ?_))))
  refine l_y rfl rfl (y_fldb (o' := 0) rfl) ?_
  refine l_y rfl rfl (y_fldb (o' := 0) rfl) ?_
  refine l_y rfl rfl (D5 hO rfl) ?_
  refine K2 (K3 (K4 (K0 (K1 ?_))))
  refine N3 ?_
  refine l_y rfl rfl (y_assign rfl) ?_
  refine K2 (K3 (L9 (K0 (K1 ?_))))
  refine N3 ?_
  refine l_y rfl rfl (y_assign rfl) ?_
  refine K2 (K3 (L9 (K0 (K1 ?_))))
  refine N3 ?_
  refine l_y rfl rfl (y_assign rfl) ?_
  refine K2 (K3 (L9 (K0 (K1 ?_))))
  refine N3 ?_
  refine l_y rfl rfl (y_assign rfl) ?_
  refine K2 (K3 (L9 (K0 (K1 ?_))))
  refine N3 ?_
  refine l_y rfl rfl (y_assign rfl) ?_
  refine K2 (K3 (L9 (K5 (K8 (K3 (K0 (K0 (K1 ?_))))))))
  refine l_y rfl rfl (D8 (cs := [.int .i64 1, .string nm, .string ⟨#[]⟩, .string ⟨#[]⟩, .int .i64 0, .bool false, .int .i32 0, .bool false, .slice none 0 0]) hO rfl) ?_
  refine CK [] hO rfl (fun k' hx hr hO' => t_start_spec (kd := 1) (nm := nm) (ch := 0) (b := false) (by decide) hsn hO') ?_
  rintro _ _ w ⟨rfl, rfl⟩ hO
  simp only [List.cons_append, List.nil_append] at hO
  refine l_y rfl rfl (y_move rfl) ?_
  repeat refine M2 ?_
  refine l_y rfl rfl (y_pick_f rfl rfl) ?_
  refine K2 (K3 (L9 (K5 (K3 (K0 (K0 (K1 ?_)))))))
  refine l_y rfl rfl (y_move rfl) ?_
  refine l_y rfl rfl (y_lenL rfl) ?_
  refine l_y rfl rfl (y_move rfl) ?_
  refine K2 (K3 (K4 ?_))
  refine c_rounds (X := Nat) (fun i => [(0, .pointer (some ⟨b, 0, none⟩)), (3, .pointer (some ⟨b3, 0, none⟩)), (4, .bool false), (6, .func (.func 107) #[] #[]), (82, .slice (some ⟨g1, 0, none⟩) 10 10), (83, .int .i64 10), (84, .int .i64 (i : Int))]) (fun i w => Own k w [blk b 65 (bC a s l r q), arenaL a A, stkL s a st, actL l a es, blk b3 67 (Api_token.cells (tk 1 nm 0)), sls (some ⟨g1, 0, none⟩) 10 129 2 Grp.cells startsL] ∧ (i ≤ j)) (fun i => j + 1 - i) (0) ⟨rfl, rfl, rfl, rfl, rfl, rfl, rfl, trivial⟩ ⟨hO.only [.b b, .o a, .o s, .o l, .b b3, .p (some ⟨g1, 0, none⟩)], Nat.zero_le _⟩ ?_
  rintro i w m hm ⟨hO, hi⟩
  refine K0 (K1 ?_)
  refine N2 ?_
  refine K2 (K3 (K0 (L8 (K5 (K3 (K0 (K4 (K0 ?_))))))))
  obtain ⟨nm0, f0, hg0⟩ : ∃ nm0 f0, at_ startsL ((i : Nat) : Int).toNat = ⟨nm0, f0⟩ := ⟨_, _, rfl⟩
  have hn0 : (at_ startsL i).names = nm0 := congrArg Grp.names hg0
  have hf0 : (at_ startsL i).f = f0 := congrArg Grp.f hg0
  have hsz : nm0.size < 1000000 := by rw [← hn0]; exact startsL_size _ (at_mem (by omega))
  have hgs : Gs (some ⟨g1, 0, none⟩) 10 := .some _ _ _
  refine K1 ?_
  refine l_y rfl rfl (y_idx rfl rfl) ?_
  refine l_y rfl rfl (y_eA (x0 := 0) (cs := [.string nm0, .func (.func f0) #[] #[]]) hO rfl (hv := by rw [hg0]; rfl)) ?_
  refine s_alloc (vs := [.string ⟨#[]⟩, .nilFunc]) hO rfl rfl rfl fun b8 w hO => ?_
  refine Y3 hO rfl rfl (fun w hO => ?_)
  refine K2 (K3 (K0 (K1 ?_)))
  refine l_y rfl rfl (y_fldb (o' := 0) rfl) ?_
  refine l_y rfl rfl (y_fldb (o' := 1) rfl) ?_
  refine l_y rfl rfl (D5 hO rfl) ?_
  refine l_y rfl rfl (y_fldb (o' := 0) rfl) ?_
  refine l_y rfl rfl (D5 hO rfl) ?_
  refine CK [] hO rfl (fun k' hx hr hO' => one_spec (b := oneB nm nm0) hsz rfl hO') ?_
  rintro _ _ w ⟨rfl, rfl⟩ hO
  simp only [List.cons_append, List.nil_append] at hO
  refine K2 (K3 ?_)
  refine c_split rfl (fun hc93 => ?_) (fun hc93 => ?_)
  · refine K0 ?_
    have hij : i = j := by
      by_cases e : i < j
      · have := hno i e; rw [hn0, hc93] at this; cases this
      · omega
    subst hij
    obtain rfl : f0 = f := hf0.symm.trans hf
    refine K1 ?_
    refine l_y rfl rfl (y_fldb (o' := 1) rfl) ?_
    refine l_y rfl rfl (D5 hO rfl) ?_
    refine l_y rfl rfl (y_move rfl) ?_
    refine l_y rfl rfl (D8 (cs := [.int .i64 1, .string nm, .string ⟨#[]⟩, .string ⟨#[]⟩, .int .i64 0, .bool false, .int .i32 0, .bool false, .slice none 0 0]) hO rfl) ?_
    refine CKv [.b b, .o a, .o s, .o l] hO rfl rfl (fun k' hx hr hO' => hcall k' _ hO') ?_
    rintro v m w hR hO
    refine l_y rfl rfl (y_assign rfl) ?_
    refine K2 (K3 (K6 (L0 (K9 (K9 (L0 (K9 ?_)))))))
    exact fin1 rfl rfl ⟨_, hR, hO.front⟩
  · refine K5 (K8 (K3 (K1 ?_)))
    refine l_y rfl rfl (D4) ?_
    refine l_y rfl rfl (y_move rfl) ?_
    refine K2 ?_
    have hij : i ≠ j := by
      rintro rfl
      rw [hn0, hc93] at hyes; cases hyes
    exact q_next (i + 1) ⟨rfl, rfl, rfl, rfl, rfl, rfl, rfl, trivial⟩ ⟨hO.only [.b b, .o a, .o s, .o l, .b b3, .p (some ⟨g1, 0, none⟩)], by omega⟩ (by omega)
set_option maxHeartbeats 1000000 in
theorem b_inBodyC_spec {D : List Node_one → (Int → List Int) → List Int → List Api_entry → List ByteArray → Prop}
    (hreb : ∀ k' w', Own k' w' [blk b 65 (bC a s l r q), arenaL a A, stkL s a st, actL l a es] → Tri Tryz.prog 108 #[.pointer (some ⟨b, 0, none⟩)] k' w' fun v m => ∃ A2 KK st2 es2 ns2, D A2 KK st2 es2 ns2 ∧ m = [blk b 65 (bC a s l r q), arenaL a A2, stkL s a st2, actL l a es2])
    (hD : ∀ {A2 KK st2 es2 ns2}, D A2 KK st2 es2 ns2 → BI A2 KK st2 ns2 ∧ st2 ≠ [] ∧ KK (topI st2) = [] ∧ topI st2 ≠ 0 ∧ A2.length ≤ 30000) (hO : Own k w [blk b 65 (bC a s l r q), arenaL a A, stkL s a st, actL l a es]) :
    Tri Tryz.prog 48 #[.pointer (some ⟨b, 0, none⟩), .agg (Api_token.cells (tk 4 ⟨#[]⟩ 120)).toArray] k w fun v m => ∃ A2 KK st2 es2 ns2, D A2 KK st2 es2 ns2 ∧ v = .bool false ∧ m = [blk b 65 (bC a s l r { q with framed := true }), arenaL a (addA A2 (textN (runesBytes [120])) (topI st2)), stkL s a st2, actL l a es2] := by
  refine enter (args := [.pointer (some ⟨b, 0, none⟩), .agg (Api_token.cells (tk 4 ⟨#[]⟩ 120)).toArray]) Tryz.func48 rfl rfl ?_
  refine K0 (K1 ?_)
  refine s_box (vs := [.int .i64 4, .string ⟨#[]⟩, .string ⟨#[]⟩, .string ⟨#[]⟩, .int .i64 0, .bool false, .int .i32 120, .bool false, .slice none 0 0]) hO rfl rfl rfl (by rfl) fun b3 w hO => ?_
  refine l_y rfl rfl (y_assign rfl) ?_
  refine K2 (K3 (K0 (K1 ?_)))
  refine CK [] hO rfl (fun k' hx hr hO' => starts_spec hO') ?_
  rintro _ _ w ⟨g1, rfl, rfl⟩ hO
  simp only [List.cons_append, List.nil_append] at hO
  refine l_y rfl rfl (y_assign rfl) ?_
  refine l_y rfl rfl (y_assign rfl) ?_
  refine K2 (K3 (K0 (K0 (K1 ?_))))
  refine l_y rfl rfl (y_fldb (o' := 0) rfl) ?_
  refine l_y rfl rfl (y_fldb (o' := 0) rfl) ?_
  refine l_y rfl rfl (D5 hO rfl) ?_
  refine K2 (K3 (K4 (K0 (K1 ?_))))
  refine N2 ?_
  refine l_y rfl rfl (y_assign rfl) ?_
  refine K2 (K3 (L8 (K0 (K0 (K1 ?_)))))
  refine l_y rfl rfl (y_fldb (o' := 0) rfl) ?_
  refine l_y rfl rfl (y_fldb (o' := 6) rfl) ?_
  refine l_y rfl rfl (D5 hO rfl) ?_
  refine N3 ?_
  refine K2 (K3 (L9 (K5 (K3 (K0 (K1 ?_))))))
  refine l_y rfl rfl (y_move rfl) ?_
  refine CK [.b b, .o a, .o s, .o l] hO rfl (fun k' hx hr hO' => hreb k' _ hO') ?_
  rintro _ _ w ⟨A2, KK, st2, es2, ns2, hDD, rfl⟩ hO
  simp only [List.cons_append, List.nil_append] at hO
  obtain ⟨h2, hne2, hKK, hz2, hA2⟩ := hD hDD
  refine K2 (K3 (K0 (K1 ?_)))
  refine l_y rfl rfl (y_move rfl) ?_
  refine l_y rfl rfl (y_move rfl) ?_
  refine l_y rfl rfl (y_nilCheck rfl rfl) ?_
  refine l_y rfl rfl (y_fldb (o' := 14) rfl) ?_
  refine l_y rfl rfl (D5 hO rfl) ?_
  refine l_y rfl rfl (y_move rfl) ?_
  refine l_split 28 rfl (fun hg28 => ?_) (fun hg28 => ?_)
  · repeat refine M2 ?_
    refine l_y rfl rfl (y_pick_t rfl rfl) ?_
    refine l_y rfl rfl (y_nilCheck rfl rfl) ?_
    refine l_y rfl rfl (y_fldb (o' := 14) rfl) ?_
    refine Y1 hO rfl rfl (fun w hO => ?_)
    simp only [List.set_cons_zero, List.set_cons_succ] at hO
    refine K2 (K3 (K0 (K1 ?_)))
    refine l_y rfl rfl (y_move rfl) ?_
    refine l_y rfl rfl (y_fldb (o' := 0) rfl) ?_
    refine l_y rfl rfl (y_fldb (o' := 6) rfl) ?_
    refine l_y rfl rfl (D5 hO rfl) ?_
    refine CK [.b b, .o a, .o s] hO rfl (fun k' hx hr hO' => b_char_spec (q := { q with framed := true }) h2 hne2 hKK hz2 (by rw [show runesBytes [120] = ⟨#[120]⟩ from by kernel_rfl]; decide) hA2 hO') ?_
    rintro _ _ w ⟨rfl, rfl⟩ hO
    simp only [List.cons_append, List.nil_append] at hO
    refine l_y rfl rfl (y_assign rfl) ?_
    refine K2 (K3 (K6 (L0 (K9 ?_))))
    exact fin1 rfl rfl ⟨_, ⟨A2, KK, st2, es2, ns2, hDD, rfl, rfl⟩, hO.only [.b b, .o a, .o s, .o l]⟩
  · refine l_y rfl rfl (D8 (cs := [.int .i64 4, .string ⟨#[]⟩, .string ⟨#[]⟩, .string ⟨#[]⟩, .int .i64 0, .bool false, .int .i32 120, .bool false, .slice none 0 0]) hO rfl) ?_
    refine CK [] hO rfl (fun k' hx hr hO' => t_blank_spec (b := false) (by kernel_rfl) (hO := hO')) ?_
    rintro _ _ w ⟨rfl, rfl⟩ hO
    simp only [List.cons_append, List.nil_append] at hO
    refine l_y rfl rfl (y_not rfl rfl) ?_
    refine l_y rfl rfl (y_pick_f rfl rfl) ?_
    refine l_y rfl rfl (y_nilCheck rfl rfl) ?_
    refine l_y rfl rfl (y_fldb (o' := 14) rfl) ?_
    refine Y1 hO rfl rfl (fun w hO => ?_)
    simp only [List.set_cons_zero, List.set_cons_succ] at hO
    refine K2 (K3 (K0 (K1 ?_)))
    refine l_y rfl rfl (y_move rfl) ?_
    refine l_y rfl rfl (y_fldb (o' := 0) rfl) ?_
    refine l_y rfl rfl (y_fldb (o' := 6) rfl) ?_
    refine l_y rfl rfl (D5 hO rfl) ?_
    refine CK [.b b, .o a, .o s] hO rfl (fun k' hx hr hO' => b_char_spec (q := { q with framed := true }) h2 hne2 hKK hz2 (by rw [show runesBytes [120] = ⟨#[120]⟩ from by kernel_rfl]; decide) hA2 hO') ?_
    rintro _ _ w ⟨rfl, rfl⟩ hO
    simp only [List.cons_append, List.nil_append] at hO
    refine l_y rfl rfl (y_assign rfl) ?_
    refine K2 (K3 (K6 (L0 (K9 ?_))))
    exact fin1 rfl rfl ⟨_, ⟨A2, KK, st2, es2, ns2, hDD, rfl, rfl⟩, hO.only [.b b, .o a, .o s, .o l]⟩
end
end Go.Proofs.YtpejdlfkaaiehaaGreatDoor
end
section
set_option linter.unusedVariables false
set_option linter.unusedSimpArgs false
set_option maxRecDepth 100000
namespace Go.Proofs.YtpejdlfkaaiehaaGreatDoor
open Go Go.Hb Go.RowKit
def bodyS : ByteArray := ⟨#[98, 111, 100, 121]⟩
def headS : ByteArray := ⟨#[104, 101, 97, 100]⟩
section
variable {k : Ctx} {w : World} {b a s l r : Nat} {q : BQ} {A : List Node_one} {K : Int → List Int} {st : List Int} {ns : List ByteArray} {nm : ByteArray}
theorem b_initial_spec (h9 : q.errs ≤ 1000000000) (h0 : 0 ≤ q.errs) (hO : Own k w [blk b 65 (bC a s l r q)]) :
    Tri Tryz.prog 42 #[.pointer (some ⟨b, 0, none⟩), .agg (Api_token.cells (tk 1 nm 0)).toArray] k w fun v m => v = .bool true ∧ m = [blk b 65 (bC a s l r { q with errs := q.errs + 1, quirk := 2, mode := 1 })] := by
  refine enter (args := [.pointer (some ⟨b, 0, none⟩), .agg (Api_token.cells (tk 1 nm 0)).toArray]) Tryz.func42 rfl rfl ?_
  refine K0 (K1 ?_)
  refine s_box (vs := [.int .i64 1, .string nm, .string ⟨#[]⟩, .string ⟨#[]⟩, .int .i64 0, .bool false, .int .i32 0, .bool false, .slice none 0 0]) hO rfl rfl rfl (by rfl) fun b3 w hO => ?_
  refine l_y rfl rfl (y_assign rfl) ?_
  refine K2 (K3 (K0 (K4 (K0 (K1 ?_)))))
  refine l_y rfl rfl (D8 (cs := [.int .i64 1, .string nm, .string ⟨#[]⟩, .string ⟨#[]⟩, .int .i64 0, .bool false, .int .i32 0, .bool false, .slice none 0 0]) hO rfl) ?_
  refine CK [] hO rfl (fun k' hx hr hO' => t_blank_spec (kd := 1) (nm := nm) (ch := 0) (b := false) (by kernel_rfl) (hO := hO')) ?_
  rintro _ _ w ⟨rfl, rfl⟩ hO
  simp only [List.cons_append, List.nil_append] at hO
  refine l_y rfl rfl (y_assign rfl) ?_
  refine K2 (K3 (L9 (K0 (K1 ?_))))
  refine l_y rfl rfl (D8 (cs := [.int .i64 1, .string nm, .string ⟨#[]⟩, .string ⟨#[]⟩, .int .i64 0, .bool false, .int .i32 0, .bool false, .slice none 0 0]) hO rfl) ?_
  refine CK [] hO rfl (fun k' hx hr hO' => t_is_spec (kd := 1) (nm := nm) (ch := 0) (b := false) (by kernel_rfl) (hO := hO')) ?_
  rintro _ _ w ⟨rfl, rfl⟩ hO
  simp only [List.cons_append, List.nil_append] at hO
  refine l_y rfl rfl (y_assign rfl) ?_
  refine K2 (K3 (L9 (K0 (K1 ?_))))
  refine l_y rfl rfl (D8 (cs := [.int .i64 1, .string nm, .string ⟨#[]⟩, .string ⟨#[]⟩, .int .i64 0, .bool false, .int .i32 0, .bool false, .slice none 0 0]) hO rfl) ?_
  refine CK [] hO rfl (fun k' hx hr hO' => t_is_spec (kd := 1) (nm := nm) (ch := 0) (b := false) (by kernel_rfl) (hO := hO')) ?_
  rintro _ _ w ⟨rfl, rfl⟩ hO
  simp only [List.cons_append, List.nil_append] at hO
  refine l_y rfl rfl (y_assign rfl) ?_
  refine K2 (K3 (L9 (K5 (K8 (K3 (K0 (K1 ?_)))))))
  refine l_y rfl rfl (y_move rfl) ?_
  refine CK [.b b] hO rfl (fun k' hx hr hO' => b_fault_spec h9 h0 hO') ?_
  rintro _ _ w ⟨rfl, rfl⟩ hO
  simp only [List.cons_append, List.nil_append] at hO
  refine K2 (K3 (K0 (K1 ?_)))
  refine l_y rfl rfl (y_move rfl) ?_
  refine l_y rfl rfl (y_nilCheck rfl rfl) ?_
  refine l_y rfl rfl (y_fldb (o' := 12) rfl) ?_
  refine Y1 hO rfl rfl (fun w hO => ?_)
  simp only [List.set_cons_zero, List.set_cons_succ] at hO
  refine K2 (K3 (K0 (K1 ?_)))
  refine l_y rfl rfl (y_move rfl) ?_
  refine CK [.b b] hO rfl (fun k' hx hr hO' => b_again_spec (q := { q with errs := q.errs + 1, quirk := 2 }) hO') ?_
  rintro _ _ w ⟨rfl, rfl⟩ hO
  simp only [List.cons_append, List.nil_append] at hO
  refine l_y rfl rfl (y_assign rfl) ?_
  refine K2 (K3 (K6 ?_))
  exact fin1 rfl rfl ⟨_, ⟨rfl, rfl⟩, hO.only [.b b]⟩
theorem b_beforeHTML_spec (hN : nm = pS ∨ nm = bodyS) (h : BI A K [] []) (hA : A.length ≤ 30000) (hO : Own k w [blk b 65 (bC a s l r q), arenaL a A, stkL s a []]) :
    Tri Tryz.prog 43 #[.pointer (some ⟨b, 0, none⟩), .agg (Api_token.cells (tk 1 nm 0)).toArray] k w fun v m => ∃ p d, v = .bool true ∧ m = [blk b 65 (bC a s l r { q with mode := 2 }), arenaL a (addA A (elementN p d 0 htmlS []) 0), stkL s a [(A.length : Int)]] := by
  refine enter (args := [.pointer (some ⟨b, 0, none⟩), .agg (Api_token.cells (tk 1 nm 0)).toArray]) Tryz.func43 rfl rfl ?_
  refine K0 (K1 ?_)
  refine s_box (vs := [.int .i64 1, .string nm, .string ⟨#[]⟩, .string ⟨#[]⟩, .int .i64 0, .bool false, .int .i32 0, .bool false, .slice none 0 0]) hO rfl rfl rfl (by rfl) fun b3 w hO => ?_
  refine l_y rfl rfl (y_assign rfl) ?_
  refine K2 (K3 (K0 (K4 (K0 (K1 ?_)))))
  refine l_y rfl rfl (D8 (cs := [.int .i64 1, .string nm, .string ⟨#[]⟩, .string ⟨#[]⟩, .int .i64 0, .bool false, .int .i32 0, .bool false, .slice none 0 0]) hO rfl) ?_
  refine CK [] hO rfl (fun k' hx hr hO' => t_blank_spec (kd := 1) (nm := nm) (ch := 0) (b := false) (by kernel_rfl) (hO := hO')) ?_
  rintro _ _ w ⟨rfl, rfl⟩ hO
  simp only [List.cons_append, List.nil_append] at hO
  refine l_y rfl rfl (y_assign rfl) ?_
  refine K2 (K3 (L9 (K0 (K1 ?_))))
  refine l_y rfl rfl (D8 (cs := [.int .i64 1, .string nm, .string ⟨#[]⟩, .string ⟨#[]⟩, .int .i64 0, .bool false, .int .i32 0, .bool false, .slice none 0 0]) hO rfl) ?_
  refine CK [] hO rfl (fun k' hx hr hO' => t_is_spec (kd := 1) (nm := nm) (ch := 0) (b := false) (by kernel_rfl) (hO := hO')) ?_
  rintro _ _ w ⟨rfl, rfl⟩ hO
  simp only [List.cons_append, List.nil_append] at hO
  refine l_y rfl rfl (y_assign rfl) ?_
  refine K2 (K3 (L9 (K0 (K0 (K1 ?_)))))
  refine l_y rfl rfl (D8 (cs := [.int .i64 1, .string nm, .string ⟨#[]⟩, .string ⟨#[]⟩, .int .i64 0, .bool false, .int .i32 0, .bool false, .slice none 0 0]) hO rfl) ?_
  refine CK [] hO rfl (fun k' hx hr hO' => t_is_spec (kd := 1) (nm := nm) (ch := 0) (b := false) (by kernel_rfl) (hO := hO')) ?_
  rintro _ _ w ⟨rfl, rfl⟩ hO
  simp only [List.cons_append, List.nil_append] at hO
  refine l_y rfl rfl (y_assign rfl) ?_
  refine K2 (K3 (L9 (K1 ?_)))
  refine l_y rfl rfl (D8 (cs := [.int .i64 1, .string nm, .string ⟨#[]⟩, .string ⟨#[]⟩, .int .i64 0, .bool false, .int .i32 0, .bool false, .slice none 0 0]) hO rfl) ?_
  refine CK [] hO rfl (fun k' hx hr hO' => t_ends_spec (kd := 1) (nm := nm) (ch := 0) (b := false) (by decide) (by kernel_rfl) (hO := hO')) ?_
  rintro _ _ w ⟨rfl, rfl⟩ hO
  simp only [List.cons_append, List.nil_append] at hO
  refine l_y rfl rfl (y_assign rfl) ?_
  refine K2 (K3 (L9 (K0 (K1 ?_))))
  refine l_y rfl rfl (D8 (cs := [.int .i64 1, .string nm, .string ⟨#[]⟩, .string ⟨#[]⟩, .int .i64 0, .bool false, .int .i32 0, .bool false, .slice none 0 0]) hO rfl) ?_
  refine CK [] hO rfl (fun k' hx hr hO' => t_start_spec (kd := 1) (nm := nm) (ch := 0) (b := false) (by decide) (by rcases hN with rfl | rfl <;> kernel_rfl) (hO := hO')) ?_
  rintro _ _ w ⟨rfl, rfl⟩ hO
  simp only [List.cons_append, List.nil_append] at hO
  refine l_y rfl rfl (y_assign rfl) ?_
  refine K2 (K3 (L9 (K5 (K8 (K3 (K0 (K1 ?_)))))))
  refine l_y rfl rfl (y_move rfl) ?_
  refine CK [] hO rfl (fun k' hx hr hO' => t_plain_spec (nm := htmlS) hO') ?_
  rintro _ _ w ⟨rfl, rfl⟩ hO
  simp only [List.cons_append, List.nil_append] at hO
  refine CK [.b b, .o a, .o s] hO rfl (fun k' hx hr hO' => b_root_spec h hA hO') ?_
  rintro _ _ w ⟨p1, d1, rfl⟩ hO
  simp only [List.cons_append, List.nil_append] at hO
  refine K2 (K3 (K0 (K1 ?_)))
  refine l_y rfl rfl (y_move rfl) ?_
  refine CK [.b b] hO rfl (fun k' hx hr hO' => b_again_spec hO') ?_
  rintro _ _ w ⟨rfl, rfl⟩ hO
  simp only [List.cons_append, List.nil_append] at hO
  refine l_y rfl rfl (y_assign rfl) ?_
  refine K2 (K3 (K6 ?_))
  exact fin1 rfl rfl ⟨_, ⟨p1, d1, rfl, rfl⟩, hO.only [.b b, .o a, .o s]⟩
theorem b_beforeHead_spec (hN : nm = pS ∨ nm = bodyS) (h : BI A K st ns) (hne : st ≠ []) (hA : A.length ≤ 30000) (hO : Own k w [blk b 65 (bC a s l r q), arenaL a A, stkL s a st]) :
    Tri Tryz.prog 44 #[.pointer (some ⟨b, 0, none⟩), .agg (Api_token.cells (tk 1 nm 0)).toArray] k w fun v m => ∃ p d, v = .bool true ∧ m = [blk b 65 (bC a s l r { q with head := (A.length : Int), mode := 3 }), arenaL a (addA A (elementN p d 0 headS []) (topI st)), stkL s a (st ++ [(A.length : Int)])] := by
  refine enter (args := [.pointer (some ⟨b, 0, none⟩), .agg (Api_token.cells (tk 1 nm 0)).toArray]) Tryz.func44 rfl rfl ?_
  refine K0 (K1 ?_)
  refine s_box (vs := [.int .i64 1, .string nm, .string ⟨#[]⟩, .string ⟨#[]⟩, .int .i64 0, .bool false, .int .i32 0, .bool false, .slice none 0 0]) hO rfl rfl rfl (by rfl) fun b3 w hO => ?_
  refine l_y rfl rfl (y_assign rfl) ?_
  refine K2 (K3 (K0 (K4 (K0 (K1 ?_)))))
  refine l_y rfl rfl (D8 (cs := [.int .i64 1, .string nm, .string ⟨#[]⟩, .string ⟨#[]⟩, .int .i64 0, .bool false, .int .i32 0, .bool false, .slice none 0 0]) hO rfl) ?_
  refine CK [] hO rfl (fun k' hx hr hO' => t_blank_spec (kd := 1) (nm := nm) (ch := 0) (b := false) (by kernel_rfl) (hO := hO')) ?_
  rintro _ _ w ⟨rfl, rfl⟩ hO
  simp only [List.cons_append, List.nil_append] at hO
  refine l_y rfl rfl (y_assign rfl) ?_
  refine K2 (K3 (L9 (K0 (K1 ?_))))
  refine l_y rfl rfl (D8 (cs := [.int .i64 1, .string nm, .string ⟨#[]⟩, .string ⟨#[]⟩, .int .i64 0, .bool false, .int .i32 0, .bool false, .slice none 0 0]) hO rfl) ?_
  refine CK [] hO rfl (fun k' hx hr hO' => t_is_spec (kd := 1) (nm := nm) (ch := 0) (b := false) (by kernel_rfl) (hO := hO')) ?_
  rintro _ _ w ⟨rfl, rfl⟩ hO
  simp only [List.cons_append, List.nil_append] at hO
  refine l_y rfl rfl (y_assign rfl) ?_
  refine K2 (K3 (L9 (K0 (K0 (K1 ?_)))))
  refine l_y rfl rfl (D8 (cs := [.int .i64 1, .string nm, .string ⟨#[]⟩, .string ⟨#[]⟩, .int .i64 0, .bool false, .int .i32 0, .bool false, .slice none 0 0]) hO rfl) ?_
  refine CK [] hO rfl (fun k' hx hr hO' => t_is_spec (kd := 1) (nm := nm) (ch := 0) (b := false) (by kernel_rfl) (hO := hO')) ?_
  rintro _ _ w ⟨rfl, rfl⟩ hO
  simp only [List.cons_append, List.nil_append] at hO
  refine l_y rfl rfl (y_assign rfl) ?_
  refine K2 (K3 (L9 (K1 ?_)))
  refine l_y rfl rfl (D8 (cs := [.int .i64 1, .string nm, .string ⟨#[]⟩, .string ⟨#[]⟩, .int .i64 0, .bool false, .int .i32 0, .bool false, .slice none 0 0]) hO rfl) ?_
  refine CK [] hO rfl (fun k' hx hr hO' => t_ends_spec (kd := 1) (nm := nm) (ch := 0) (b := false) (by decide) (by kernel_rfl) (hO := hO')) ?_
  rintro _ _ w ⟨rfl, rfl⟩ hO
  simp only [List.cons_append, List.nil_append] at hO
  refine l_y rfl rfl (y_assign rfl) ?_
  refine K2 (K3 (L9 (K0 (K1 ?_))))
  refine l_y rfl rfl (D8 (cs := [.int .i64 1, .string nm, .string ⟨#[]⟩, .string ⟨#[]⟩, .int .i64 0, .bool false, .int .i32 0, .bool false, .slice none 0 0]) hO rfl) ?_
  refine CK [] hO rfl (fun k' hx hr hO' => t_start_spec (kd := 1) (nm := nm) (ch := 0) (b := false) (by decide) (by rcases hN with rfl | rfl <;> kernel_rfl) (hO := hO')) ?_
  rintro _ _ w ⟨rfl, rfl⟩ hO
  simp only [List.cons_append, List.nil_append] at hO
  refine l_y rfl rfl (y_assign rfl) ?_
  refine K2 (K3 (L9 (K0 (K1 ?_))))
  refine l_y rfl rfl (D8 (cs := [.int .i64 1, .string nm, .string ⟨#[]⟩, .string ⟨#[]⟩, .int .i64 0, .bool false, .int .i32 0, .bool false, .slice none 0 0]) hO rfl) ?_
  refine CK [] hO rfl (fun k' hx hr hO' => t_start_spec (kd := 1) (nm := nm) (ch := 0) (b := false) (by decide) (by rcases hN with rfl | rfl <;> kernel_rfl) (hO := hO')) ?_
  rintro _ _ w ⟨rfl, rfl⟩ hO
  simp only [List.cons_append, List.nil_append] at hO
  refine l_y rfl rfl (y_assign rfl) ?_
  refine K2 (K3 (L9 (K5 (K8 (K3 (K0 (K1 ?_)))))))
  refine l_y rfl rfl (y_move rfl) ?_
  refine l_y rfl rfl (y_move rfl) ?_
  refine CK [] hO rfl (fun k' hx hr hO' => t_plain_spec (nm := headS) hO') ?_
  rintro _ _ w ⟨rfl, rfl⟩ hO
  simp only [List.cons_append, List.nil_append] at hO
  refine CK [.b b, .o a, .o s] hO rfl (fun k' hx hr hO' => b_put_spec (kd := 1) (nm := headS) (ch := 0) h hne (by decide) (by decide) hA hO') ?_
  rintro _ _ w ⟨p1, d1, rfl, rfl⟩ hO
  simp only [List.cons_append, List.nil_append] at hO
  refine l_y rfl rfl (y_nilCheck rfl rfl) ?_
  refine l_y rfl rfl (y_fldb (o' := 7) rfl) ?_
  refine Y1 hO rfl rfl (fun w hO => ?_)
  simp only [List.set_cons_zero, List.set_cons_succ] at hO
  refine K2 (K3 (K0 (K1 ?_)))
  refine l_y rfl rfl (y_move rfl) ?_
  refine CK [.b b] hO rfl (fun k' hx hr hO' => b_again_spec (q := { q with head := (A.length : Int) }) hO') ?_
  rintro _ _ w ⟨rfl, rfl⟩ hO
  simp only [List.cons_append, List.nil_append] at hO
  refine l_y rfl rfl (y_assign rfl) ?_
  refine K2 (K3 (K6 ?_))
  exact fin1 rfl rfl ⟨_, ⟨p1, d1, rfl, rfl⟩, hO.only [.b b, .o a, .o s]⟩
theorem b_inHead_spec (hN : nm = pS ∨ nm = bodyS) (hl : st.length ≤ 1000000) (hne : ∀ x ∈ st, x ≠ -1) (hO : Own k w [blk b 65 (bC a s l r q), stkL s a st]) :
    Tri Tryz.prog 45 #[.pointer (some ⟨b, 0, none⟩), .agg (Api_token.cells (tk 1 nm 0)).toArray] k w fun v m => v = .bool true ∧ m = [blk b 65 (bC a s l r { q with mode := 5 }), stkL s a (st.take (st.length - 1))] := by
  refine enter (args := [.pointer (some ⟨b, 0, none⟩), .agg (Api_token.cells (tk 1 nm 0)).toArray]) Tryz.func45 rfl rfl ?_
  refine K0 (K1 ?_)
  refine s_box (vs := [.int .i64 1, .string nm, .string ⟨#[]⟩, .string ⟨#[]⟩, .int .i64 0, .bool false, .int .i32 0, .bool false, .slice none 0 0]) hO rfl rfl rfl (by rfl) fun b3 w hO => ?_
  refine l_y rfl rfl (y_assign rfl) ?_
  refine K2 (K3 (K0 (K4 (K0 (K1 ?_)))))
  refine l_y rfl rfl (D8 (cs := [.int .i64 1, .string nm, .string ⟨#[]⟩, .string ⟨#[]⟩, .int .i64 0, .bool false, .int .i32 0, .bool false, .slice none 0 0]) hO rfl) ?_
  refine CK [] hO rfl (fun k' hx hr hO' => t_blank_spec (kd := 1) (nm := nm) (ch := 0) (b := false) (by kernel_rfl) (hO := hO')) ?_
  rintro _ _ w ⟨rfl, rfl⟩ hO
  simp only [List.cons_append, List.nil_append] at hO
  refine l_y rfl rfl (y_assign rfl) ?_
  refine K2 (K3 (L9 (K0 (K1 ?_))))
  refine l_y rfl rfl (D8 (cs := [.int .i64 1, .string nm, .string ⟨#[]⟩, .string ⟨#[]⟩, .int .i64 0, .bool false, .int .i32 0, .bool false, .slice none 0 0]) hO rfl) ?_
  refine CK [] hO rfl (fun k' hx hr hO' => t_is_spec (kd := 1) (nm := nm) (ch := 0) (b := false) (by kernel_rfl) (hO := hO')) ?_
  rintro _ _ w ⟨rfl, rfl⟩ hO
  simp only [List.cons_append, List.nil_append] at hO
  refine l_y rfl rfl (y_assign rfl) ?_
  refine K2 (K3 (L9 (K0 (K0 (K1 ?_)))))
  refine l_y rfl rfl (D8 (cs := [.int .i64 1, .string nm, .string ⟨#[]⟩, .string ⟨#[]⟩, .int .i64 0, .bool false, .int .i32 0, .bool false, .slice none 0 0]) hO rfl) ?_
  refine CK [] hO rfl (fun k' hx hr hO' => t_is_spec (kd := 1) (nm := nm) (ch := 0) (b := false) (by kernel_rfl) (hO := hO')) ?_
  rintro _ _ w ⟨rfl, rfl⟩ hO
  simp only [List.cons_append, List.nil_append] at hO
  refine l_y rfl rfl (y_assign rfl) ?_
  refine K2 (K3 (L9 (K1 ?_)))
  refine l_y rfl rfl (D8 (cs := [.int .i64 1, .string nm, .string ⟨#[]⟩, .string ⟨#[]⟩, .int .i64 0, .bool false, .int .i32 0, .bool false, .slice none 0 0]) hO rfl) ?_
  refine CK [] hO rfl (fun k' hx hr hO' => t_start_spec (kd := 1) (nm := nm) (ch := 0) (b := false) (by decide) (by rcases hN with rfl | rfl <;> kernel_rfl) (hO := hO')) ?_
  rintro _ _ w ⟨rfl, rfl⟩ hO
  simp only [List.cons_append, List.nil_append] at hO
  refine l_y rfl rfl (y_assign rfl) ?_
  refine K2 (K3 (L9 (K0 (K1 ?_))))
  refine l_y rfl rfl (D8 (cs := [.int .i64 1, .string nm, .string ⟨#[]⟩, .string ⟨#[]⟩, .int .i64 0, .bool false, .int .i32 0, .bool false, .slice none 0 0]) hO rfl) ?_
  refine CK [] hO rfl (fun k' hx hr hO' => t_start_spec (kd := 1) (nm := nm) (ch := 0) (b := false) (by decide) (by rcases hN with rfl | rfl <;> kernel_rfl) (hO := hO')) ?_
  rintro _ _ w ⟨rfl, rfl⟩ hO
  simp only [List.cons_append, List.nil_append] at hO
  refine l_y rfl rfl (y_assign rfl) ?_
  refine K2 (K3 (L9 (K0 (K1 ?_))))
  refine l_y rfl rfl (D8 (cs := [.int .i64 1, .string nm, .string ⟨#[]⟩, .string ⟨#[]⟩, .int .i64 0, .bool false, .int .i32 0, .bool false, .slice none 0 0]) hO rfl) ?_
  refine CK [] hO rfl (fun k' hx hr hO' => t_start_spec (kd := 1) (nm := nm) (ch := 0) (b := false) (by decide) (by rcases hN with rfl | rfl <;> kernel_rfl) (hO := hO')) ?_
  rintro _ _ w ⟨rfl, rfl⟩ hO
  simp only [List.cons_append, List.nil_append] at hO
  refine l_y rfl rfl (y_assign rfl) ?_
  refine K2 (K3 (L9 (K0 (K1 ?_))))
  refine l_y rfl rfl (D8 (cs := [.int .i64 1, .string nm, .string ⟨#[]⟩, .string ⟨#[]⟩, .int .i64 0, .bool false, .int .i32 0, .bool false, .slice none 0 0]) hO rfl) ?_
  refine CK [] hO rfl (fun k' hx hr hO' => t_start_spec (kd := 1) (nm := nm) (ch := 0) (b := false) (by decide) (by rcases hN with rfl | rfl <;> kernel_rfl) (hO := hO')) ?_
  rintro _ _ w ⟨rfl, rfl⟩ hO
  simp only [List.cons_append, List.nil_append] at hO
  refine l_y rfl rfl (y_move rfl) ?_
  repeat refine M2 ?_
  refine l_y rfl rfl (y_pick_f rfl rfl) ?_
  refine l_y rfl rfl (y_assign rfl) ?_
  refine K2 (K3 (L9 (K0 (K1 ?_))))
  refine l_y rfl rfl (D8 (cs := [.int .i64 1, .string nm, .string ⟨#[]⟩, .string ⟨#[]⟩, .int .i64 0, .bool false, .int .i32 0, .bool false, .slice none 0 0]) hO rfl) ?_
  refine CK [] hO rfl (fun k' hx hr hO' => t_start_spec (kd := 1) (nm := nm) (ch := 0) (b := false) (by decide) (by rcases hN with rfl | rfl <;> kernel_rfl) (hO := hO')) ?_
  rintro _ _ w ⟨rfl, rfl⟩ hO
  simp only [List.cons_append, List.nil_append] at hO
  refine l_y rfl rfl (y_assign rfl) ?_
  refine K2 (K3 (L9 (K0 (K1 ?_))))
  refine l_y rfl rfl (D8 (cs := [.int .i64 1, .string nm, .string ⟨#[]⟩, .string ⟨#[]⟩, .int .i64 0, .bool false, .int .i32 0, .bool false, .slice none 0 0]) hO rfl) ?_
  refine CK [] hO rfl (fun k' hx hr hO' => t_start_spec (kd := 1) (nm := nm) (ch := 0) (b := false) (by decide) (by rcases hN with rfl | rfl <;> kernel_rfl) (hO := hO')) ?_
  rintro _ _ w ⟨rfl, rfl⟩ hO
  simp only [List.cons_append, List.nil_append] at hO
  refine l_y rfl rfl (y_assign rfl) ?_
  refine K2 (K3 (L9 (K0 (K1 ?_))))
  refine l_y rfl rfl (D8 (cs := [.int .i64 1, .string nm, .string ⟨#[]⟩, .string ⟨#[]⟩, .int .i64 0, .bool false, .int .i32 0, .bool false, .slice none 0 0]) hO rfl) ?_
  refine CK [] hO rfl (fun k' hx hr hO' => t_end_spec (kd := 1) (nm := nm) (ch := 0) (b := false) (by decide) (by kernel_rfl) (hO := hO')) ?_
  rintro _ _ w ⟨rfl, rfl⟩ hO
  simp only [List.cons_append, List.nil_append] at hO
  refine l_y rfl rfl (y_assign rfl) ?_
  refine K2 (K3 (L9 (K0 (K1 ?_))))
  refine l_y rfl rfl (D8 (cs := [.int .i64 1, .string nm, .string ⟨#[]⟩, .string ⟨#[]⟩, .int .i64 0, .bool false, .int .i32 0, .bool false, .slice none 0 0]) hO rfl) ?_
  refine CK [] hO rfl (fun k' hx hr hO' => t_end_spec (kd := 1) (nm := nm) (ch := 0) (b := false) (by decide) (by kernel_rfl) (hO := hO')) ?_
  rintro _ _ w ⟨rfl, rfl⟩ hO
  simp only [List.cons_append, List.nil_append] at hO
  refine l_y rfl rfl (y_assign rfl) ?_
  refine K2 (K3 (L9 (K0 (K1 ?_))))
  refine l_y rfl rfl (D8 (cs := [.int .i64 1, .string nm, .string ⟨#[]⟩, .string ⟨#[]⟩, .int .i64 0, .bool false, .int .i32 0, .bool false, .slice none 0 0]) hO rfl) ?_
  refine CK [] hO rfl (fun k' hx hr hO' => t_ends_spec (kd := 1) (nm := nm) (ch := 0) (b := false) (by decide) (by kernel_rfl) (hO := hO')) ?_
  rintro _ _ w ⟨rfl, rfl⟩ hO
  simp only [List.cons_append, List.nil_append] at hO
  refine l_y rfl rfl (y_assign rfl) ?_
  refine K2 (K3 (L9 (K5 (K8 (K3 (K0 (K1 ?_)))))))
  refine l_y rfl rfl (y_move rfl) ?_
  refine l_y rfl rfl (y_nilCheck rfl rfl) ?_
  refine l_y rfl rfl (y_fldb (o' := 1) rfl) ?_
  refine l_y rfl rfl (D5 hO rfl) ?_
  refine CK [.o s] hO rfl (fun k' hx hr hO' => sPop_spec hl hne hO') ?_
  rintro _ _ w ⟨rfl, rfl⟩ hO
  simp only [List.cons_append, List.nil_append] at hO
  refine K2 (K3 (K0 (K1 ?_)))
  refine l_y rfl rfl (y_move rfl) ?_
  refine CK [.b b] hO rfl (fun k' hx hr hO' => b_again_spec hO') ?_
  rintro _ _ w ⟨rfl, rfl⟩ hO
  simp only [List.cons_append, List.nil_append] at hO
  refine l_y rfl rfl (y_assign rfl) ?_
  refine K2 (K3 (K6 ?_))
  exact fin1 rfl rfl ⟨_, ⟨rfl, rfl⟩, hO.only [.b b, .o s]⟩
theorem b_afterHead0_spec (hN : nm = pS) (h : BI A K st ns) (hne : st ≠ []) (hA : A.length ≤ 30000) (hO : Own k w [blk b 65 (bC a s l r q), arenaL a A, stkL s a st]) :
    Tri Tryz.prog 47 #[.pointer (some ⟨b, 0, none⟩), .agg (Api_token.cells (tk 1 nm 0)).toArray] k w fun v m => ∃ p d, v = .bool true ∧ m = [blk b 65 (bC a s l r { q with mode := 6 }), arenaL a (addA A (elementN p d 0 bodyS []) (topI st)), stkL s a (st ++ [(A.length : Int)])] := by
  refine enterD (args := [.pointer (some ⟨b, 0, none⟩), .agg (Api_token.cells (tk 1 nm 0)).toArray]) Tryz.func47 rfl rfl ?_
  refine K0 (K1 ?_)
  refine s_box (vs := [.int .i64 1, .string nm, .string ⟨#[]⟩, .string ⟨#[]⟩, .int .i64 0, .bool false, .int .i32 0, .bool false, .slice none 0 0]) hO rfl rfl rfl (by rfl) fun b3 w hO => ?_
  refine l_y rfl rfl (y_assign rfl) ?_
  refine K2 (K3 (K0 (K4 (K0 (K1 ?_)))))
  refine l_y rfl rfl (D8 (cs := [.int .i64 1, .string nm, .string ⟨#[]⟩, .string ⟨#[]⟩, .int .i64 0, .bool false, .int .i32 0, .bool false, .slice none 0 0]) hO rfl) ?_
  refine CK [] hO rfl (fun k' hx hr hO' => t_blank_spec (kd := 1) (nm := nm) (ch := 0) (b := false) (by kernel_rfl) (hO := hO')) ?_
  rintro _ _ w ⟨rfl, rfl⟩ hO
  simp only [List.cons_append, List.nil_append] at hO
  refine l_y rfl rfl (y_assign rfl) ?_
  refine K2 (K3 (L9 (K0 (K1 ?_))))
  refine l_y rfl rfl (D8 (cs := [.int .i64 1, .string nm, .string ⟨#[]⟩, .string ⟨#[]⟩, .int .i64 0, .bool false, .int .i32 0, .bool false, .slice none 0 0]) hO rfl) ?_
  refine CK [] hO rfl (fun k' hx hr hO' => t_is_spec (kd := 1) (nm := nm) (ch := 0) (b := false) (by kernel_rfl) (hO := hO')) ?_
  rintro _ _ w ⟨rfl, rfl⟩ hO
  simp only [List.cons_append, List.nil_append] at hO
  refine l_y rfl rfl (y_assign rfl) ?_
  refine K2 (K3 (L9 (K0 (K0 (K1 ?_)))))
  refine l_y rfl rfl (D8 (cs := [.int .i64 1, .string nm, .string ⟨#[]⟩, .string ⟨#[]⟩, .int .i64 0, .bool false, .int .i32 0, .bool false, .slice none 0 0]) hO rfl) ?_
  refine CK [] hO rfl (fun k' hx hr hO' => t_is_spec (kd := 1) (nm := nm) (ch := 0) (b := false) (by kernel_rfl) (hO := hO')) ?_
  rintro _ _ w ⟨rfl, rfl⟩ hO
  simp only [List.cons_append, List.nil_append] at hO
  refine l_y rfl rfl (y_assign rfl) ?_
  refine K2 (K3 (L9 (K0 (K1 ?_))))
  refine l_y rfl rfl (D8 (cs := [.int .i64 1, .string nm, .string ⟨#[]⟩, .string ⟨#[]⟩, .int .i64 0, .bool false, .int .i32 0, .bool false, .slice none 0 0]) hO rfl) ?_
  refine CK [] hO rfl (fun k' hx hr hO' => t_start_spec (kd := 1) (nm := nm) (ch := 0) (b := false) (by decide) (by subst hN <;> kernel_rfl) (hO := hO')) ?_
  rintro _ _ w ⟨rfl, rfl⟩ hO
  simp only [List.cons_append, List.nil_append] at hO
  refine l_y rfl rfl (y_assign rfl) ?_
  refine K2 (K3 (L9 (K1 ?_)))
  refine l_y rfl rfl (D8 (cs := [.int .i64 1, .string nm, .string ⟨#[]⟩, .string ⟨#[]⟩, .int .i64 0, .bool false, .int .i32 0, .bool false, .slice none 0 0]) hO rfl) ?_
  refine CK [] hO rfl (fun k' hx hr hO' => t_ends_spec (kd := 1) (nm := nm) (ch := 0) (b := false) (by decide) (by kernel_rfl) (hO := hO')) ?_
  rintro _ _ w ⟨rfl, rfl⟩ hO
  simp only [List.cons_append, List.nil_append] at hO
  refine l_y rfl rfl (y_assign rfl) ?_
  refine K2 (K3 (L9 (K0 (K1 ?_))))
  refine l_y rfl rfl (D8 (cs := [.int .i64 1, .string nm, .string ⟨#[]⟩, .string ⟨#[]⟩, .int .i64 0, .bool false, .int .i32 0, .bool false, .slice none 0 0]) hO rfl) ?_
  refine CK [] hO rfl (fun k' hx hr hO' => t_start_spec (kd := 1) (nm := nm) (ch := 0) (b := false) (by decide) (by subst hN <;> kernel_rfl) (hO := hO')) ?_
  rintro _ _ w ⟨rfl, rfl⟩ hO
  simp only [List.cons_append, List.nil_append] at hO
  refine l_y rfl rfl (y_assign rfl) ?_
  refine K2 (K3 (L9 (K0 (K1 ?_))))
  refine l_y rfl rfl (D8 (cs := [.int .i64 1, .string nm, .string ⟨#[]⟩, .string ⟨#[]⟩, .int .i64 0, .bool false, .int .i32 0, .bool false, .slice none 0 0]) hO rfl) ?_
  refine CK [] hO rfl (fun k' hx hr hO' => t_end_spec (kd := 1) (nm := nm) (ch := 0) (b := false) (by decide) (by kernel_rfl) (hO := hO')) ?_
  rintro _ _ w ⟨rfl, rfl⟩ hO
  simp only [List.cons_append, List.nil_append] at hO
  refine l_y rfl rfl (y_assign rfl) ?_
  refine K2 (K3 (L9 (K0 (K1 ?_))))
  refine l_y rfl rfl (D8 (cs := [.int .i64 1, .string nm, .string ⟨#[]⟩, .string ⟨#[]⟩, .int .i64 0, .bool false, .int .i32 0, .bool false, .slice none 0 0]) hO rfl) ?_
  refine CK [] hO rfl (fun k' hx hr hO' => t_start_spec (kd := 1) (nm := nm) (ch := 0) (b := false) (by decide) (by subst hN <;> kernel_rfl) (hO := hO')) ?_
  rintro _ _ w ⟨rfl, rfl⟩ hO
  simp only [List.cons_append, List.nil_append] at hO
  refine l_y rfl rfl (y_assign rfl) ?_
  refine K2 (K3 (L9 (K0 (K1 ?_))))
  refine l_y rfl rfl (D8 (cs := [.int .i64 1, .string nm, .string ⟨#[]⟩, .string ⟨#[]⟩, .int .i64 0, .bool false, .int .i32 0, .bool false, .slice none 0 0]) hO rfl) ?_
  refine CK [] hO rfl (fun k' hx hr hO' => t_start_spec (kd := 1) (nm := nm) (ch := 0) (b := false) (by decide) (by subst hN <;> kernel_rfl) (hO := hO')) ?_
  rintro _ _ w ⟨rfl, rfl⟩ hO
  simp only [List.cons_append, List.nil_append] at hO
  refine l_y rfl rfl (y_assign rfl) ?_
  refine K2 (K3 (L9 (K0 (K1 ?_))))
  refine l_y rfl rfl (D8 (cs := [.int .i64 1, .string nm, .string ⟨#[]⟩, .string ⟨#[]⟩, .int .i64 0, .bool false, .int .i32 0, .bool false, .slice none 0 0]) hO rfl) ?_
  refine CK [] hO rfl (fun k' hx hr hO' => t_start_spec (kd := 1) (nm := nm) (ch := 0) (b := false) (by decide) (by subst hN <;> kernel_rfl) (hO := hO')) ?_
  rintro _ _ w ⟨rfl, rfl⟩ hO
  simp only [List.cons_append, List.nil_append] at hO
  refine l_y rfl rfl (y_assign rfl) ?_
  refine K2 (K3 (L9 (K5 (K8 (K3 (K0 (K1 ?_)))))))
  refine l_y rfl rfl (y_move rfl) ?_
  refine CK [] hO rfl (fun k' hx hr hO' => t_plain_spec (nm := bodyS) hO') ?_
  rintro _ _ w ⟨rfl, rfl⟩ hO
  simp only [List.cons_append, List.nil_append] at hO
  refine CK [.b b, .o a, .o s] hO rfl (fun k' hx hr hO' => b_put_spec (kd := 1) (nm := bodyS) (ch := 0) h hne (by decide) (by decide) hA hO') ?_
  rintro _ _ w ⟨p1, d1, rfl, rfl⟩ hO
  simp only [List.cons_append, List.nil_append] at hO
  refine K2 (K3 (K0 (K1 ?_)))
  refine l_y rfl rfl (y_move rfl) ?_
  refine CK [.b b] hO rfl (fun k' hx hr hO' => b_again_spec hO') ?_
  rintro _ _ w ⟨rfl, rfl⟩ hO
  simp only [List.cons_append, List.nil_append] at hO
  refine l_y rfl rfl (y_assign rfl) ?_
  refine K2 (K3 (K6 ?_))
  refine finD0 ?_
  exact fin1 rfl rfl ⟨_, ⟨p1, d1, rfl, rfl⟩, hO.only [.b b, .o a, .o s]⟩
end
end Go.Proofs.YtpejdlfkaaiehaaGreatDoor
end
section
set_option linter.unusedVariables false
set_option linter.unusedSimpArgs false
set_option maxRecDepth 100000
namespace Go.Proofs.YtpejdlfkaaiehaaGreatDoor
open Go Go.Hb Go.RowKit
/-- what a builder holds -/
structure TX where
  q : BQ
  A : List Node_one
  K : Int → List Int
  st : List Int
  ns : List ByteArray
  es : List Api_entry
section
variable {k : Ctx} {w : World} {b a s l r : Nat} {q : BQ} {A : List Node_one} {K : Int → List Int} {st : List Int} {ns : List ByteArray} {nm : ByteArray}
theorem b_New_spec (hn : 0 < A.length) (hO : Own k w [arenaL a A]) :
    Tri Tryz.prog 6 #[.pointer (some ⟨a, 0, none⟩), .bool false] k w fun v m => ∃ b s l r, v = .tuple #[.pointer (some ⟨b, 0, none⟩), .int .i64 0] ∧ m = [blk b 65 (bC a s l r ⟨0, -1, 0, 0, false, false⟩), mpV r .i64 rulesL, arenaL a A, stkL s a [], actL l a []] := by
  refine enter (args := [.pointer (some ⟨a, 0, none⟩), .bool false]) Tryz.func6 rfl rfl ?_
  refine K0 (K1 ?_)
  refine l_y rfl rfl (y_assign rfl) ?_
  refine l_y rfl rfl (y_assign rfl) ?_
  refine K2 (K3 (K0 (K1 ?_)))
  refine l_y rfl rfl (y_move rfl) ?_
  refine CK [.o a] hO rfl (fun k' hx hr hO' => sNew_spec hn hO') ?_
  rintro _ _ w ⟨s, rfl, rfl⟩ hO
  simp only [List.cons_append, List.nil_append] at hO
  refine l_y rfl rfl (y_move rfl) ?_
  refine l_y rfl rfl (y_extract rfl rfl) ?_
  refine l_y rfl rfl (y_extract rfl rfl) ?_
  refine l_y rfl rfl (y_assign rfl) ?_
  refine l_y rfl rfl (y_assign rfl) ?_
  refine K2 (K3 (K0 (K1 ?_)))
  refine l_y rfl rfl (y_move rfl) ?_
  refine CK [.o a] hO rfl (fun k' hx hr hO' => aNew_spec hn hO') ?_
  rintro _ _ w ⟨l, rfl, rfl⟩ hO
  simp only [List.cons_append, List.nil_append] at hO
  refine l_y rfl rfl (y_move rfl) ?_
  refine l_y rfl rfl (y_extract rfl rfl) ?_
  refine l_y rfl rfl (y_extract rfl rfl) ?_
  refine l_y rfl rfl (y_assign rfl) ?_
  refine l_y rfl rfl (y_assign rfl) ?_
  refine K2 (K3 (K0 (K0 (K1 ?_))))
  refine l_y rfl rfl (y_move rfl) ?_
  refine N4 ?_
  refine K2 (K3 (L9 (K5 (K3 (K0 (K1 ?_))))))
  refine l_y rfl rfl (y_move rfl) ?_
  refine l_y rfl rfl (y_move rfl) ?_
  refine l_y rfl rfl (y_move rfl) ?_
  refine CK [] hO rfl (fun k' hx hr hO' => rules_spec hO') ?_
  rintro _ _ w ⟨r, rfl, rfl⟩ hO
  simp only [List.cons_append, List.nil_append] at hO
  refine l_y rfl rfl (y_move rfl) ?_
  refine s_build (parts := [(0, .tmp 23), (1, .tmp 24), (2, .tmp 25), (3, .tmp 26), (7, .const (.int .i64 (-1))), (8, .const (.int .i64 (-1))), (9, .const (.int .i64 (-1))), (10, .const (.int .i64 (-1))), (11, .const (.int .i64 (-1))), (16, .tmp 27)]) (cs := [.pointer (some ⟨a, 0, none⟩), .pointer (some ⟨s, 0, none⟩), .pointer (some ⟨l, 0, none⟩), .map (some r), .int .i64 0, .int .i64 0, .slice none 0 0, .int .i64 (-1), .int .i64 (-1), .int .i64 (-1), .int .i64 (-1), .int .i64 (-1), .int .i64 0, .int .i64 0, .bool false, .bool false, .bool false, .bool false, .bool false, .bool false, .slice none 0 0]) rfl rfl (fun a ha => partsOf_sound ha _ _ rfl) (by kernel_rfl) ?_
  refine s_box (vs := [.pointer (some ⟨a, 0, none⟩), .pointer (some ⟨s, 0, none⟩), .pointer (some ⟨l, 0, none⟩), .map (some r), .int .i64 0, .int .i64 0, .slice none 0 0, .int .i64 (-1), .int .i64 (-1), .int .i64 (-1), .int .i64 (-1), .int .i64 (-1), .int .i64 0, .int .i64 0, .bool false, .bool false, .bool false, .bool false, .bool false, .bool false, .slice none 0 0]) hO rfl rfl rfl (by rfl) fun b29 w hO => ?_
  refine l_y rfl rfl (y_assign rfl) ?_
  refine l_y rfl rfl (y_assign rfl) ?_
  refine K2 (K3 (K6 ?_))
  exact fin2 rfl rfl rfl ⟨_, ⟨b29, s, l, r, rfl, rfl⟩, hO.only [.b b29, .o r, .o a, .o s, .o l]⟩
set_option maxHeartbeats 2000000 in
theorem b_Token_spec {kd ch : Int} {n0 : Nat} {x0 : TX} {I : Nat → TX → Prop} {D : TX → Prop} (hk0 : 0 ≤ kd) (hk1 : kd ≤ 5) (hns : nm.size ≤ 1000) (hover : x0.q.over = false) (hmx : x0.A.length + x0.es.length ≤ 30000) (hpos : 0 < x0.A.length) (h0 : I n0 x0)
    (hstep : ∀ n x, I n x → BI x.A x.K x.st x.ns ∧ x.st.length ≤ 1000000 ∧ ∃ f, ∃ _ : Fun Tryz.prog f, lookV rulesL x.q.mode = some (.func (.func f) #[] #[]) ∧ ∀ k' w', Own k' w' [blk b 65 (bC a s l r x.q), arenaL a x.A, stkL s a x.st, actL l a x.es] →
      Tri Tryz.prog f #[.pointer (some ⟨b, 0, none⟩), .agg (Api_token.cells (tk kd nm ch)).toArray] k' w' fun v m => ∃ x2 bb, v = .bool bb ∧ m = [blk b 65 (bC a s l r x2.q), arenaL a x2.A, stkL s a x2.st, actL l a x2.es] ∧ (if bb = true then ∃ n2, n2 < n ∧ I n2 x2 else D x2))
    (hO : Own k w [blk b 65 (bC a s l r x0.q), mpV r .i64 rulesL, arenaL a x0.A, stkL s a x0.st, actL l a x0.es]) :
    Tri Tryz.prog 7 #[.pointer (some ⟨b, 0, none⟩), .agg (Api_token.cells (tk kd nm ch)).toArray] k w fun v m => ∃ x2, D x2 ∧ v = .int .i64 0 ∧ m = [blk b 65 (bC a s l r x2.q), mpV r .i64 rulesL, arenaL a x2.A, stkL s a x2.st, actL l a x2.es] := by
  refine enter (args := [.pointer (some ⟨b, 0, none⟩), .agg (Api_token.cells (tk kd nm ch)).toArray]) Tryz.func7 rfl rfl ?_
  refine K0 (K1 ?_)
  refine s_box (vs := [.int .i64 kd, .string nm, .string ⟨#[]⟩, .string ⟨#[]⟩, .int .i64 0, .bool false, .int .i32 ch, .bool false, .slice none 0 0]) hO rfl rfl rfl (by rfl) fun b3 w hO => ?_
  refine l_y rfl rfl (y_assign rfl) ?_
  refine K2 (K3 (L6 (K0 (K1 ?_))))
  refine l_y rfl rfl (D8 (cs := [.int .i64 kd, .string nm, .string ⟨#[]⟩, .string ⟨#[]⟩, .int .i64 0, .bool false, .int .i32 ch, .bool false, .slice none 0 0]) hO rfl) ?_
  refine s_build (parts := [(0, .tmp 8)]) (cs := [.int .i64 kd, .string nm, .string ⟨#[]⟩, .string ⟨#[]⟩, .int .i64 0, .bool false, .int .i32 ch, .bool false, .slice none 0 0]) rfl rfl (fun a ha => partsOf_sound ha _ _ rfl) (by kernel_rfl) ?_
  refine s_alloc (vs := [.int .i64 0, .string ⟨#[]⟩, .string ⟨#[]⟩, .string ⟨#[]⟩, .int .i64 0, .bool false, .int .i32 0, .bool false, .slice none 0 0]) hO rfl rfl rfl fun b5 w hO => ?_
  refine Y3 hO rfl rfl (fun w hO => ?_)
  refine K2 (K3 (K0 (K4 (K0 (K1 ?_)))))
  refine l_y rfl rfl (y_move rfl) ?_
  refine CK [.b b] hO rfl (fun k' hx hr hO' => b_none_spec hO') ?_
  rintro _ _ w ⟨rfl, rfl⟩ hO
  simp only [List.cons_append, List.nil_append] at hO
  refine l_y rfl rfl (y_assign rfl) ?_
  refine K2 (K3 (L9 (K0 (K1 ?_))))
  refine l_y rfl rfl (y_move rfl) ?_
  refine l_y rfl rfl (y_nilCheck rfl rfl) ?_
  refine l_y rfl rfl (y_fldb (o' := 19) rfl) ?_
  refine l_y rfl rfl (D5 hO rfl (by show some (Value.bool x0.q.over) = _; rw [hover])) ?_
  refine l_y rfl rfl (y_assign rfl) ?_
  refine K2 (K3 (L9 (K0 (K1 ?_))))
  refine l_y rfl rfl (y_fldb (o' := 0) rfl) ?_
  refine l_y rfl rfl (D5 hO rfl) ?_
  refine N3 (hp := (by show ¬ (kd < 0); omega)) ?_
  refine l_y rfl rfl (y_move rfl) ?_
  refine l_y rfl rfl (y_fldb (o' := 0) rfl) ?_
  refine l_y rfl rfl (D5 hO rfl) ?_
  refine N3 (hp := (by show ¬ (kd > 5); omega)) ?_
  refine l_y rfl rfl (y_pick_f rfl rfl) ?_
  refine l_y rfl rfl (y_assign rfl) ?_
  refine K2 (K3 (L9 (K0 (K1 ?_))))
  refine l_y rfl rfl (D8 (cs := [.int .i64 kd, .string nm, .string ⟨#[]⟩, .string ⟨#[]⟩, .int .i64 0, .bool false, .int .i32 ch, .bool false, .slice none 0 0]) hO rfl) ?_
  refine CK [] hO rfl (fun k' hx hr hO' => t_long_spec (kd := kd) (nm := nm) (ch := ch) (by omega) hO') ?_
  rintro _ _ w ⟨rfl, rfl⟩ hO
  simp only [List.cons_append, List.nil_append] at hO
  refine l_y rfl rfl (y_assign rfl) ?_
  refine K2 (K3 (L9 (K0 ?_)))
  refine da_region (by intro c a d v w h; cases d <;> exact h) ?_
  have hO := hO.drew
  refine da_phase _ [9] (SO.ks [.b b] hO) ?_
  refine dx_u 0 (by kernel_rfl) rfl rfl rfl (fun w => y_move rfl) ?_
  refine dx_u 1 (by kernel_rfl) rfl rfl rfl (fun w => y_nilCheck rfl rfl) ?_
  refine dx_u 2 (by kernel_rfl) rfl rfl rfl (fun w => y_fldb (o' := 0) rfl) ?_
  refine dx_y 3 (by kernel_rfl) rfl rfl rfl (fun w ⟨m, hw⟩ => D5 hw rfl) ?_
  refine dx_u 5 (by kernel_rfl) rfl rfl rfl (fun w => y_move rfl) ?_
  refine dx_u 6 (by kernel_rfl) rfl rfl rfl (fun w => y_nilCheck rfl rfl) ?_
  refine dx_u 7 (by kernel_rfl) rfl rfl rfl (fun w => y_fldb (o' := 2) rfl) ?_
  refine dx_y 8 (by kernel_rfl) rfl rfl rfl (fun w ⟨m, hw⟩ => D5 hw rfl) ?_
  refine dx_only 4 (by kernel_rfl) rfl rfl ?_
  refine CK [.o a] hO rfl (fun k' hx hr hO' => LenC_spec hpos (hO := hO')) ?_
  rintro _ _ w ⟨rfl, rfl⟩ hO
  simp only [List.cons_append, List.nil_append] at hO
  refine o_done ?_
  refine ⟨SO.ks [.b b] hO, ?_⟩
  refine dx_close 9 (by kernel_rfl) rfl rfl ?_
  refine CK [.o l] hO rfl (fun k' hx hr hO' => aLen_spec (hO := hO')) ?_
  rintro _ _ w ⟨rfl, rfl⟩ hO
  simp only [List.cons_append, List.nil_append] at hO
  refine o_done ?_
  refine da_phase _ [] (SO.ks [] hO) ?_
  refine dx_u 10 (by kernel_rfl) rfl rfl rfl (fun w => D4) ?_
  refine dx_y 11 (by kernel_rfl) rfl rfl rfl (fun w ⟨m, hw⟩ => D1) ?_
  refine dx_u 12 (by kernel_rfl) rfl rfl rfl (fun w => y_assign rfl) ?_
  refine dx_end (by kernel_rfl) ?_
  refine K3 (L9 (K5 (K8 (K3 (K0 (K1 ?_))))))
  refine l_y rfl rfl (y_move rfl) ?_
  refine l_y rfl rfl (y_nilCheck rfl rfl) ?_
  refine l_y rfl rfl (y_fldb (o' := 17) rfl) ?_
  refine l_y rfl rfl (D5 hO rfl) ?_
  refine l_y rfl rfl (y_move rfl) ?_
  repeat refine M2 ?_
  refine l_y rfl rfl (y_pick_f rfl rfl) ?_
  refine l_y rfl rfl (y_move rfl) ?_
  repeat refine M2 ?_
  refine l_y rfl rfl (y_pick_f rfl rfl) ?_
  refine l_y rfl rfl (y_assign rfl) ?_
  refine K2 (K3 (K0 (K1 ?_)))
  refine l_y rfl rfl (y_move rfl) ?_
  refine l_y rfl rfl (y_move rfl) ?_
  refine l_y rfl rfl (y_nilCheck rfl rfl) ?_
  refine l_y rfl rfl (y_fldb (o' := 17) rfl) ?_
  refine Y1 hO rfl rfl (fun w hO => ?_)
  simp only [List.set_cons_zero, List.set_cons_succ] at hO
  refine l_y rfl rfl (y_nilCheck rfl rfl) ?_
  refine l_y rfl rfl (y_fldb (o' := 18) rfl) ?_
  refine Y1 hO rfl rfl (fun w hO => ?_)
  simp only [List.set_cons_zero, List.set_cons_succ] at hO
  refine K2 (K3 (K0 (K0 (K1 ?_))))
  refine l_y rfl rfl (y_move rfl) ?_
  refine K2 (K3 (L9 (K5 (K3 (K0 (L5 (K3 (K0 (K4 ?_)))))))))
  refine c_rounds (X := Nat × TX) (fun x => [(0, .pointer (some ⟨b, 0, none⟩)), (4, .int .i64 0), (5, .pointer (some ⟨b5, 0, none⟩))]) (fun x w => Own k w [blk b 65 (bC a s l r x.2.q), mpV r .i64 rulesL, arenaL a x.2.A, stkL s a x.2.st, actL l a x.2.es, blk b5 67 (Api_token.cells (tk kd nm ch))] ∧ (I x.1 x.2)) (fun x => x.1) ((n0, x0)) ⟨rfl, rfl, rfl, trivial⟩ ⟨hO.only [.b b, .o r, .o a, .o s, .o l, .b b5], h0⟩ ?_
  rintro x w m hm ⟨hO, hI⟩
  obtain ⟨hbi, hl, f, hF, hlook, hcall⟩ := hstep _ _ hI
  refine K4 (K0 (K1 ?_))
  refine l_y rfl rfl (y_assign rfl) ?_
  refine K2 (K3 (K0 (K0 (K1 ?_))))
  refine l_y rfl rfl (y_move rfl) ?_
  refine l_y rfl rfl (D8 (cs := [.int .i64 kd, .string nm, .string ⟨#[]⟩, .string ⟨#[]⟩, .int .i64 0, .bool false, .int .i32 ch, .bool false, .slice none 0 0]) hO rfl) ?_
  refine CK [.b b, .o a, .o s] hO rfl (fun k' hx hr hO' => b_native_spec (kd := kd) (nm := nm) (ch := ch) hbi hl hO') ?_
  rintro _ _ w ⟨rfl, rfl⟩ hO
  simp only [List.cons_append, List.nil_append] at hO
  refine K2 (K3 (L8 ?_))
  refine da_region (by intro c a d v w h; cases d <;> exact h) ?_
  have hO := hO.drew
  refine da_phase _ [] (SO.ks [.b b, .o r] hO) ?_
  refine dx_u 0 (by kernel_rfl) rfl rfl rfl (fun w => y_move rfl) ?_
  refine dx_u 1 (by kernel_rfl) rfl rfl rfl (fun w => y_nilCheck rfl rfl) ?_
  refine dx_u 2 (by kernel_rfl) rfl rfl rfl (fun w => y_fldb (o' := 3) rfl) ?_
  refine dx_y 3 (by kernel_rfl) rfl rfl rfl (fun w ⟨m, hw⟩ => D5 hw rfl) ?_
  refine dx_u 4 (by kernel_rfl) rfl rfl rfl (fun w => y_move rfl) ?_
  refine dx_u 5 (by kernel_rfl) rfl rfl rfl (fun w => y_nilCheck rfl rfl) ?_
  refine dx_u 6 (by kernel_rfl) rfl rfl rfl (fun w => y_fldb (o' := 4) rfl) ?_
  refine dx_y 7 (by kernel_rfl) rfl rfl rfl (fun w ⟨m, hw⟩ => D5 hw rfl) ?_
  refine dx_y 8 (by kernel_rfl) rfl rfl rfl (fun w ⟨m, hw⟩ => y_lookV hw rfl rfl hlook) ?_
  refine dx_u 9 (by kernel_rfl) rfl rfl rfl (fun w => y_assign rfl) ?_
  refine dx_end (by kernel_rfl) ?_
  refine K3 (K0 (K1 ?_))
  refine l_y rfl rfl (y_move rfl) ?_
  refine l_y rfl rfl (y_move rfl) ?_
  refine l_y rfl rfl (D8 (cs := [.int .i64 kd, .string nm, .string ⟨#[]⟩, .string ⟨#[]⟩, .int .i64 0, .bool false, .int .i32 ch, .bool false, .slice none 0 0]) hO rfl) ?_
  refine CKv [.b b, .o a, .o s, .o l] hO rfl rfl (fun k' hx hr hO' => hcall k' _ hO') ?_
  rintro _ _ w ⟨x2, bb, rfl, rfl, hor⟩ hO
  simp only [List.cons_append, List.nil_append] at hO
  refine l_y rfl rfl (y_not rfl rfl) ?_
  refine K2 (K3 ?_)
  refine c_split rfl (fun hc80 => ?_) (fun hc80 => ?_)
  · simp only [Bool.not_eq_true', Bool.not_eq_false'] at hc80
    refine K7 (L7 (L1 (L2 (K3 (K0 (K0 (K1 ?_)))))))
    refine l_y rfl rfl (y_fldb (o' := 0) rfl) ?_
    refine l_y rfl rfl (y_fldb (o' := 7) rfl) ?_
    refine l_y rfl rfl (D5 hO rfl) ?_
    refine l_y rfl rfl (y_move rfl) ?_
    repeat refine M2 ?_
    refine l_y rfl rfl (y_pick_f rfl rfl) ?_
    refine l_y rfl rfl (y_move rfl) ?_
    repeat refine M2 ?_
    refine l_y rfl rfl (y_pick_f rfl rfl) ?_
    refine K2 (K3 (L9 (K5 (K3 (K0 (K1 ?_))))))
    refine l_y rfl rfl (y_assign rfl) ?_
    refine K2 (K3 (K6 (L4 ?_)))
    rw [if_neg (by rw [hc80]; simp)] at hor
    exact fin1 rfl rfl ⟨_, ⟨x2, hor, rfl, rfl⟩, hO.only [.b b, .o r, .o a, .o s, .o l]⟩
  · simp only [Bool.not_eq_true', Bool.not_eq_false'] at hc80
    refine K5 (K8 ?_)
    rw [if_pos hc80] at hor
    obtain ⟨n2, hn2, hI2⟩ := hor
    exact q_next ((n2, x2)) ⟨rfl, rfl, rfl, trivial⟩ ⟨hO.only [.b b, .o r, .o a, .o s, .o l, .b b5], hI2⟩ (by dsimp only; omega)
end
end Go.Proofs.YtpejdlfkaaiehaaGreatDoor
end
section
set_option linter.unusedVariables false
set_option linter.unusedSimpArgs false
set_option maxRecDepth 100000
namespace Go.Proofs.YtpejdlfkaaiehaaGreatDoor
open Go Go.Hb Go.RowKit
theorem fr {P : Program} {k : Ctx} {w : World} {l As rl m0 : List HP} (qs : List Key) [hp : AtKs l qs As rl m0] {f : FuncId} {vs : Array Value} {R : Value → List HP → Prop} (hO : Own k w l) (hc : ∀ k', Own k' w As → Tri P f vs k' w R) : Ret P f vs w fun v w' => ∃ m, R v m ∧ Own k w' (m ++ rl) := Ret.framed hO hp.pulls fun k' _ _ h => hc k' h
/-- what is known of a builder's counts -/
structure QOk (x : TX) (n : Nat) : Prop where
  over : x.q.over = false
  e0 : 0 ≤ x.q.errs
  e9 : x.q.errs ≤ n
  len : x.A.length ≤ n
theorem BI.init : BI [docD] (fun _ => []) [] [] := ⟨Tree.new, by decide, by decide, StkI.nil, rfl, fun i hi => by simp at hi, fun n hn => by simp at hn⟩
/-- n steps are still to come of the first token -/
def Stg (n : Nat) (x : TX) : Prop := BI x.A x.K x.st x.ns ∧ QOk x 20 ∧ x.es = [] ∧
  ((n = 6 ∧ x.q.mode = 0 ∧ x.q.errs = 0 ∧ x.A = [docD] ∧ x.K = (fun _ => []) ∧ x.st = [] ∧ x.ns = []) ∨
   (n = 5 ∧ x.q.mode = 1 ∧ x.A = [docD] ∧ x.K = (fun _ => []) ∧ x.st = [] ∧ x.ns = []) ∨
   (n = 4 ∧ x.q.mode = 2 ∧ (∃ p d, x.A = addA [docD] (elementN p d 0 htmlS []) 0) ∧ x.K = addKK [docD] (fun _ => []) 0 ∧ x.st = [1] ∧ x.ns = [htmlS]) ∨
   (n = 3 ∧ x.q.mode = 3 ∧ (∃ p d p2 d2, x.A = addA (addA [docD] (elementN p d 0 htmlS []) 0) (elementN p2 d2 0 headS []) 1 ∧ x.K = addKK (addA [docD] (elementN p d 0 htmlS []) 0) (addKK [docD] (fun _ => []) 0) 1) ∧ x.st = [1, 2] ∧ x.ns = [htmlS, headS]) ∨
   (n = 2 ∧ x.q.mode = 5 ∧ (∃ p d p2 d2, x.A = addA (addA [docD] (elementN p d 0 htmlS []) 0) (elementN p2 d2 0 headS []) 1 ∧ x.K = addKK (addA [docD] (elementN p d 0 htmlS []) 0) (addKK [docD] (fun _ => []) 0) 1) ∧ x.st = [1] ∧ x.ns = [htmlS]))
/-- html, head and body are there -/
def Bod (x : TX) : Prop := BI x.A x.K x.st x.ns ∧ QOk x 20 ∧ x.es = [] ∧ x.q.mode = 6 ∧
  (∃ p d p2 d2 p3 d3, x.A = addA (addA (addA [docD] (elementN p d 0 htmlS []) 0) (elementN p2 d2 0 headS []) 1) (elementN p3 d3 0 bodyS []) 1 ∧ x.K = addKK (addA (addA [docD] (elementN p d 0 htmlS []) 0) (elementN p2 d2 0 headS []) 1) (addKK (addA [docD] (elementN p d 0 htmlS []) 0) (addKK [docD] (fun _ => []) 0) 1) 1) ∧ x.st = [1, 3] ∧ x.ns = [htmlS, bodyS]
section
variable {k : Ctx} {w : World} {b a s l r : Nat} {nm : ByteArray}
theorem el_kid (q : Option Addr) (d : Nat) (nm : ByteArray) : (elementN q d 0 nm []).Kind ≠ 0 ∧ (elementN q d 0 nm []).Kind ≠ 5 := ⟨show (1 : Int) ≠ 0 by decide, show (1 : Int) ≠ 5 by decide⟩
/-- a step of the first token; what comes behind the head is told for each name -/
theorem stg_step {R P : TX → Prop} {n : Nat} {x : TX} (hN : nm = pS ∨ nm = bodyS) (hI : Stg n x)
    (hlast : n = 2 → ∃ f, ∃ _ : Fun Tryz.prog f, lookV rulesL x.q.mode = some (.func (.func f) #[] #[]) ∧ ∀ k' w', Own k' w' [blk b 65 (bC a s l r x.q), arenaL a x.A, stkL s a x.st, actL l a x.es] →
      Tri Tryz.prog f #[.pointer (some ⟨b, 0, none⟩), .agg (Api_token.cells (tk 1 nm 0)).toArray] k' w' fun v m => ∃ x2 bb, v = .bool bb ∧ m = [blk b 65 (bC a s l r x2.q), arenaL a x2.A, stkL s a x2.st, actL l a x2.es] ∧ (if bb = true then P x2 else R x2)) :
    BI x.A x.K x.st x.ns ∧ x.st.length ≤ 1000000 ∧ ∃ f, ∃ _ : Fun Tryz.prog f, lookV rulesL x.q.mode = some (.func (.func f) #[] #[]) ∧ ∀ k' w', Own k' w' [blk b 65 (bC a s l r x.q), arenaL a x.A, stkL s a x.st, actL l a x.es] →
      Tri Tryz.prog f #[.pointer (some ⟨b, 0, none⟩), .agg (Api_token.cells (tk 1 nm 0)).toArray] k' w' fun v m => ∃ x2 bb, v = .bool bb ∧ m = [blk b 65 (bC a s l r x2.q), arenaL a x2.A, stkL s a x2.st, actL l a x2.es] ∧ (if bb = true then (∃ n2, n2 < n ∧ Stg n2 x2) ∨ P x2 else R x2) := by
  obtain ⟨hbi, hq, hes, hc⟩ := hI
  have hlen := hbi.len_st
  refine ⟨hbi, by have := hq.len; omega, ?_⟩
  obtain ⟨q, A, K, st, ns, es⟩ := x
  dsimp only at *
  rcases hc with ⟨rfl, hm, he0, rfl, rfl, rfl, rfl⟩ | ⟨rfl, hm, rfl, rfl, rfl, rfl⟩ | ⟨rfl, hm, ⟨p1, d1, hA⟩, hK, rfl, rfl⟩ | ⟨rfl, hm, ⟨p1, d1, p2, d2, hA, hK⟩, rfl, rfl⟩ | ⟨rfl, hm, _, rfl, rfl⟩
  · refine ⟨42, inferInstance, by rw [hm]; rfl, fun k' w' hO => ?_⟩
    refine Ret.mono (fr [.b b] hO fun k2 hO2 => b_initial_spec (Int.le_trans (show q.errs ≤ (20 : Nat) from hq.e9) (by decide)) hq.e0 hO2) ?_
    rintro v w2 ⟨m, ⟨rfl, rfl⟩, hO⟩
    refine ⟨_, ⟨⟨{ q with errs := q.errs + 1, quirk := 2, mode := 1 }, [docD], fun _ => [], [], [], es⟩, true, rfl, rfl, ?_⟩, hO⟩
    rw [if_pos rfl]
    exact .inl ⟨5, by omega, hbi, ⟨hq.over, by dsimp only; omega, by dsimp only; omega, hq.len⟩, hes, .inr (.inl ⟨rfl, rfl, rfl, rfl, rfl, rfl⟩)⟩
  · refine ⟨43, inferInstance, by rw [hm]; rfl, fun k' w' hO => ?_⟩
    refine Ret.mono (fr [.b b, .o a, .o s] hO fun k2 hO2 => b_beforeHTML_spec hN hbi (by decide) hO2) ?_
    rintro v w2 ⟨m, ⟨p1, d1, rfl, rfl⟩, hO⟩
    have g : AddOk [docD] (fun _ => []) (elementN p1 d1 0 htmlS []) 0 := addA_ok hbi.tree hbi.in0 hbi.doc (el_kid p1 d1 htmlS) (Nat.zero_le _)
    have h2 := (hbi.push g (by decide)).1
    refine ⟨_, ⟨⟨{ q with mode := 2 }, addA [docD] (elementN p1 d1 0 htmlS []) 0, addKK [docD] (fun _ => []) 0, [1], [htmlS], es⟩, true, rfl, rfl, ?_⟩, hO⟩
    rw [if_pos rfl]
    exact .inl ⟨4, by omega, h2, ⟨hq.over, hq.e0, hq.e9, by dsimp only; rw [addA_len]; decide⟩, hes, .inr (.inr (.inl ⟨rfl, rfl, ⟨p1, d1, rfl⟩, rfl, rfl, rfl⟩))⟩
  · refine ⟨44, inferInstance, by rw [hm]; rfl, fun k' w' hO => ?_⟩
    have hl : A.length = 2 := by rw [hA, addA_len]; rfl
    refine Ret.mono (fr [.b b, .o a, .o s] hO fun k2 hO2 => b_beforeHead_spec hN hbi (by simp) (by omega) hO2) ?_
    rintro v w2 ⟨m, ⟨p2, d2, rfl, rfl⟩, hO⟩
    have h2 := (hbi.push (hbi.addOk (by simp) (el_kid p2 d2 headS) (Nat.zero_le _)) (by decide)).1
    rw [hl] at h2 hO
    refine ⟨_, ⟨⟨{ q with head := ((2 : Nat) : Int), mode := 3 }, addA A (elementN p2 d2 0 headS []) 1, addKK A K 1, [1, 2], [htmlS, headS], es⟩, true, rfl, rfl, ?_⟩, hO⟩
    rw [if_pos rfl]
    exact .inl ⟨3, by omega, h2, ⟨hq.over, hq.e0, hq.e9, by dsimp only; rw [addA_len]; omega⟩, hes, .inr (.inr (.inr (.inl ⟨rfl, rfl, ⟨p1, d1, p2, d2, by dsimp only; rw [hA], by dsimp only; rw [hA, hK]⟩, rfl, rfl⟩)))⟩
  · refine ⟨45, inferInstance, by rw [hm]; rfl, fun k' w' hO => ?_⟩
    refine Ret.mono (fr [.b b, .o s] hO fun k2 hO2 => b_inHead_spec hN (by decide) hbi.ne hO2) ?_
    rintro v w2 ⟨m, ⟨rfl, rfl⟩, hO⟩
    simp only [List.cons_append, List.nil_append] at hO
    refine ⟨_, ⟨⟨{ q with mode := 5 }, A, K, [1], [htmlS], es⟩, true, rfl, rfl, ?_⟩, hO.ks [.b b, .o a, .o s, .o l]⟩
    rw [if_pos rfl]
    exact .inl ⟨2, by omega, hbi.take 1, ⟨hq.over, hq.e0, hq.e9, hq.len⟩, hes, .inr (.inr (.inr (.inr ⟨rfl, rfl, ⟨p1, d1, p2, d2, hA, hK⟩, rfl, rfl⟩)))⟩
  · obtain ⟨f, hF, hlk, hc⟩ := hlast rfl
    refine ⟨f, hF, hlk, fun k' w' hO => (hc k' w' hO).mono ?_⟩
    rintro v m ⟨x2, bb, h1, h2, h3⟩
    refine ⟨x2, bb, h1, h2, ?_⟩
    cases bb with
    | true => exact .inr h3
    | false => exact h3
theorem Stg.last {x : TX} (h : Stg 2 x) : BI x.A x.K [1] [htmlS] ∧ QOk x 20 ∧ x.es = [] ∧ x.q.mode = 5 ∧ (∃ p d p2 d2, x.A = addA (addA [docD] (elementN p d 0 htmlS []) 0) (elementN p2 d2 0 headS []) 1 ∧ x.K = addKK (addA [docD] (elementN p d 0 htmlS []) 0) (addKK [docD] (fun _ => []) 0) 1) ∧ x.st = [1] ∧ x.ns = [htmlS] := by
  obtain ⟨h1, h2, h3, h4⟩ := h
  rcases h4 with ⟨h, _⟩ | ⟨h, _⟩ | ⟨h, _⟩ | ⟨h, _⟩ | ⟨_, hm, ha, hs, hn⟩
  · omega
  · omega
  · omega
  · omega
  · rw [hs, hn] at h1; exact ⟨h1, h2, h3, hm, ha, hs, hn⟩
abbrev q0Q (q : BQ) : BQ := { q with mode := 6 }
theorem stg_last0 {x : TX} (hN : nm = pS) (h : Stg 2 x) : ∃ f, ∃ _ : Fun Tryz.prog f, lookV rulesL x.q.mode = some (.func (.func f) #[] #[]) ∧ ∀ k' w', Own k' w' [blk b 65 (bC a s l r x.q), arenaL a x.A, stkL s a x.st, actL l a x.es] →
      Tri Tryz.prog f #[.pointer (some ⟨b, 0, none⟩), .agg (Api_token.cells (tk 1 nm 0)).toArray] k' w' fun v m => ∃ x2, v = .bool true ∧ m = [blk b 65 (bC a s l r x2.q), arenaL a x2.A, stkL s a x2.st, actL l a x2.es] ∧ Bod x2 := by
  obtain ⟨hbi, hq, hes, hm, ⟨p1, d1, p2, d2, hA, hK⟩, hst, hns⟩ := h.last
  refine ⟨47, inferInstance, by rw [hm]; rfl, fun k' w' hO => ?_⟩
  have hl : x.A.length = 3 := by rw [hA, addA_len, addA_len]; rfl
  rw [hst] at hO
  refine Ret.mono (fr [.b b, .o a, .o s] hO fun k2 hO2 => b_afterHead0_spec hN hbi (by simp) (by omega) hO2) ?_
  rintro v w2 ⟨m, ⟨p3, d3, rfl, rfl⟩, hO⟩
  have h2 := (hbi.push (hbi.addOk (by simp) (el_kid p3 d3 bodyS) (Nat.zero_le _)) (by decide)).1
  rw [hl] at h2 hO
  exact ⟨_, ⟨⟨q0Q x.q, addA x.A (elementN p3 d3 0 bodyS []) 1, addKK x.A x.K 1, [1, 3], [htmlS, bodyS], x.es⟩, rfl, rfl, h2, ⟨hq.over, hq.e0, hq.e9, by dsimp only; rw [addA_len]; omega⟩, hes, rfl, ⟨p1, d1, p2, d2, p3, d3, by dsimp only; rw [hA], by dsimp only; rw [hA, hK]⟩, rfl, rfl⟩, hO⟩
end
end Go.Proofs.YtpejdlfkaaiehaaGreatDoor
end
section
set_option linter.unusedVariables false
set_option linter.unusedSimpArgs false
set_option maxRecDepth 100000
namespace Go.Proofs.YtpejdlfkaaiehaaGreatDoor
open Go Go.Hb Go.RowKit
def fnL : List ByteArray := [⟨#[98]⟩, ⟨#[105]⟩, ⟨#[99, 111, 100, 101]⟩, ⟨#[117]⟩]
theorem fn_cases {nm : ByteArray} (h : nm ∈ fnL) : nm = ⟨#[98]⟩ ∨ nm = ⟨#[105]⟩ ∨ nm = ⟨#[99, 111, 100, 101]⟩ ∨ nm = ⟨#[117]⟩ := by
  simpa [fnL] using h
section
variable {nm : ByteArray}
theorem fn_hno (h : nm ∈ fnL) : ∀ i, i < 4 → oneB nm (at_ startsL i).names = false := fun i hi => by
  have hi4 : i = 0 ∨ i = 1 ∨ i = 2 ∨ i = 3 := by omega
  rcases fn_cases h with rfl | rfl | rfl | rfl <;> rcases hi4 with rfl | rfl | rfl | rfl <;> (show oneB _ _ = false; kernel_rfl)
theorem fn_yes (h : nm ∈ fnL) : oneB nm (at_ startsL 4).names = true := by
  rcases fn_cases h with rfl | rfl | rfl | rfl <;> kernel_rfl
theorem fn_no (h : nm ∈ fnL) : (decide ((1 : Int) = 1) && oneB nm ⟨#[110, 111, 115, 99, 114, 105, 112, 116]⟩) = false := by
  rcases fn_cases h with rfl | rfl | rfl | rfl <;> kernel_rfl
theorem fn_nt (h : nm ∈ fnL) : inB nm templL = false ∧ inB nm tableL = false := by
  rcases fn_cases h with rfl | rfl | rfl | rfl <;> exact ⟨by decide, by decide⟩
theorem fn_size (h : nm ∈ fnL) : nm.size ≤ 1000 := by
  rcases fn_cases h with rfl | rfl | rfl | rfl <;> decide
theorem fn_a (h : nm ∈ fnL) : nm ≠ ⟨#[97]⟩ ∧ nm ≠ ⟨#[110, 111, 98, 114]⟩ ∧ nm ≠ pS := by
  rcases fn_cases h with rfl | rfl | rfl | rfl <;> exact ⟨by decide, by decide, by decide⟩
theorem fn_imp (h : nm ∈ fnL) : implB pS 0 nm = false := by
  rcases fn_cases h with rfl | rfl | rfl | rfl <;> decide
theorem fn_bd (h : nm ∈ fnL) : borderB 2 0 nm = false := by
  rcases fn_cases h with rfl | rfl | rfl | rfl <;> decide
theorem p_hno : ∀ i, i < 2 → oneB pS (at_ startsL i).names = false := fun i hi => by
  have hi4 : i = 0 ∨ i = 1 := by omega
  rcases hi4 with rfl | rfl <;> (show oneB _ _ = false; kernel_rfl)
theorem p_yes : oneB pS (at_ startsL 2).names = true := by kernel_rfl
theorem p_no : (decide ((1 : Int) = 1) && oneB pS ⟨#[110, 111, 115, 99, 114, 105, 112, 116]⟩) = false := by kernel_rfl
end
end Go.Proofs.YtpejdlfkaaiehaaGreatDoor
end
section
set_option linter.unusedVariables false
set_option linter.unusedSimpArgs false
set_option maxRecDepth 100000
namespace Go.Proofs.YtpejdlfkaaiehaaGreatDoor
open Go Go.Hb Go.RowKit
/-- n formatting elements are open in a paragraph -/
structure AW (x : TX) (nm : ByteArray) (j : Nat) : Prop where
  bi : BI x.A x.K x.st x.ns
  ns : x.ns = [htmlS, bodyS, pS] ++ List.replicate j nm
  q : QOk x (30 + j)
  mode : x.q.mode = 6
  al : AL x.A x.es nm
  len : x.es.length = min j 3
  last : x.es = [] ∨ 0 ≤ findI x.st (at_ x.es (x.es.length - 1)).Node
  mem : ∀ e ∈ x.es, e.Node ∈ x.st.drop 3
/-- the paragraph behind -/
structure PW (x : TX) (nm : ByteArray) (j : Nat) : Prop where
  bi : BI x.A x.K x.st x.ns
  ns : x.ns = [htmlS, bodyS, pS]
  q : QOk x (40 + j)
  mode : x.q.mode = 6
  al : AL x.A x.es nm
  len : x.es.length = min j 3
  no : ∀ e ∈ x.es, e.Node ∉ x.st
  top : x.K (topI x.st) = []
  tz : topI x.st ≠ 0
/-- the end -/
structure FW (x : TX) (nm : ByteArray) (j : Nat) : Prop where
  bi : BI x.A x.K x.st x.ns
  ns : x.ns = [htmlS, bodyS, pS] ++ List.replicate (min j 3) nm
  q : QOk x (100 + j)
  len : x.es.length = min j 3
theorem AW.stl {x : TX} {nm : ByteArray} {j : Nat} (h : AW x nm j) : x.st.length = 3 + j := by
  rw [← h.bi.len, h.ns]; simp; omega
theorem findI_snoc {l : List Int} {x : Int} : 0 ≤ findI (l ++ [x]) x := by
  rcases idx_cases (fun y => decide (y = x)) (l ++ [x]) with ⟨_, h⟩ | ⟨i, e, _⟩
  · have := h l.length (by simp)
    rw [at_app_new] at this
    simp at this
  · unfold findI; omega
theorem dropL_top {is : Int → Bool} {l : List Int} (h : is (topI l) = false) : dropL is l = l := by
  rcases List.eq_nil_or_concat l with rfl | ⟨m, z, rfl⟩
  · rfl
  · rw [List.concat_eq_append] at h ⊢
    rw [topI_snoc] at h
    rw [dropL_snoc, h, if_neg (by simp)]
theorem BI.bd {A : List Node_one} {K : Int → List Int} {st : List Int} {ns : List ByteArray} (h : BI A K st ns) {kind : Int} {i : Nat} (hi : i < st.length) : bdA A kind (at_ st i) = borderB kind 0 (at_ ns i) := by
  obtain ⟨h1, h2, _⟩ := h.one i hi
  have e1 : (at_ A (at_ st i).toNat).Node.Space = 0 := h2
  have e2 : (at_ A (at_ st i).toNat).Node.Name = at_ ns i := h1
  rw [bdA, e1, e2]
theorem BI.imp {A : List Node_one} {K : Int → List Int} {st : List Int} {ns : List ByteArray} (h : BI A K st ns) {but : ByteArray} {i : Nat} (hi : i < st.length) : implA A but (at_ st i) = implB but 0 (at_ ns i) := by
  obtain ⟨h1, h2, _⟩ := h.one i hi
  have e1 : (at_ A (at_ st i).toNat).Node.Space = 0 := h2
  have e2 : (at_ A (at_ st i).toNat).Node.Name = at_ ns i := h1
  rw [implA, e1, e2]
/-- a name on the stack, by its place -/
theorem AW.name {x : TX} {nm : ByteArray} {j i : Nat} (h : AW x nm j) (hi : i < x.st.length) : at_ x.ns i = if i = 0 then htmlS else if i = 1 then bodyS else if i = 2 then pS else nm := by
  have hl := h.stl
  rw [h.ns]
  match i, hi with
  | 0, _ => rfl
  | 1, _ => rfl
  | 2, _ => rfl
  | i + 3, hi =>
    rw [if_neg (by omega), if_neg (by omega), if_neg (by omega), at_app_r (by simp)]
    refine at_eq ?_
    rw [List.getElem?_replicate, if_pos (by simp; omega)]
section
variable {k : Ctx} {w : World} {b a s l r : Nat} {nm : ByteArray}
/-- one more formatting element -/
theorem ark_fmt {x : TX} {j : Nat} (hn : nm ∈ fnL) (hj : j ≤ 100) (h : AW x nm j) (hO : Own k w [blk b 65 (bC a s l r x.q), mpV r .i64 rulesL, arenaL a x.A, stkL s a x.st, actL l a x.es]) :
    Tri Tryz.prog 7 #[.pointer (some ⟨b, 0, none⟩), .agg (Api_token.cells (tk 1 nm 0)).toArray] k w fun v m => ∃ x2, AW x2 nm (j + 1) ∧ v = .int .i64 0 ∧ m = [blk b 65 (bC a s l r x2.q), mpV r .i64 rulesL, arenaL a x2.A, stkL s a x2.st, actL l a x2.es] := by
  have hstl := h.stl
  have hlenA := h.q.len
  have hesl := h.len
  have hne : x.st ≠ [] := by intro e; rw [e] at hstl; simp at hstl; omega
  refine b_Token_spec (n0 := 1) (x0 := x) (I := fun n y => n = 1 ∧ y = x) (D := fun y => AW y nm (j + 1)) (by decide) (by decide) (fn_size hn) h.q.over (by omega) h.bi.pos ⟨rfl, rfl⟩ ?_ hO
  rintro n y ⟨rfl, rfl⟩
  refine ⟨h.bi, by omega, 48, inferInstance, by rw [h.mode]; rfl, fun k' w' hO => ?_⟩
  refine Tri.mono (b_inBody1_spec (j := 4) (f := 160) (fn_no hn) (by decide) (fn_hno hn) (fn_yes hn) rfl (fun k2 w2 hO2 => b_formatting_spec h.bi hne h.al h.last (by omega) (fn_a hn).1 (fn_a hn).2.1 (fn_nt hn) (fn_size hn) (by omega) hO2) hO) ?_
  rintro v m ⟨p1, d1, rfl, rfl⟩
  have g := h.bi.addOk (n := elementN p1 d1 0 nm []) hne (el_kid p1 d1 nm) (Nat.zero_le _)
  obtain ⟨e1, e2, e3⟩ := new_el g
  obtain ⟨al2, len2, _, mem2⟩ := (h.al.add g).push e1 e2 e3 h.al.old
  have hdrop : (y.st ++ [(y.A.length : Int)]).drop 3 = y.st.drop 3 ++ [(y.A.length : Int)] := List.drop_append_of_le_length (by omega)
  refine ⟨⟨y.q, addA y.A (elementN p1 d1 0 nm []) (topI y.st), addKK y.A y.K (topI y.st), y.st ++ [(y.A.length : Int)], y.ns ++ [nm], pushE (addA y.A (elementN p1 d1 0 nm []) (topI y.st)) y.es ⟨y.A.length, tk 1 nm 0⟩⟩, false, rfl, rfl, ?_⟩
  rw [if_neg (by simp)]
  refine ⟨(h.bi.push g (fn_nt hn)).1, ?_, ⟨h.q.over, h.q.e0, ?_, ?_⟩, h.mode, al2, ?_, .inr ?_, fun e he => ?_⟩
  · dsimp only; rw [h.ns, List.append_assoc, ← List.replicate_succ']
  · have := h.q.e9; dsimp only; omega
  · dsimp only; rw [addA_len]; omega
  · dsimp only; rw [len2, hesl]; split <;> omega
  · dsimp only
    have e4 : at_ (pushE (addA y.A (elementN p1 d1 0 nm []) (topI y.st)) y.es ⟨y.A.length, tk 1 nm 0⟩) ((pushE (addA y.A (elementN p1 d1 0 nm []) (topI y.st)) y.es ⟨y.A.length, tk 1 nm 0⟩).length - 1) = ⟨y.A.length, tk 1 nm 0⟩ := by
      rw [pushE, List.length_append, List.length_singleton, Nat.add_sub_cancel, at_app_new]
    rw [e4]; exact findI_snoc
  · dsimp only at he ⊢
    rw [hdrop]
    rcases mem2 e he with he | rfl
    · exact List.mem_append_left _ (h.mem e he)
    · exact List.mem_append_right _ (List.mem_singleton.2 rfl)
/-- the first paragraph -/
theorem ark_first {x : TX} (hx : x = ⟨⟨0, -1, 0, 0, false, false⟩, [docD], fun _ => [], [], [], []⟩) (hO : Own k w [blk b 65 (bC a s l r x.q), mpV r .i64 rulesL, arenaL a x.A, stkL s a x.st, actL l a x.es]) :
    Tri Tryz.prog 7 #[.pointer (some ⟨b, 0, none⟩), .agg (Api_token.cells (tk 1 pS 0)).toArray] k w fun v m => ∃ x2, AW x2 nm 0 ∧ v = .int .i64 0 ∧ m = [blk b 65 (bC a s l r x2.q), mpV r .i64 rulesL, arenaL a x2.A, stkL s a x2.st, actL l a x2.es] := by
  have h0 : Stg 6 x := by subst hx; exact ⟨BI.init, ⟨rfl, by decide, by decide, by decide⟩, rfl, .inl ⟨rfl, rfl, rfl, rfl, rfl, rfl, rfl⟩⟩
  refine b_Token_spec (n0 := 6) (x0 := x) (I := fun n y => Stg n y ∨ n = 1 ∧ Bod y) (D := fun y => AW y nm 0) (by decide) (by decide) (by decide) (by rw [hx]) (by rw [hx]; decide) (by rw [hx]; decide) (.inl h0) ?_ hO
  rintro n y (hI | ⟨rfl, hB⟩)
  · have hst := stg_step (b := b) (a := a) (s := s) (l := l) (r := r) (R := fun y => AW y nm 0) (P := Bod) (.inl rfl) hI fun e => by
      subst e
      obtain ⟨f, hF, h1, h2⟩ := stg_last0 (b := b) (a := a) (s := s) (l := l) (r := r) rfl hI
      exact ⟨f, hF, h1, fun k' w' hO => (h2 k' w' hO).mono fun v m ⟨x2, e1, e2, e3⟩ => ⟨x2, true, e1, e2, by rw [if_pos rfl]; exact e3⟩⟩
    obtain ⟨h1, h2, f, hF, h3, h4⟩ := hst
    refine ⟨h1, h2, f, hF, h3, fun k' w' hO => (h4 k' w' hO).mono ?_⟩
    rintro v m ⟨x2, bb, e1, e2, e3⟩
    refine ⟨x2, bb, e1, e2, ?_⟩
    cases bb with
    | false => exact e3
    | true =>
      rw [if_pos rfl] at e3 ⊢
      rcases e3 with ⟨n2, hn2, e3⟩ | e3
      · exact ⟨n2, hn2, .inl e3⟩
      · have hn1 : 1 < n := by
          obtain ⟨_, _, _, h9⟩ := hI
          rcases h9 with ⟨h, _⟩ | ⟨h, _⟩ | ⟨h, _⟩ | ⟨h, _⟩ | ⟨h, _⟩ <;> omega
        exact ⟨1, hn1, .inr ⟨rfl, e3⟩⟩
  · obtain ⟨hbi, hq, hes, hm, ⟨p1, d1, p2, d2, p3, d3, hA, hK⟩, hst, hns⟩ := hB
    have hl : y.A.length = 4 := by rw [hA, addA_len, addA_len, addA_len]; rfl
    have hne : y.st ≠ [] := by rw [hst]; simp
    refine ⟨hbi, by rw [hst]; decide, 48, inferInstance, by rw [hm]; rfl, fun k' w' hO => ?_⟩
    have hnp : ∀ n ∈ y.ns, n ≠ pS := by
      intro n hn
      rw [hns] at hn
      simp only [List.mem_cons, List.not_mem_nil, or_false] at hn
      rcases hn with rfl | rfl <;> decide
    refine Tri.mono (b_inBody1_spec (j := 2) (f := 158) p_no (by decide) p_hno p_yes rfl (R := fun v m => ∃ p d, v = .bool false ∧ m = [blk b 65 (bC a s l r y.q), arenaL a (addA y.A (elementN p d 0 pS []) (topI y.st)), stkL s a (y.st ++ [(y.A.length : Int)]), actL l a y.es]) (fun k2 w2 hO2 => by
      refine Ret.mono (fr [.b b, .o a, .o s] hO2 fun k3 hO3 => b_block0_spec hbi hne hnp (by decide) (by decide) (by omega) hO3) ?_
      rintro v w3 ⟨m, ⟨p4, d4, rfl, rfl⟩, hO3⟩
      exact ⟨_, ⟨p4, d4, rfl, rfl⟩, hO3⟩) hO) ?_
    rintro v m ⟨p4, d4, rfl, rfl⟩
    have g := hbi.addOk (n := elementN p4 d4 0 pS []) hne (el_kid p4 d4 pS) (Nat.zero_le _)
    refine ⟨⟨y.q, addA y.A (elementN p4 d4 0 pS []) (topI y.st), addKK y.A y.K (topI y.st), y.st ++ [(y.A.length : Int)], y.ns ++ [pS], y.es⟩, false, rfl, rfl, ?_⟩
    rw [if_neg (by simp)]
    refine ⟨(hbi.push g (by decide)).1, by dsimp only; rw [hns]; rfl, ⟨hq.over, hq.e0, ?_, ?_⟩, hm, by dsimp only; rw [hes]; exact AL.nil, by dsimp only; rw [hes]; rfl, .inl hes, fun e he => ?_⟩
    · have := hq.e9; dsimp only; omega
    · dsimp only; rw [addA_len]; omega
    · dsimp only at he; rw [hes] at he; simp at he
end
end Go.Proofs.YtpejdlfkaaiehaaGreatDoor
end
section
set_option linter.unusedVariables false
set_option linter.unusedSimpArgs false
set_option maxRecDepth 100000
namespace Go.Proofs.YtpejdlfkaaiehaaGreatDoor
open Go Go.Hb Go.RowKit
theorem split3 {st : List Int} {j : Nat} (h : st.length = 3 + j) : st = st.take 2 ++ [at_ st 2] ++ st.drop 3 := by
  conv => lhs; rw [← List.take_append_drop 3 st]
  rw [take_succ_at (by omega)]
theorem inB_one (n p : ByteArray) : inB n [p] = decide (n = p) := by simp [inB]
section
variable {k : Ctx} {w : World} {b a s l r : Nat} {nm : ByteArray}
theorem AW.fs {x : TX} {j : Nat} (h : AW x nm j) {f : Int} (hf : f ∈ x.st.drop 3) : ∃ i, 3 ≤ i ∧ i < x.st.length ∧ at_ x.st i = f := by
  obtain ⟨i, hi, e⟩ := mem_at hf
  rw [List.length_drop] at hi
  exact ⟨3 + i, by omega, by omega, by rw [← e, at_drop]⟩
set_option maxHeartbeats 1000000 in
theorem ark_p2 {x : TX} {j : Nat} (hn : nm ∈ fnL) (hj : j ≤ 100) (h : AW x nm j) (hO : Own k w [blk b 65 (bC a s l r x.q), mpV r .i64 rulesL, arenaL a x.A, stkL s a x.st, actL l a x.es]) :
    Tri Tryz.prog 7 #[.pointer (some ⟨b, 0, none⟩), .agg (Api_token.cells (tk 1 pS 0)).toArray] k w fun v m => ∃ x2, PW x2 nm j ∧ v = .int .i64 0 ∧ m = [blk b 65 (bC a s l r x2.q), mpV r .i64 rulesL, arenaL a x2.A, stkL s a x2.st, actL l a x2.es] := by
  have hstl := h.stl
  have hlenA := h.q.len
  have hesl := h.len
  have he9 := h.q.e9
  have hne : x.st ≠ [] := by intro e; rw [e] at hstl; simp at hstl; omega
  refine b_Token_spec (n0 := 1) (x0 := x) (I := fun n y => n = 1 ∧ y = x) (D := fun y => PW y nm j) (by decide) (by decide) (by decide) h.q.over (by omega) h.bi.pos ⟨rfl, rfl⟩ ?_ hO
  rintro n y ⟨rfl, rfl⟩
  have hs3 := split3 hstl
  have e2 : at_ y.ns 2 = pS := by rw [h.name (by omega)]; rfl
  have hp2 : namA y.A [pS] (at_ y.st 2) = true := by rw [h.bi.nam (by omega), e2]; decide
  have hfn : ∀ f ∈ y.st.drop 3, namA y.A [pS] f = false := fun f hf => by
    obtain ⟨i, h3, hi, rfl⟩ := h.fs hf
    rw [h.bi.nam hi, h.name hi, if_neg (by omega), if_neg (by omega), if_neg (by omega), inB_one, decide_eq_false (fn_a hn).2.2]
  have hfb : ∀ f ∈ y.st.drop 3, bdA y.A 2 f = false := fun f hf => by
    obtain ⟨i, h3, hi, rfl⟩ := h.fs hf
    rw [h.bi.bd hi, h.name hi, if_neg (by omega), if_neg (by omega), if_neg (by omega), fn_bd hn]
  have hsc : scopeL y.A (namA y.A [pS]) 2 y.st = true := by
    rw [scopeL, if_neg (by decide), hs3]
    exact scopeG_yes hp2 hfb
  have hpop : (popTo (namA y.A [pS]) y.st).2 = y.st.take 2 := by
    have := popTo_app (is := namA y.A [pS]) (l := y.st.take 2) (x := at_ y.st 2) hp2 (fs := y.st.drop 3) hfn
    rw [← hs3] at this
    rw [this]
  have hd : dropL (implA y.A pS) y.st = y.st := by
    refine dropL_top ?_
    rw [topI_ne hne, h.bi.imp (by omega), h.name (by omega)]
    by_cases e : y.st.length - 1 = 2
    · rw [e, if_neg (by decide), if_neg (by decide), if_pos rfl]; decide
    · rw [if_neg (by omega), if_neg (by omega), if_neg e]; exact fn_imp hn
  have hb2 := h.bi.take 2
  have hne2 : y.st.take 2 ≠ [] := by intro e; have := congrArg List.length e; rw [List.length_take, List.length_nil] at this; omega
  have hns2 : y.ns.take 2 = [htmlS, bodyS] := by rw [h.ns]; rfl
  refine ⟨h.bi, by omega, 48, inferInstance, by rw [h.mode]; rfl, fun k' w' hO => ?_⟩
  obtain ⟨bb, hbb⟩ : ∃ bb, nmB y.A (topI y.st) pS = bb := ⟨_, rfl⟩
  refine Tri.mono (b_inBody1_spec (j := 2) (f := 158) p_no (by decide) p_hno p_yes rfl (R := fun v m => ∃ p d, v = .bool false ∧ m = [blk b 65 (bC a s l r (if bb = true then y.q else faultQ y.q)), arenaL a (addA y.A (elementN p d 0 pS []) (topI (y.st.take 2))), stkL s a (y.st.take 2 ++ [(y.A.length : Int)]), actL l a y.es]) (fun k2 w2 hO2 => by
    refine Ret.mono (fr [.b b, .o a, .o s] hO2 fun k3 hO3 => b_block1_spec (q := y.q) h.bi hb2 hne2 hsc hd hbb hpop (by omega) h.q.e0 (by decide) (by decide) (by omega) hO3) ?_
    rintro v w3 ⟨m, ⟨p4, d4, rfl, rfl⟩, hO3⟩
    exact ⟨_, ⟨p4, d4, rfl, rfl⟩, hO3⟩) hO) ?_
  rintro v m ⟨p4, d4, rfl, rfl⟩
  have g := hb2.addOk (n := elementN p4 d4 0 pS []) hne2 (el_kid p4 d4 pS) (Nat.zero_le _)
  refine ⟨⟨if bb = true then y.q else faultQ y.q, addA y.A (elementN p4 d4 0 pS []) (topI (y.st.take 2)), addKK y.A y.K (topI (y.st.take 2)), y.st.take 2 ++ [(y.A.length : Int)], y.ns.take 2 ++ [pS], y.es⟩, false, rfl, rfl, ?_⟩
  rw [if_neg (by simp)]
  refine ⟨(hb2.push g (by decide)).1, by dsimp only; rw [hns2]; rfl, ?_, ?_, h.al.add g, hesl, fun e he hm => ?_, ?_, ?_⟩
  · cases bb with
    | true => exact ⟨h.q.over, h.q.e0, by show y.q.errs ≤ _; omega, by dsimp only; rw [addA_len]; omega⟩
    | false => exact ⟨h.q.over, by show 0 ≤ y.q.errs + 1; have := h.q.e0; omega, by show y.q.errs + 1 ≤ _; omega, by dsimp only; rw [addA_len]; omega⟩
  · cases bb with
    | true => exact h.mode
    | false => exact h.mode
  · dsimp only at he hm
    rcases List.mem_append.1 hm with hm | hm
    · have hd3 := h.mem e he
      have hnd := h.bi.stk.nodup
      rw [← List.take_append_drop 3 y.st, List.nodup_append] at hnd
      have hm3 : e.Node ∈ y.st.take 3 := by
        rw [take_succ_at (by omega)]; exact List.mem_append_left _ hm
      exact hnd.2.2 _ hm3 _ hd3 rfl
    · exact h.al.old e he (List.mem_singleton.1 hm)
  · dsimp only; rw [topI_snoc]; exact addKK_new (elB_in (hb2.top hne2).1)
  · dsimp only; rw [topI_snoc]; have := h.bi.pos; omega
theorem ark_x {x : TX} {j : Nat} (hn : nm ∈ fnL) (hj : j ≤ 100) (h : PW x nm j) (hO : Own k w [blk b 65 (bC a s l r x.q), mpV r .i64 rulesL, arenaL a x.A, stkL s a x.st, actL l a x.es]) :
    Tri Tryz.prog 7 #[.pointer (some ⟨b, 0, none⟩), .agg (Api_token.cells (tk 4 ⟨#[]⟩ 120)).toArray] k w fun v m => ∃ x2, FW x2 nm j ∧ v = .int .i64 0 ∧ m = [blk b 65 (bC a s l r x2.q), mpV r .i64 rulesL, arenaL a x2.A, stkL s a x2.st, actL l a x2.es] := by
  have hlenA := h.q.len
  have hesl := h.len
  have hls := h.bi.len_st
  have hne : x.st ≠ [] := by
    intro e
    have := h.bi.len
    rw [e, h.ns] at this; simp at this
  refine b_Token_spec (n0 := 1) (x0 := x) (I := fun n y => n = 1 ∧ y = x) (D := fun y => FW y nm j) (by decide) (by decide) (by decide) h.q.over (by omega) h.bi.pos ⟨rfl, rfl⟩ ?_ hO
  rintro n y ⟨rfl, rfl⟩
  refine ⟨h.bi, by omega, 48, inferInstance, by rw [h.mode]; rfl, fun k' w' hO => ?_⟩
  refine Tri.mono (b_inBodyC_spec (D := fun A2 KK st2 es2 ns2 => RB y.A y.es.length y.st y.ns nm y.es.length A2 KK st2 es2 ∧ ns2 = y.ns ++ List.replicate y.es.length nm) (fun k2 w2 hO2 => (b_rebuild1_spec h.bi hne h.top h.tz h.al h.no (fn_nt hn) (fn_size hn) (by omega) (by omega) hO2).mono fun v m ⟨A2, KK, st2, es2, hR, e⟩ => ⟨A2, KK, st2, es2, _, ⟨hR, rfl⟩, e⟩) (fun {A2 KK st2 es2 ns2} ⟨hR, e⟩ => ⟨e ▸ hR.bi, hR.ne, hR.top, hR.tz, by have := hR.mx; omega⟩) hO) ?_
  rintro v m ⟨A2, KK, st2, es2, ns2, ⟨hR, rfl⟩, rfl, rfl⟩
  have g := hR.bi.addOk (n := textN (runesBytes [120])) hR.ne ⟨show (2 : Int) ≠ 0 by decide, show (2 : Int) ≠ 5 by decide⟩ (Nat.zero_le _)
  refine ⟨⟨{ y.q with framed := true }, addA A2 (textN (runesBytes [120])) (topI st2), addKK A2 KK (topI st2), st2, y.ns ++ List.replicate y.es.length nm, es2⟩, false, rfl, rfl, ?_⟩
  rw [if_neg (by simp)]
  refine ⟨hR.bi.add g, by dsimp only; rw [h.ns, hesl], ⟨h.q.over, h.q.e0, ?_, ?_⟩, hR.len.trans hesl⟩
  · have := h.q.e9; dsimp only; omega
  · have := hR.mx; dsimp only; rw [addA_len]; omega
theorem Open_spec {q : BQ} {st : List Int} (hl : st.length ≤ 1000000) (hO : Own k w [blk b 65 (bC a s l r q), stkL s a st]) :
    Tri Tryz.prog 8 #[.pointer (some ⟨b, 0, none⟩)] k w fun v m => ∃ p c, v = .slice p st.length c ∧ m = [blk b 65 (bC a s l r q), stkL s a st, sls p c 3 1 (eI .i64) st] := by
  refine enter (args := [.pointer (some ⟨b, 0, none⟩)]) Tryz.func8 rfl rfl ?_
  refine K0 (K1 ?_)
  refine l_y rfl rfl (y_assign rfl) ?_
  refine K2 (K3 (K0 (K1 ?_)))
  refine l_y rfl rfl (y_assign rfl) ?_
  refine K2 (K3 (K0 (K0 (K1 ?_))))
  refine l_y rfl rfl (y_move rfl) ?_
  refine CK [.b b] hO rfl (fun k' hx hr hO' => b_none_spec hO') ?_
  rintro _ _ w ⟨rfl, rfl⟩ hO
  simp only [List.cons_append, List.nil_append] at hO
  have hO : Own k w (sls none 0 3 1 (eI .i64) ([] : List Int) :: _) := sl_nil 3 1 hO
  refine K2 (K3 (L9 (K5 (K3 (K0 (K0 (K1 ?_)))))))
  refine l_y rfl rfl (y_move rfl) ?_
  refine l_y rfl rfl (y_nilCheck rfl rfl) ?_
  refine l_y rfl rfl (y_fldb (o' := 1) rfl) ?_
  refine l_y rfl rfl (D5 hO rfl) ?_
  refine CK [.o s] hO rfl (fun k' hx hr hO' => sLenC_spec hO') ?_
  rintro _ _ w ⟨rfl, rfl⟩ hO
  simp only [List.cons_append, List.nil_append] at hO
  refine l_y rfl rfl (y_move rfl) ?_
  refine K2 (K3 (K4 ?_))
  refine c_rounds (X := Nat × Option Addr × Nat) (fun x => [(0, .pointer (some ⟨b, 0, none⟩)), (2, .slice none 0 0), (3, .slice x.2.1 (st.take x.1).length x.2.2), (11, .int .i64 ((st.length : Nat) : Int)), (12, .int .i64 (x.1 : Int))]) (fun x w => Own k w [blk b 65 (bC a s l r q), stkL s a st, sls x.2.1 x.2.2 3 1 (eI .i64) (st.take x.1)] ∧ (x.1 ≤ st.length)) (fun x => st.length - x.1) ((0, none, 0)) ⟨rfl, rfl, rfl, rfl, rfl, trivial⟩ ⟨hO.only [.b b, .o s, .p none], Nat.zero_le _⟩ ?_
  rintro x w m hm ⟨hO, hi⟩
  refine K0 (K1 ?_)
  refine Z0 (fun h5_0 => ?_) (fun h5_0 => ?_)
  · refine K2 (K3 (K0 (L8 (K5 (K3 (K0 (K4 (K0 (K1 ?_)))))))))
    refine l_y rfl rfl (y_move rfl) ?_
    refine l_y rfl rfl (y_assign rfl) ?_
    refine K2 (K3 (K1 ?_))
    refine l_y rfl rfl (y_move rfl) ?_
    refine l_y rfl rfl (y_move rfl) ?_
    refine l_y rfl rfl (y_nilCheck rfl rfl) ?_
    refine l_y rfl rfl (y_fldb (o' := 1) rfl) ?_
    refine l_y rfl rfl (D5 hO rfl) ?_
    refine l_y rfl rfl (y_move rfl) ?_
    refine CK [.o s] hO rfl (fun k' hx hr hO' => sAtC_spec (x := ((x.1 : Nat) : Int)) hl hO') ?_
    rintro _ _ w ⟨rfl, rfl⟩ hO
    simp only [List.cons_append, List.nil_append] at hO
    refine s_lit (parts := [(0, .tmp 21)]) (enc := (eI .i64)) [(atI st ((x.1 : Nat) : Int))] [.int .i64 (atI st ((x.1 : Nat) : Int))] hO rfl (fun b22 w hO => ?_)
    refine s_app hO rfl rfl (src_own hO) (fun p23 c23 w hO gs23 => ?_)
    refine l_y rfl rfl (y_assign rfl) ?_
    refine K2 (K8 (K3 (K1 ?_)))
    refine l_y rfl rfl (D4) ?_
    refine l_y rfl rfl (y_move rfl) ?_
    refine K2 ?_
    have e9 : st.take x.1 ++ [atI st ((x.1 : Nat) : Int)] = st.take (x.1 + 1) := by
      rw [take_succ_at (by omega), atI, if_neg (by omega)]; rfl
    rw [e9] at hO
    rw [e9]
    exact q_next ((x.1 + 1, p23, c23)) ⟨rfl, rfl, rfl, rfl, rfl, trivial⟩ ⟨hO.only [.b b, .o s, .p p23], by dsimp only; omega⟩ (by dsimp only; omega)
  · refine K2 (K3 (K0 (L9 (K7 (L1 (L1 (L2 (K3 (K0 (K1 ?_))))))))))
    refine l_y rfl rfl (y_move rfl) ?_
    refine l_y rfl rfl (y_assign rfl) ?_
    refine K2 (K3 (K6 ?_))
    have e : st.take x.1 = st := List.take_of_length_le (by omega)
    rw [e] at hO ⊢
    exact fin1 rfl rfl ⟨_, ⟨_, _, rfl, rfl⟩, hO.only [.b b, .o s, .p x.2.1]⟩
end
end Go.Proofs.YtpejdlfkaaiehaaGreatDoor
end
section
set_option linter.unusedVariables false
set_option linter.unusedSimpArgs false
set_option maxRecDepth 100000
namespace Go.Proofs.YtpejdlfkaaiehaaGreatDoor
open Go Go.Hb Go.RowKit
section
variable {k : Ctx} {w : World} {b a s l r : Nat} {nm : ByteArray}
theorem Active_spec {q : BQ} {es : List Api_entry} (hl : es.length ≤ 1000000) (hO : Own k w [blk b 65 (bC a s l r q), actL l a es]) :
    Tri Tryz.prog 9 #[.pointer (some ⟨b, 0, none⟩)] k w fun v m => ∃ p c, v = .slice p es.length c ∧ m = [blk b 65 (bC a s l r q), actL l a es, sls p c 76 10 Api_entry.cells es] := by
  refine enter (args := [.pointer (some ⟨b, 0, none⟩)]) Tryz.func9 rfl rfl ?_
  refine K0 (K1 ?_)
  refine l_y rfl rfl (y_assign rfl) ?_
  refine K2 (K3 (K0 (K1 ?_)))
  refine l_y rfl rfl (y_assign rfl) ?_
  refine K2 (K3 (K0 (K0 (K1 ?_))))
  refine l_y rfl rfl (y_move rfl) ?_
  refine CK [.b b] hO rfl (fun k' hx hr hO' => b_none_spec hO') ?_
  rintro _ _ w ⟨rfl, rfl⟩ hO
  simp only [List.cons_append, List.nil_append] at hO
  have hO : Own k w (sls none 0 76 10 Api_entry.cells ([] : List Api_entry) :: _) := sl_nil 76 10 hO
  refine K2 (K3 (L9 (K5 (K3 (K0 (K0 (K1 ?_)))))))
  refine l_y rfl rfl (y_move rfl) ?_
  refine l_y rfl rfl (y_nilCheck rfl rfl) ?_
  refine l_y rfl rfl (y_fldb (o' := 2) rfl) ?_
  refine l_y rfl rfl (D5 hO rfl) ?_
  refine CK [.o l] hO rfl (fun k' hx hr hO' => aLen_spec (hO := hO')) ?_
  rintro _ _ w ⟨rfl, rfl⟩ hO
  simp only [List.cons_append, List.nil_append] at hO
  refine l_y rfl rfl (y_move rfl) ?_
  refine K2 (K3 (K4 ?_))
  refine c_rounds (X := Nat × Option Addr × Nat) (fun x => [(0, .pointer (some ⟨b, 0, none⟩)), (2, .slice none 0 0), (3, .slice x.2.1 (es.take x.1).length x.2.2), (13, .int .i64 ((es.length : Nat) : Int)), (14, .int .i64 (x.1 : Int))]) (fun x w => Own k w [blk b 65 (bC a s l r q), actL l a es, sls x.2.1 x.2.2 76 10 Api_entry.cells (es.take x.1)] ∧ (x.1 ≤ es.length)) (fun x => es.length - x.1) ((0, none, 0)) ⟨rfl, rfl, rfl, rfl, rfl, trivial⟩ ⟨hO.only [.b b, .o l, .p none], Nat.zero_le _⟩ ?_
  rintro x w m hm ⟨hO, hi⟩
  refine K0 (K1 ?_)
  refine Z0 (fun h5_0 => ?_) (fun h5_0 => ?_)
  · refine K2 (K3 (K0 (L8 (K5 (K3 (K0 (K4 (K0 (K1 ?_)))))))))
    refine l_y rfl rfl (y_move rfl) ?_
    refine l_y rfl rfl (y_assign rfl) ?_
    refine K2 (K3 (K0 (K1 ?_)))
    refine l_y rfl rfl (y_move rfl) ?_
    refine l_y rfl rfl (y_nilCheck rfl rfl) ?_
    refine l_y rfl rfl (y_fldb (o' := 2) rfl) ?_
    refine l_y rfl rfl (D5 hO rfl) ?_
    refine l_y rfl rfl (y_move rfl) ?_
    refine CK [.o l] hO rfl (fun k' hx hr hO' => aAt_spec (i := ((x.1 : Nat) : Int)) (by omega) hO') ?_
    rintro _ _ w ⟨hv, rfl⟩ hO
    simp only [List.cons_append, List.nil_append] at hO
    obtain ⟨hv1, rfl⟩ := hv.resolve_left (fun hh => by omega)
    obtain ⟨e0, he0⟩ : ∃ e0, e0 = at_ es ((x.1 : Nat) : Int).toNat := ⟨_, rfl⟩
    rw [← he0]
    refine l_y rfl rfl (y_move rfl) ?_
    refine l_y rfl rfl (y_extract rfl rfl) ?_
    refine l_y rfl rfl (y_extract rfl rfl) ?_
    refine s_alloc (vs := [.int .i64 0, .int .i64 0, .string ⟨#[]⟩, .string ⟨#[]⟩, .string ⟨#[]⟩, .int .i64 0, .bool false, .int .i32 0, .bool false, .slice none 0 0]) hO rfl rfl rfl fun b5 w hO => ?_
    refine Y3 hO rfl rfl (fun w hO => ?_)
    refine l_y rfl rfl (y_assign rfl) ?_
    refine K2 (K3 (K1 ?_))
    refine l_y rfl rfl (y_move rfl) ?_
    refine l_y rfl rfl (D8 (cs := [.int .i64 e0.Node, .int .i64 e0.Token.Kind, .string e0.Token.Name, .string e0.Token.Data, .string e0.Token.System, .int .i64 e0.Token.Has, .bool e0.Token.Quirks, .int .i32 e0.Token.Char, .bool e0.Token.Self, .slice e0.Token.AttrsP e0.Token.Attrs.length e0.Token.AttrsC]) hO rfl) ?_
    refine s_lit (parts := [(0, .tmp 27)]) (enc := Api_entry.cells) [e0] [.agg [.int .i64 e0.Node, .int .i64 e0.Token.Kind, .string e0.Token.Name, .string e0.Token.Data, .string e0.Token.System, .int .i64 e0.Token.Has, .bool e0.Token.Quirks, .int .i32 e0.Token.Char, .bool e0.Token.Self, .slice e0.Token.AttrsP e0.Token.Attrs.length e0.Token.AttrsC].toArray] hO rfl (fun b28 w hO => ?_)
    refine s_app hO rfl rfl (src_own hO) (fun p29 c29 w hO gs29 => ?_)
    refine l_y rfl rfl (y_assign rfl) ?_
    refine K2 (K8 (K3 (K1 ?_)))
    refine l_y rfl rfl (D4) ?_
    refine l_y rfl rfl (y_move rfl) ?_
    refine K2 ?_
    have e9 : es.take x.1 ++ [e0] = es.take (x.1 + 1) := by
      rw [take_succ_at (by omega), he0]; rfl
    have hO : Own k w (sls p29 c29 76 10 Api_entry.cells (es.take x.1 ++ [e0]) :: _) := hO.ks [.p p29]
    rw [e9] at hO
    have e8 : (es.take x.1 ++ [e0]).length = (es.take (x.1 + 1)).length := by rw [e9]
    first
      | exact q_next (x.1 + 1, p29, c29) (by rw [← e8]; repeat (first | exact trivial | refine ⟨rfl, ?_⟩)) ⟨hO.only [.b b, .o l, .p p29], by dsimp only; omega⟩ (by dsimp only; omega)
  · refine K2 (K3 (K0 (L9 (K7 (L1 (L1 (L2 (K3 (K0 (K1 ?_))))))))))
    refine l_y rfl rfl (y_move rfl) ?_
    refine l_y rfl rfl (y_assign rfl) ?_
    refine K2 (K3 (K6 ?_))
    have e : es.take x.1 = es := List.take_of_length_le (by omega)
    rw [e] at hO ⊢
    exact fin1 rfl rfl ⟨_, ⟨_, _, rfl, rfl⟩, hO.only [.b b, .o l, .p x.2.1]⟩
theorem fnL_mem {name : Int} (h0 : 0 ≤ name) : at_ fnL (name % 4).toNat ∈ fnL := at_mem (by show (name % 4).toNat < 4; omega)
set_option maxHeartbeats 4000000 in
theorem WholeArk_spec {many name : Int} (h0 : 0 ≤ many) (h1 : many ≤ 255) (h2 : 0 ≤ name) (h3 : name ≤ 255) (hO : Own k w []) :
    Tri Tryz.prog 3 #[.int .u8 many, .int .u8 name] k w fun v m => v = .bool true := by
  refine enter (args := [.int .u8 many, .int .u8 name]) Tryz.func3 rfl rfl ?_
  obtain ⟨nm, hnm⟩ : ∃ nm, nm = at_ fnL (name % 4).toNat := ⟨_, rfl⟩
  have hmem : nm ∈ fnL := by rw [hnm]; exact fnL_mem h2
  obtain ⟨n, hn⟩ : ∃ n : Nat, (n : Int) = many % 40 := ⟨(many % 40).toNat, by omega⟩
  have hn40 : n < 40 := by omega
  refine K0 (K1 ?_)
  refine l_y rfl rfl (y_assign rfl) ?_
  refine K2 (K3 (K0 (K1 ?_)))
  refine CK [] hO rfl (fun k' hx hr hO' => New_spec hO') ?_
  rintro _ _ w ⟨a, rfl, rfl⟩ hO
  simp only [List.cons_append, List.nil_append] at hO
  refine l_y rfl rfl (y_assign rfl) ?_
  refine K2 (K3 (K0 (K1 ?_)))
  refine l_y rfl rfl (y_move rfl) ?_
  refine CK [.o a] hO rfl (fun k' hx hr hO' => b_New_spec (by simp) hO') ?_
  rintro _ _ w ⟨b, s, l, r, rfl, rfl⟩ hO
  simp only [List.cons_append, List.nil_append] at hO
  refine l_y rfl rfl (y_move rfl) ?_
  refine l_y rfl rfl (y_extract rfl rfl) ?_
  refine l_y rfl rfl (y_extract rfl rfl) ?_
  refine l_y rfl rfl (y_assign rfl) ?_
  refine l_y rfl rfl (y_assign rfl) ?_
  refine K2 (K3 (K0 (K0 (K1 ?_))))
  refine l_y rfl rfl (y_move rfl) ?_
  refine l_y rfl rfl (y_eqPnil rfl rfl rfl) ?_
  refine l_y rfl rfl (y_move rfl) ?_
  refine l_y rfl rfl (y_move rfl) ?_
  refine l_y rfl rfl (y_eqPnil rfl rfl rfl) ?_
  refine l_y rfl rfl (y_pick_f rfl rfl) ?_
  refine K2 (K3 (L9 (K5 (K3 (K0 (K1 ?_))))))
  refine s_lit (parts := [(0, .const (.string ⟨#[98]⟩)), (1, .const (.string ⟨#[105]⟩)), (2, .const (.string ⟨#[99, 111, 100, 101]⟩)), (3, .const (.string ⟨#[117]⟩))]) (enc := eS) [⟨#[98]⟩, ⟨#[105]⟩, ⟨#[99, 111, 100, 101]⟩, ⟨#[117]⟩] [.string ⟨#[98]⟩, .string ⟨#[105]⟩, .string ⟨#[99, 111, 100, 101]⟩, .string ⟨#[117]⟩] hO rfl (fun b27 w hO => ?_)
  have hO : Own k w (sls (some ⟨b27, 0, none⟩) 4 9 1 eS fnL :: _) := hO
  have hg27 : Gs (some ⟨b27, 0, none⟩) 4 := .some _ _ _
  have hfl : fnL.length = 4 := rfl
  refine l_y rfl rfl (y_assign rfl) ?_
  refine K2 (K3 (K0 (K1 ?_)))
  refine l_y rfl rfl (y_move rfl) ?_
  refine l_y rfl rfl (y_remN rfl rfl (by omega) (by decide)) ?_
  rw [← hn]
  refine l_y rfl rfl (D7) ?_
  refine l_y rfl rfl (y_assign rfl) ?_
  refine K2 (K3 (K0 (K1 ?_)))
  refine l_y rfl rfl (y_move rfl) ?_
  refine s_build (parts := [(0, .const (.int .i64 1)), (1, .const (.string ⟨#[112]⟩))]) (cs := [.int .i64 1, .string ⟨#[112]⟩, .string ⟨#[]⟩, .string ⟨#[]⟩, .int .i64 0, .bool false, .int .i32 0, .bool false, .slice none 0 0]) rfl rfl (fun a ha => partsOf_sound ha _ _ rfl) (by kernel_rfl) ?_
  refine CK [.b b, .o r, .o a, .o s, .o l] hO rfl (fun k' hx hr hO' => ark_first (nm := nm) (x := ⟨⟨0, -1, 0, 0, false, false⟩, [docD], fun _ => [], [], [], []⟩) rfl hO') ?_
  rintro _ _ w ⟨x0, hA0, rfl, rfl⟩ hO
  simp only [List.cons_append, List.nil_append] at hO
  refine K2 (K3 (K0 (K0 (K1 ?_))))
  refine l_y rfl rfl (y_assign rfl) ?_
  refine K2 (K3 (K4 ?_))
  refine c_rounds (X := Nat × TX) (fun x => [(1, .int .u8 name), (4, .bool false), (5, .pointer (some ⟨a, 0, none⟩)), (6, .pointer (some ⟨b, 0, none⟩)), (8, .slice (some ⟨b27, 0, none⟩) 4 4), (9, .int .i64 (n : Int)), (10, .int .i64 (x.1 : Int))]) (fun x w => Own k w [blk b 65 (bC a s l r x.2.q), mpV r .i64 rulesL, arenaL a x.2.A, stkL s a x.2.st, actL l a x.2.es, sls (some ⟨b27, 0, none⟩) 4 9 1 eS fnL] ∧ (x.1 ≤ n) ∧ (AW x.2 nm x.1)) (fun x => n - x.1) ((0, x0)) ⟨rfl, rfl, rfl, rfl, rfl, rfl, rfl, trivial⟩ ⟨hO.only [.b b, .o r, .o a, .o s, .o l, .p (some ⟨b27, 0, none⟩)], Nat.zero_le _, hA0⟩ ?_
  rintro x w m hm ⟨hO, hi, hA⟩
  refine K0 (K0 (K1 ?_))
  refine l_y rfl rfl (y_move rfl) ?_
  refine l_y rfl rfl (y_move rfl) ?_
  refine Z0 (fun h9_2 => ?_) (fun h9_2 => ?_)
  · refine K2 (K3 (L8 (K5 (K3 (K0 (K4 (K1 ?_)))))))
    refine l_y rfl rfl (y_move rfl) ?_
    refine l_y rfl rfl (y_move rfl) ?_
    refine l_y rfl rfl (y_move rfl) ?_
    refine l_y rfl rfl (y_remN rfl rfl (by omega) (by decide)) ?_
    refine l_y rfl rfl (y_idx rfl rfl) ?_
    refine l_y rfl rfl (y_e1 (x0 := 0) (v := .string nm) hO rfl (hi := by omega) (hv := by rw [hnm]; rfl)) ?_
    refine s_build (parts := [(0, .const (.int .i64 1)), (1, .tmp 44)]) (cs := [.int .i64 1, .string nm, .string ⟨#[]⟩, .string ⟨#[]⟩, .int .i64 0, .bool false, .int .i32 0, .bool false, .slice none 0 0]) rfl rfl (fun a ha => partsOf_sound ha _ _ rfl) (by kernel_rfl) ?_
    refine CK [.b b, .o r, .o a, .o s, .o l] hO rfl (fun k' hx hr hO' => ark_fmt hmem (by omega) hA hO') ?_
    rintro _ _ w ⟨x2, hA2, rfl, rfl⟩ hO
    simp only [List.cons_append, List.nil_append] at hO
    refine K2 (K8 (K3 (K1 ?_)))
    refine l_y rfl rfl (y_move rfl) ?_
    refine l_y rfl rfl (D4) ?_
    refine l_y rfl rfl (y_assign rfl) ?_
    refine K2 ?_
    exact q_next ((x.1 + 1, x2)) ⟨rfl, rfl, rfl, rfl, rfl, rfl, rfl, trivial⟩ ⟨hO.only [.b b, .o r, .o a, .o s, .o l, .p (some ⟨b27, 0, none⟩)], by dsimp only; omega, hA2⟩ (by dsimp only; omega)
  · refine K2 (K3 (L9 (K7 (L1 (L1 (L2 (K3 (K0 ?_))))))))
    have hxn : x.1 = n := by omega
    rw [hxn] at hA
    refine K1 ?_
    refine l_y rfl rfl (y_move rfl) ?_
    refine s_build (parts := [(0, .const (.int .i64 1)), (1, .const (.string ⟨#[112]⟩))]) (cs := [.int .i64 1, .string ⟨#[112]⟩, .string ⟨#[]⟩, .string ⟨#[]⟩, .int .i64 0, .bool false, .int .i32 0, .bool false, .slice none 0 0]) rfl rfl (fun a ha => partsOf_sound ha _ _ rfl) (by kernel_rfl) ?_
    refine CK [.b b, .o r, .o a, .o s, .o l] hO rfl (fun k' hx hr hO' => ark_p2 hmem (by omega) hA hO') ?_
    rintro _ _ w ⟨x3, hA3, rfl, rfl⟩ hO
    simp only [List.cons_append, List.nil_append] at hO
    refine K2 (K3 (K0 (K1 ?_)))
    refine l_y rfl rfl (y_move rfl) ?_
    refine s_build (parts := [(0, .const (.int .i64 4)), (6, .const (.int .i32 120))]) (cs := [.int .i64 4, .string ⟨#[]⟩, .string ⟨#[]⟩, .string ⟨#[]⟩, .int .i64 0, .bool false, .int .i32 120, .bool false, .slice none 0 0]) rfl rfl (fun a ha => partsOf_sound ha _ _ rfl) (by kernel_rfl) ?_
    refine CK [.b b, .o r, .o a, .o s, .o l] hO rfl (fun k' hx hr hO' => ark_x hmem (by omega) hA3 hO') ?_
    rintro _ _ w ⟨x4, hA4, rfl, rfl⟩ hO
    simp only [List.cons_append, List.nil_append] at hO
    have hstl : x4.st.length = 3 + min n 3 := by rw [← hA4.bi.len, hA4.ns]; simp; omega
    have hesl := hA4.len
    refine K2 (K3 (K0 (K1 ?_)))
    refine l_y rfl rfl (y_move rfl) ?_
    refine CK [.b b, .o s] hO rfl (fun k' hx hr hO' => Open_spec (by omega) hO') ?_
    rintro _ _ w ⟨po, co, rfl, rfl⟩ hO
    simp only [List.cons_append, List.nil_append] at hO
    have hgo : Gs po x4.st.length := (sls_fct (p := po) (hO.ks [.p po])).2
    refine l_y rfl rfl (y_assign rfl) ?_
    refine K2 (K3 (K0 (K0 (K1 ?_))))
    refine l_y rfl rfl (y_move rfl) ?_
    refine l_y rfl rfl (y_lenL rfl) ?_
    refine l_y rfl rfl (y_move rfl) ?_
    refine l_y rfl rfl (y_min rfl rfl) ?_
    refine l_y rfl rfl (D4) ?_
    refine N4 ?_
    refine l_y rfl rfl (y_move rfl) ?_
    refine l_y rfl rfl (y_move rfl) ?_
    refine CK [.b b, .o l] hO rfl (fun k' hx hr hO' => Active_spec (by omega) hO') ?_
    rintro _ _ w ⟨pa, ca, rfl, rfl⟩ hO
    simp only [List.cons_append, List.nil_append] at hO
    refine l_y rfl rfl (y_lenL rfl) ?_
    refine l_y rfl rfl (y_move rfl) ?_
    refine l_y rfl rfl (y_min rfl rfl) ?_
    refine N4 ?_
    refine l_y rfl rfl (y_pick_f rfl rfl) ?_
    refine K2 (K3 (L9 (K5 (K3 (K0 (K0 (K1 ?_)))))))
    refine l_y rfl rfl (y_assign rfl) ?_
    refine K2 (K3 (K4 ?_))
    refine c_rounds (X := Nat) (fun y => [(1, .int .u8 name), (4, .bool false), (5, .pointer (some ⟨a, 0, none⟩)), (8, .slice (some ⟨b27, 0, none⟩) 4 4), (11, .slice po x4.st.length co), (12, .int .i64 (y : Int))]) (fun y w => Own k w [arenaL a x4.A, sls po co 3 1 (eI .i64) x4.st, sls (some ⟨b27, 0, none⟩) 4 9 1 eS fnL] ∧ (3 ≤ y ∧ y ≤ x4.st.length)) (fun y => x4.st.length - y) (3) ⟨rfl, rfl, rfl, rfl, rfl, rfl, trivial⟩ ⟨hO.only [.o a, .p po, .p (some ⟨b27, 0, none⟩)], ⟨Nat.le_refl _, by omega⟩⟩ ?_
    rintro y w m hm ⟨hO, hy⟩
    refine K0 (K0 (K1 ?_))
    refine l_y rfl rfl (y_move rfl) ?_
    refine l_y rfl rfl (y_move rfl) ?_
    refine l_y rfl rfl (y_lenL rfl) ?_
    refine Z0 (fun h18_3 => ?_) (fun h18_3 => ?_)
    · refine K2 (K3 (L8 (K5 (K3 (K0 (K4 (K0 (K1 ?_))))))))
      refine l_y rfl rfl (y_move rfl) ?_
      refine l_y rfl rfl (y_move rfl) ?_
      refine l_y rfl rfl (y_move rfl) ?_
      refine l_y rfl rfl (y_idx rfl rfl) ?_
      refine l_y rfl rfl (y_e1 (x0 := 0) hO rfl) ?_
      refine CK [.o a] hO rfl (fun k' hx hr hO' => NodeD_spec hA4.bi.pos hA4.bi.tree.attrs hO') ?_
      rintro _ _ w ⟨nn, hnv, rfl, rfl⟩ hO
      simp only [List.cons_append, List.nil_append] at hO
      have hel := hA4.bi.el (i := y) (by omega)
      have hname : nn.Name = at_ fnL (name % 4).toNat := by
        have e1 : nn.Name = (nd x4.A (at_ x4.st y)).Name := hnv.name (elB_has hel)
        rw [e1, (hA4.bi.one y (by omega)).1, hA4.ns, ← hnm]
        rw [at_app_r (by simp; omega)]
        refine at_eq ?_
        rw [List.getElem?_replicate, if_pos (by simp; omega)]
      refine l_y rfl rfl (y_move rfl) ?_
      refine l_y rfl rfl (y_extract rfl rfl) ?_
      refine l_y rfl rfl (y_extract rfl rfl) ?_
      refine s_alloc (vs := [.int .i64 0, .int .i64 0, .string ⟨#[]⟩, .slice none 0 0, .string ⟨#[]⟩, .string ⟨#[]⟩, .int .i64 0, .int .i64 0, .int .i64 0, .int .i64 0, .int .i64 0, .int .i64 0]) hO rfl rfl rfl fun b13 w hO => ?_
      refine Y3 hO rfl rfl (fun w hO => ?_)
      refine l_y rfl rfl (y_assign rfl) ?_
      refine K2 (K3 (K0 ?_))
      refine da_region (by intro c a d v w h; cases d <;> exact h) ?_
      have hO := hO.drew
      refine da_phase _ [] (SO.ks [.b b13, .p (some ⟨b27, 0, none⟩)] hO) ?_
      refine dx_u 0 (by kernel_rfl) rfl rfl rfl (fun w => y_fldb (o' := 2) rfl) ?_
      refine dx_y 1 (by kernel_rfl) rfl rfl rfl (fun w ⟨m, hw⟩ => D5 hw rfl) ?_
      refine dx_u 2 (by kernel_rfl) rfl rfl rfl (fun w => y_move rfl) ?_
      refine dx_u 3 (by kernel_rfl) rfl rfl rfl (fun w => y_move rfl) ?_
      refine dx_y 4 (by kernel_rfl) rfl rfl rfl (fun w ⟨m, hw⟩ => y_remN rfl rfl (by omega) (by decide)) ?_
      refine dx_u 5 (by kernel_rfl) rfl rfl rfl (fun w => y_idx rfl rfl) ?_
      refine dx_y 6 (by kernel_rfl) rfl rfl rfl (fun w ⟨m, hw⟩ => y_e1 (x0 := 0) hw rfl) ?_
      refine dx_y 7 (by kernel_rfl) rfl rfl rfl (fun w ⟨m, hw⟩ => y_neS (c := false) rfl rfl (by simp [hname])) ?_
      refine dx_end (by kernel_rfl) ?_
      refine K3 (L9 (K5 (K8 (K3 (K1 ?_)))))
      refine l_y rfl rfl (y_move rfl) ?_
      refine l_y rfl rfl (D4) ?_
      refine l_y rfl rfl (y_assign rfl) ?_
      refine K2 ?_
      exact q_next (y + 1) ⟨rfl, rfl, rfl, rfl, rfl, rfl, trivial⟩ ⟨hO.only [.o a, .p po, .p (some ⟨b27, 0, none⟩)], ⟨by omega, by omega⟩⟩ (by omega)
    · refine K2 (K3 (L9 (K7 (L1 (L1 (L2 (K3 (K0 (K1 ?_)))))))))
      refine l_y rfl rfl (y_assign rfl) ?_
      refine K2 (K3 (K6 ?_))
      exact fin1 rfl rfl ⟨_, rfl, hO⟩
end
end Go.Proofs.YtpejdlfkaaiehaaGreatDoor
end
