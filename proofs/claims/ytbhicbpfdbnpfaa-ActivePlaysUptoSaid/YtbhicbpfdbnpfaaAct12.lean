/- The walks of what the law ActivePlays plays and compares. -/
import Derived.Test.YtbhicbpfdbnpfaaAct11
set_option linter.unusedVariables false
set_option linter.unusedSimpArgs false
set_option maxRecDepth 100000
namespace Go.Proofs.Ytbhicbpfdbnpfaa
open Go Go.Hb Go.RowKit
structure PlI (k : Ctx) (A : List Node_one) (L : List Api_entry) : Prop where
  pw : L.Pairwise fun x y => x.Node = y.Node → y.Node = -1
  ent : ∀ e ∈ L, e.Node = -1 ∨ elB A e.Node = true
  eok : ∀ e ∈ L, EOk k e
section
variable {k : Ctx} {w : World} {A : List Node_one} {L M : List Api_entry} {e : Api_entry} {id : Int}
theorem PlI.dist (h : PlI k A L) : DistN L := fun i j hij hj he => by
  have h1 := List.pairwise_iff_getElem.1 h.pw i j (by omega) hj hij
  have e1 : at_ L i = L[i]'(by omega) := at_eq (List.getElem?_eq_getElem (by omega))
  have e2 : at_ L j = L[j] := at_eq (List.getElem?_eq_getElem hj)
  rw [e1, e2] at he
  rw [e2]
  exact h1 he
theorem PlI.sub (h : PlI k A L) (hs : M.Sublist L) : PlI k A M := ⟨h.pw.sublist hs, fun e he => h.ent e (hs.subset he), fun e he => h.eok e (hs.subset he)⟩
theorem PlI.nil : PlI k A [] := ⟨List.Pairwise.nil, (fun e he => absurd he (by simp)), (fun e he => absurd he (by simp))⟩
theorem PlI.mark (h : PlI k A L) : PlI k A (L ++ [markE]) := by
  refine ⟨List.pairwise_append.2 ⟨h.pw, List.pairwise_singleton _ _, fun x _ y hy _ => by rw [List.mem_singleton.1 hy]; rfl⟩, fun y hy => ?_, fun y hy => ?_⟩
  · rcases List.mem_append.1 hy with hy | hy
    · exact h.ent y hy
    · rw [List.mem_singleton.1 hy]; exact .inl rfl
  · rcases List.mem_append.1 hy with hy | hy
    · exact h.eok y hy
    · rw [List.mem_singleton.1 hy]; exact ⟨Sli.nil rfl, Nat.zero_le _⟩
/-- one of a new node is put among them -/
theorem PlI.put {u v : List Api_entry} (h : PlI k A (u ++ v)) (he : elB A e.Node = true) (hf : ∀ y ∈ u ++ v, y.Node ≠ e.Node) (ho : EOk k e) : PlI k A (u ++ [e] ++ v) := by
  obtain ⟨h1, h2, h3⟩ := List.pairwise_append.1 h.pw
  have hm : ∀ y ∈ u ++ [e] ++ v, y ∈ u ++ v ∨ y = e := fun y hy => by
    simp only [List.mem_append, List.mem_singleton] at hy ⊢
    rcases hy with (hy | hy) | hy
    · exact .inl (.inl hy)
    · exact .inr hy
    · exact .inl (.inr hy)
  refine ⟨List.pairwise_append.2 ⟨List.pairwise_append.2 ⟨h1, List.pairwise_singleton _ _, fun x hx y hy hxy => ?_⟩, h2, fun x hx y hy hxy => ?_⟩, fun y hy => ?_, fun y hy => ?_⟩
  · rw [List.mem_singleton.1 hy] at hxy
    exact absurd hxy (hf x (List.mem_append_left _ hx))
  · rcases List.mem_append.1 hx with hx | hx
    · exact h3 x hx y hy hxy
    · rw [List.mem_singleton.1 hx] at hxy
      exact absurd hxy.symm (hf y (List.mem_append_right _ hy))
  · rcases hm y hy with hy | rfl
    · exact h.ent y hy
    · exact .inr he
  · rcases hm y hy with hy | rfl
    · exact h.eok y hy
    · exact ho
theorem cutE_sub {i : Nat} : (cutE L i).Sublist L := by
  have h := List.Sublist.append (List.Sublist.refl (L.take i)) (List.drop_sublist_drop_left L (Nat.le_succ i))
  rwa [List.take_append_drop] at h
theorem fresh_ne (h0 : freshF A L id = 0) : elB A id = true ∧ ∀ y ∈ L, y.Node ≠ id := by
  rcases freshF_cases A L id with ⟨h, _⟩ | ⟨h, _⟩ | ⟨_, h1, h2⟩
  · omega
  · omega
  · refine ⟨h1, fun y hy e => ?_⟩
    have hid := hasB_true (elB_has h1)
    rw [findE, if_neg (by omega)] at h2
    rcases idx_cases (fun y : Api_entry => decide (y.Node = id)) L with ⟨_, h3⟩ | ⟨i, h3, _⟩
    · obtain ⟨j, hj, rfl⟩ := mem_at hy
      exact absurd (h3 j hj) (by simp [e])
    · omega
theorem PlI.push (h : PlI k A L) (h0 : freshF A L e.Node = 0) (ho : EOk k e) : PlI k A (pushE A L e) ∧ (pushE A L e).length ≤ L.length + 1 := by
  obtain ⟨he, hf⟩ := fresh_ne h0
  obtain ⟨M, hM⟩ : ∃ M, M = if 3 ≤ (pk A L e (bk L L.length)).1 then cutE L (pk A L e (bk L L.length)).2 else L := ⟨_, rfl⟩
  have hP : pushE A L e = M ++ [e] := by rw [pushE, ← hM]
  have hs : M.Sublist L := by rw [hM]; split; exact cutE_sub; exact List.Sublist.refl _
  rw [hP]
  have h1 := (h.sub hs)
  have h2 : PlI k A (M ++ ([] : List Api_entry)) := by rw [List.append_nil]; exact h1
  have h3 := h2.put he (fun y hy => hf y (hs.subset (by simpa using hy))) ho
  rw [List.append_nil] at h3
  exact ⟨h3, by have := hs.length_le; simp; omega⟩
theorem PlI.putE {i : Int} (h : PlI k A L) (ho : EOk k e) : PlI k A (putE A L i e).2 ∧ (putE A L i e).2.length ≤ L.length + 1 := by
  unfold Proofs.Ytbhicbpfdbnpfaa.putE
  split
  · exact ⟨h, by simp⟩
  · next h0 =>
    split
    · exact ⟨h, by simp⟩
    · next hi =>
      obtain ⟨he, hf⟩ := fresh_ne (A := A) (L := L) (id := e.Node) (by simpa using h0)
      refine ⟨PlI.put (by rw [List.take_append_drop]; exact h) he (fun y hy => hf y (by rw [List.take_append_drop] at hy; exact hy)) ho, ?_⟩
      simp only [List.length_append, List.length_take, List.length_drop, List.length_singleton]; omega
theorem PlI.removeE (h : PlI k A L) : PlI k A (removeE L id).2 ∧ (removeE L id).2.length ≤ L.length + 1 := by
  unfold Proofs.Ytbhicbpfdbnpfaa.removeE
  split
  · exact ⟨h, by simp⟩
  · exact ⟨h.sub cutE_sub, by have := (cutE_sub (L := L) (i := (findE L id).toNat)).length_le; dsimp only; omega⟩
theorem PlI.swapE {old : Int} (h : PlI k A L) : PlI k A (swapE A L old id).2 ∧ (swapE A L old id).2.length ≤ L.length + 1 := by
  unfold Proofs.Ytbhicbpfdbnpfaa.swapE
  split
  · exact ⟨h, by simp⟩
  · next h9 =>
    split
    · next h0 =>
      refine ⟨?_, by simp⟩
      obtain ⟨he, hf⟩ := fresh_ne h0
      obtain ⟨i, hi, hfl⟩ : ∃ i : Nat, findE L old = i ∧ i < L.length := by
        rcases findE_cases L old with h | ⟨i, h1, h2, _⟩
        · omega
        · exact ⟨i, h1, h2⟩
      have e1 : L.set i { at_ L i with Node := id } = L.take i ++ [{ at_ L i with Node := id }] ++ L.drop (i + 1) := by
        rw [List.set_eq_take_append_cons_drop, if_pos hfl]; simp
      show PlI k A (L.set (findE L old).toNat _)
      rw [hi]
      show PlI k A (L.set i { at_ L i with Node := id })
      rw [e1]
      exact PlI.put (h.sub cutE_sub) he (fun y hy => hf y (cutE_sub.subset hy)) ((h.eok (at_ L i) (at_mem hfl)))
    · exact ⟨h, by simp⟩
theorem entry_spec (he : EOk k e) (hO : Own k w []) :
    Tri Try.prog 49 #[.agg (Api_entry.cells e).toArray, .agg (Api_entry.cells e).toArray] k w fun v m => v = .bool true ∧ m = [] := by
  refine enter (args := [.agg (Api_entry.cells e).toArray, .agg (Api_entry.cells e).toArray]) Try.func49 rfl rfl ?_
  have hes := he.1
  have hel := he.2
  have hgs := sli_gs hes
  refine K0 (K1 ?_)
  refine s_box (vs := [.int .i64 e.Node, .int .i64 e.Token.Kind, .string e.Token.Name, .string e.Token.Data, .string e.Token.System, .int .i64 e.Token.Has, .bool e.Token.Quirks, .int .i32 e.Token.Char, .bool e.Token.Self, .slice e.Token.AttrsP e.Token.Attrs.length e.Token.AttrsC]) hO rfl rfl rfl (by rfl) fun b2 w hO => ?_
  refine s_box (vs := [.int .i64 e.Node, .int .i64 e.Token.Kind, .string e.Token.Name, .string e.Token.Data, .string e.Token.System, .int .i64 e.Token.Has, .bool e.Token.Quirks, .int .i32 e.Token.Char, .bool e.Token.Self, .slice e.Token.AttrsP e.Token.Attrs.length e.Token.AttrsC]) hO rfl rfl rfl (by rfl) fun b3 w hO => ?_
  refine l_y rfl rfl (y_assign rfl) ?_
  refine K2 (K3 (K0 (K0 (K1 ?_))))
  refine l_y rfl rfl (y_fldb (o' := 0) rfl) ?_
  refine l_y rfl rfl (D5 hO rfl) ?_
  refine l_y rfl rfl (y_fldb (o' := 0) rfl) ?_
  refine l_y rfl rfl (D5 hO rfl) ?_
  refine N4 (hp := rfl) ?_
  refine l_y rfl rfl (y_move rfl) ?_
  refine l_y rfl rfl (y_fldb (o' := 1) rfl) ?_
  refine l_y rfl rfl (y_fldb (o' := 1) rfl) ?_
  refine l_y rfl rfl (D5 hO rfl) ?_
  refine l_y rfl rfl (y_fldb (o' := 1) rfl) ?_
  refine l_y rfl rfl (y_fldb (o' := 1) rfl) ?_
  refine l_y rfl rfl (D5 hO rfl) ?_
  refine N4 (hp := rfl) ?_
  refine l_y rfl rfl (y_pick_f rfl rfl) ?_
  refine l_y rfl rfl (y_move rfl) ?_
  refine l_y rfl rfl (y_fldb (o' := 1) rfl) ?_
  refine l_y rfl rfl (y_fldb (o' := 2) rfl) ?_
  refine l_y rfl rfl (D5 hO rfl) ?_
  refine l_y rfl rfl (y_fldb (o' := 1) rfl) ?_
  refine l_y rfl rfl (y_fldb (o' := 2) rfl) ?_
  refine l_y rfl rfl (D5 hO rfl) ?_
  refine N8 (hp := rfl) ?_
  refine l_y rfl rfl (y_pick_f rfl rfl) ?_
  refine l_y rfl rfl (y_move rfl) ?_
  refine l_y rfl rfl (y_fldb (o' := 1) rfl) ?_
  refine l_y rfl rfl (y_fldb (o' := 9) rfl) ?_
  refine l_y rfl rfl (D5 hO rfl) ?_
  refine l_y rfl rfl (y_lenL rfl) ?_
  refine l_y rfl rfl (y_fldb (o' := 1) rfl) ?_
  refine l_y rfl rfl (y_fldb (o' := 9) rfl) ?_
  refine l_y rfl rfl (D5 hO rfl) ?_
  refine l_y rfl rfl (y_lenL rfl) ?_
  refine N4 (hp := rfl) ?_
  refine l_y rfl rfl (y_pick_f rfl rfl) ?_
  refine K2 (K3 (L9 (K5 (K3 (K0 (K0 (K1 ?_)))))))
  refine l_y rfl rfl (y_assign rfl) ?_
  refine K2 (K3 (K4 ?_))
  refine c_rounds (X := Nat) (fun i => [(2, .pointer (some ⟨b2, 0, none⟩)), (3, .pointer (some ⟨b3, 0, none⟩)), (4, .bool false), (5, .int .i64 (i : Int))]) (fun i w => Own k w [blk b2 70 (Api_entry.cells e), blk b3 70 (Api_entry.cells e)] ∧ (i ≤ e.Token.Attrs.length)) (fun i => e.Token.Attrs.length - i) (0) ⟨rfl, rfl, rfl, rfl, trivial⟩ ⟨hO.only [.b b2, .b b3], Nat.zero_le _⟩ ?_
  rintro i w m hm ⟨hO, hi⟩
  refine K0 (K0 (K1 ?_))
  refine l_y rfl rfl (y_move rfl) ?_
  refine l_y rfl rfl (y_fldb (o' := 1) rfl) ?_
  refine l_y rfl rfl (y_fldb (o' := 9) rfl) ?_
  refine l_y rfl rfl (D5 hO rfl) ?_
  refine l_y rfl rfl (y_lenL rfl) ?_
  refine Z0 (fun h4_5 => ?_) (fun h4_5 => ?_)
  · refine K2 (K3 (L8 (K5 (K3 (K0 (K4 (K0 ?_)))))))
    refine da_region (by intro c a d v w h; cases d <;> exact h) ?_
    have hO := hO.drew
    refine da_phase _ [] (SO.ks [.b b2, .b b3] hO) ?_
    refine dx_u 0 (by kernel_rfl) rfl rfl rfl (fun w => y_fldb (o' := 1) rfl) ?_
    refine dx_u 1 (by kernel_rfl) rfl rfl rfl (fun w => y_fldb (o' := 9) rfl) ?_
    refine dx_y 2 (by kernel_rfl) rfl rfl rfl (fun w ⟨m, hw⟩ => D5 hw rfl) ?_
    refine dx_u 3 (by kernel_rfl) rfl rfl rfl (fun w => y_move rfl) ?_
    refine dx_u 4 (by kernel_rfl) rfl rfl rfl (fun w => y_idx rfl rfl) ?_
    refine dx_y 5 (by kernel_rfl) rfl rfl rfl (fun w ⟨m, hw⟩ => y_rA (x0 := 0) (enc := Api_attr.cells) (xs := e.Token.Attrs) (cs := [.int .i64 (at_ e.Token.Attrs ((i : Int) : Int).toNat).Space, .string (at_ e.Token.Attrs ((i : Int) : Int).toNat).Prefix, .string (at_ e.Token.Attrs ((i : Int) : Int).toNat).Name, .string (at_ e.Token.Attrs ((i : Int) : Int).toNat).Value]) hw rfl) ?_
    refine dx_u 6 (by kernel_rfl) rfl rfl rfl (fun w => y_fldb (o' := 1) rfl) ?_
    refine dx_u 7 (by kernel_rfl) rfl rfl rfl (fun w => y_fldb (o' := 9) rfl) ?_
    refine dx_y 8 (by kernel_rfl) rfl rfl rfl (fun w ⟨m, hw⟩ => D5 hw rfl) ?_
    refine dx_u 9 (by kernel_rfl) rfl rfl rfl (fun w => y_move rfl) ?_
    refine dx_u 10 (by kernel_rfl) rfl rfl rfl (fun w => y_idx rfl rfl) ?_
    refine dx_y 11 (by kernel_rfl) rfl rfl rfl (fun w ⟨m, hw⟩ => y_rA (x0 := 0) (enc := Api_attr.cells) (xs := e.Token.Attrs) (cs := [.int .i64 (at_ e.Token.Attrs ((i : Int) : Int).toNat).Space, .string (at_ e.Token.Attrs ((i : Int) : Int).toNat).Prefix, .string (at_ e.Token.Attrs ((i : Int) : Int).toNat).Name, .string (at_ e.Token.Attrs ((i : Int) : Int).toNat).Value]) hw rfl) ?_
    refine dx_y 12 (by kernel_rfl) rfl rfl rfl (fun w ⟨m, hw⟩ => y_neA (enc := Api_attr.cells) (a := at_ e.Token.Attrs i) (b := at_ e.Token.Attrs i) (c := false) rfl rfl (by simp)) ?_
    refine dx_end (by kernel_rfl) ?_
    refine K3 (L9 (K5 (K8 (K3 (K1 ?_)))))
    refine l_y rfl rfl (y_move rfl) ?_
    refine l_y rfl rfl (D4) ?_
    refine l_y rfl rfl (y_assign rfl) ?_
    refine K2 ?_
    exact q_next (i + 1) ⟨rfl, rfl, rfl, rfl, trivial⟩ ⟨hO.only [.b b2, .b b3], by omega⟩ (by omega)
  · refine K2 (K3 (L9 (K7 (L1 (L1 (L2 (K3 (K0 (K1 ?_)))))))))
    refine l_y rfl rfl (y_assign rfl) ?_
    refine K2 (K3 (K6 ?_))
    exact fin1 rfl rfl ⟨_, ⟨rfl, rfl⟩, hO.only []⟩
end
end Go.Proofs.Ytbhicbpfdbnpfaa
