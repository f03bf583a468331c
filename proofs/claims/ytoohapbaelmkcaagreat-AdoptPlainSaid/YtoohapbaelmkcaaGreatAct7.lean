/- The walks of the list's Remove, Put and Swap. -/
import Derived.Test.YtoohapbaelmkcaaGreatAct3
set_option linter.unusedVariables false
set_option linter.unusedSimpArgs false
set_option maxRecDepth 100000
namespace Go.Proofs.YtoohapbaelmkcaaGreat
open Go Go.Hb Go.RowKit
section
variable {P : Program} {ops : Array Oper} {Q : Exit → Act → World → Prop} {n : Nat} {ds : List Deferred} {E : Env} {w : World} {k : Ctx} {l : List HP}
variable {rest : List Oper} {d : Option Tmp} {ty : TypeId} {pos : String} {aft : Array Edge} {g : Option (Nat × Bool)}
/-- copy(x[i+1:], x[i:]) of one's own x -/
theorem s_cpUp {t u T : TypeId} {agg : Bool} {sz : Nat} [hu : Und P t (.slice T)] [hl : Lay P T agg sz] {x y : Operand} {p : Option Addr} {c i : Nat} {α : Type} {enc : α → List Value} {xs : List α} {rl : List HP} (hO : Own k w l) (hx : ev E x = some (.slice (subp p c (i + 1) sz) (xs.length - (i + 1)) (c - (i + 1)))) (hy : ev E y = some (.slice (subp p c i sz) (xs.length - i) (c - i))) {sz' : Nat} [hp : PkP l p T α c sz' enc xs rl] [ho : OneC enc sz] (hi : i < xs.length)
    (h : ∀ w', Own k w' (sls p c T sz enc (xs.take (i + 1) ++ (xs.drop i).take (xs.length - (i + 1))) :: rl) → LW P ops Q n ds rest (E.put d (.int .i64 ((xs.length - (i + 1) : Nat) : Int))) w') (hsz : sz' = sz := by rfl) (hg : gd ops E g = some true := by rfl) (hd : dok n d = true := by rfl) : LW P ops Q n ds (⟨d, .call ⟨.builtin .copy, #[x, y], #[t, u]⟩, ty, pos, aft, g⟩ :: rest) E w := by
  subst hsz
  have hO1 := hO.pull hp.pull
  have hv := sls_sli (p := p) hO1
  have hf := sls_fct (p := p) hO1
  obtain ⟨b, o, rfl⟩ := hf.2 (by omega)
  obtain ⟨m, hm⟩ : ∃ m, m = xs.length - (i + 1) := ⟨_, rfl⟩
  have hlen : ((xs.drop i).take m).length = m := by simp; omega
  have hsrc : subp (some ⟨b, o, none⟩) c i sz' = some ⟨b, o + i * sz', none⟩ := by
    rw [subp, if_neg (by have := hf.1; omega)]; simp only [Option.map_some, Addr.add_lit]
  have hH : Holds w ⟨b, o + i * sz', none⟩ (((xs.drop i).take m).map enc).flatten := by
    have hv2 := sli_tl (cuts_holds w) hv i (by omega)
    rw [hsrc] at hv2
    have hv3 := sli_hd (cuts_holds w) hv2 m (c - i) (by omega) (by have := hf.1; omega)
    by_cases h0 : m = 0
    · intro j v hj; simp [h0] at hj
    · obtain ⟨p', c', he, _, h3⟩ := hv3
      obtain ⟨b', o', hp', hH⟩ := h3 (by intro e; rw [List.map_eq_nil_iff] at e; rw [e] at hlen; simp at hlen; omega)
      rw [hp'] at he
      injection he with he _ _
      injection he with he
      rw [he]; exact hH
  have hfl : (((xs.drop i).take m).map enc).flatten.length = m * sz' := by rw [OneC.flat, hlen]
  have hC : (Builtin.firstCells sz' m (.slice (some ⟨b, o + i * sz', none⟩) (xs.length - i) (c - i))).run P w = .ok (((xs.drop i).take m).map enc).flatten.toArray w := run_firstCells_some (P := P) w sz' m ⟨b, o + i * sz', none⟩ (xs.length - i) (c - i) _ hfl (fun j v hv => hH j v hv)
  have hmin : Nat.min (xs.length - i) m = m := Nat.min_eq_right (by omega)
  rw [hsrc] at hy
  rw [← hm] at hx h
  have e2 : ∀ ys : List α, ys = (xs.drop i).take m → (xs.map enc).take (i + 1) ++ ys.map enc ++ (xs.map enc).drop (i + 1 + ys.length) = (xs.take (i + 1) ++ ys).map enc := by
    intro ys he
    rw [he, hlen, show i + 1 + m = xs.length by omega]
    simp
  by_cases h0 : m = 0
  · obtain ⟨q, hq⟩ : ∃ q, subp (some ⟨b, o, none⟩) c (i + 1) sz' = some q := by
      rw [subp]; split
      · exact ⟨_, rfl⟩
      · exact ⟨_, rfl⟩
    rw [hq] at hx
    have hnil : (xs.drop i).take m = [] := by rw [h0]; simp
    have hr : (Builtin.copy_ #[t, u] ty #[.slice (some q) m (c - (i + 1)), .slice (some ⟨b, o + i * sz', none⟩) (xs.length - i) (c - i)]).run P w = .ok (.int .i64 m) w := by
      rw [hnil] at hC
      simp [Builtin.copy_, Builtin.lenOf, run_underlying hu.eq, hl.size, hmin, hC, storeCells, goInt]
    refine l_val (o := ⟨d, .call ⟨.builtin .copy, #[x, y], #[t, u]⟩, ty, pos, aft, g⟩) hg hd (fun a ha => ?_) (h w ?_)
    · simp [execOp, resolve, ha.eval hx, ha.eval hy, invoke, builtin, hr]
    · rw [hnil, List.append_nil, List.take_of_length_le (by omega)]; exact hO1
  · have hdst : subp (some ⟨b, o, none⟩) c (i + 1) sz' = some ⟨b, o + (i + 1) * sz', none⟩ := by
      rw [subp, if_neg (by have := hf.1; omega)]; simp only [Option.map_some, Addr.add_lit]
    rw [hdst] at hx
    have hO2 := arr_sls hO1 rfl
    obtain ⟨w', hst, hO3⟩ := hO2.store (P := P) (.hd _ _ _) (Upd.ofRows (i := i + 1) (news := ((xs.drop i).take m).map enc) (OneC.rows _) (by rw [List.length_map, List.length_map, hlen]; omega)) (by
      intro v hv
      obtain ⟨r, hr, hv⟩ := List.mem_flatten.1 hv
      exact OneC.cells _ r hr v hv)
    have hr : (Builtin.copy_ #[t, u] ty #[.slice (some ⟨b, o + (i + 1) * sz', none⟩) m (c - (i + 1)), .slice (some ⟨b, o + i * sz', none⟩) (xs.length - i) (c - i)]).run P w = .ok (.int .i64 m) w' := by
      generalize (((xs.drop i).take m).map enc).flatten = N at hC hst
      simp [Builtin.copy_, Builtin.lenOf, run_underlying hu.eq, hl.size, hmin, hC, hst, goInt]
    refine l_val (o := ⟨d, .call ⟨.builtin .copy, #[x, y], #[t, u]⟩, ty, pos, aft, g⟩) hg hd (fun a ha => ?_) (h w' ?_)
    · simp [execOp, resolve, ha.eval hx, ha.eval hy, invoke, builtin, hr]
    · rw [List.length_map] at hO3
      rw [e2 _ rfl] at hO3
      refine sls_mk (sl_shut hO3 rfl) ?_ rfl
      simp
end
section
variable {k : Ctx} {w : World} {s a c : Nat} {p : Option Addr} {L : List Api_entry} {A : List Node_one}
theorem findE_cases (L : List Api_entry) (x : Int) : findE L x = -1 ∨ ∃ i : Nat, findE L x = i ∧ i < L.length ∧ (at_ L i).Node = x ∧ x ≠ -1 := by
  by_cases h : x = -1
  · exact .inl (by rw [findE, if_pos h])
  · rcases idx_cases (fun y : Api_entry => decide (y.Node = x)) L with ⟨h1, _⟩ | ⟨i, h1, h2, h3, _⟩
    · exact .inl (by rw [findE, if_neg h]; exact h1)
    · exact .inr ⟨i, by rw [findE, if_neg h]; exact h1, h2, of_decide_eq_true h3, h⟩
def removeE (L : List Api_entry) (id : Int) : Int × List Api_entry := if findE L id < 0 then (6, L) else (0, cutE L (findE L id).toNat)
theorem aRemove_spec {id : Int} (hl : L.length ≤ 2000000) (hO : Own k w [actL s a L]) :
    Tri Tryz.prog 34 #[.pointer (some ⟨s, 0, none⟩), .int .i64 id] k w fun v m => v = .int .i64 (removeE L id).1 ∧ m = [actL s a (removeE L id).2] := by
  refine enter (args := [.pointer (some ⟨s, 0, none⟩), .int .i64 id]) Tryz.func34 rfl rfl ?_
  obtain ⟨p, c, hg, hlc, hO⟩ := actL_open hO
  refine K0 (K1 ?_)
  refine l_y rfl rfl (y_assign rfl) ?_
  refine K2 (K3 (K0 (K1 ?_)))
  refine l_y rfl rfl (y_move rfl) ?_
  refine l_y rfl rfl (y_move rfl) ?_
  refine CK [.b s, .p p] hO rfl (fun k' hx hr hO' => aFindB_spec hg hl (hO := hO')) ?_
  rintro _ _ w ⟨rfl, rfl⟩ hO
  simp only [List.cons_append, List.nil_append] at hO
  refine l_y rfl rfl (y_assign rfl) ?_
  refine K2 (K3 (K0 (K4 (K0 (K1 ?_)))))
  refine l_y rfl rfl (y_move rfl) ?_
  refine CK [.b s] hO rfl (fun k' hx hr hO' => anone_spec (hO := hO')) ?_
  rintro _ _ w ⟨rfl, rfl⟩ hO
  simp only [List.cons_append, List.nil_append] at hO
  refine l_y rfl rfl (y_assign rfl) ?_
  refine K2 (K3 (L9 (K0 (K1 ?_))))
  refine l_y rfl rfl (y_move rfl) ?_
  refine Z0 (fun h4_1 => ?_) (fun h4_1 => ?_)
  · refine l_y rfl rfl (y_assign rfl) ?_
    refine K2 (K3 (L8 (K0 (K1 ?_))))
    refine l_y rfl rfl (y_assign rfl) ?_
    refine K2 (K3 (K6 (L0 (K9 ?_))))
    exact fin1 rfl rfl ⟨_, ⟨by rw [removeE, if_pos h4_1], rfl⟩, by rw [removeE, if_pos h4_1]; exact (actL_shut (hO.ks [.b s, .p p])).one⟩
  · refine l_y rfl rfl (y_assign rfl) ?_
    refine K2 (K3 (L9 (K5 (K8 (K3 (K0 ?_))))))
    obtain ⟨i, hi, hi2⟩ : ∃ i : Nat, findE L id = i ∧ i < L.length := by
      rcases findE_cases L id with h | ⟨i, h1, h2, _⟩
      · omega
      · exact ⟨i, h1, h2⟩
    have er : removeE L id = (0, cutE L i) := by rw [removeE, if_neg h4_1, hi]; rfl
    rw [er]
    refine K1 ?_
    refine l_y rfl rfl (y_move rfl) ?_
    refine l_y rfl rfl (y_move rfl) ?_
    refine CK [.b s, .p p] hO (by rw [hi]; rfl) (fun k' hx hr hO' => remove_spec hi2 hg hlc hl (hO := hO')) ?_
    rintro _ _ w ⟨rfl, rfl⟩ hO
    simp only [List.cons_append, List.nil_append] at hO
    refine K2 (K3 (K0 (K1 ?_)))
    refine l_y rfl rfl (y_assign rfl) ?_
    refine K2 (K3 (K6 ?_))
    exact fin1 rfl rfl ⟨_, ⟨rfl, rfl⟩, hO.one⟩
def putE (A : List Node_one) (L : List Api_entry) (i : Int) (e : Api_entry) : Int × List Api_entry := if freshF A L e.Node ≠ 0 then (freshF A L e.Node, L) else if i < 0 ∨ (L.length : Int) < i then (1, L) else (0, L.take i.toNat ++ [e] ++ L.drop i.toNat)
theorem put_up {i : Nat} {e d : Api_entry} (hi : i ≤ L.length) : ((L ++ [d]).take (i + 1) ++ ((L ++ [d]).drop i).take ((L ++ [d]).length - (i + 1))).set i e = L.take i ++ [e] ++ L.drop i := by
  have h1 : ((L ++ [d]).drop i).take ((L ++ [d]).length - (i + 1)) = L.drop i := by
    rw [List.drop_append_of_le_length hi, List.length_append, List.length_singleton, show L.length + 1 - (i + 1) = (L.drop i).length by simp, List.take_left]
  rw [h1, take_succ_at (by simp; omega), List.take_append_of_le_length hi, List.append_assoc, List.set_append_right _ _ (by simp; omega)]
  simp [List.length_take, Nat.min_eq_left hi]
set_option maxHeartbeats 1000000 in
theorem aPut_spec {id i : Int} {tk : Api_token} (hn : 0 < A.length) (ha : AttrsOk A) (hl : L.length ≤ 2000000) (hO : Own k w [arenaL a A, actL s a L]) :
    Tri Tryz.prog 105 #[.pointer (some ⟨s, 0, none⟩), .int .i64 i, .int .i64 id, .agg (Api_token.cells tk).toArray] k w fun v m => v = .int .i64 (putE A L i ⟨id, tk⟩).1 ∧ m = [arenaL a A, actL s a (putE A L i ⟨id, tk⟩).2] := by
  refine enter (args := [.pointer (some ⟨s, 0, none⟩), .int .i64 i, .int .i64 id, .agg (Api_token.cells tk).toArray]) Tryz.func105 rfl rfl ?_
  obtain ⟨p, c, hg, hlc, hO⟩ := actL_open (hO.ks [.o s])
  refine K0 (K1 ?_)
  refine s_box (vs := [.int .i64 tk.Kind, .string tk.Name, .string tk.Data, .string tk.System, .int .i64 tk.Has, .bool tk.Quirks, .int .i32 tk.Char, .bool tk.Self, .slice tk.AttrsP tk.Attrs.length tk.AttrsC]) hO rfl rfl rfl (by rfl) fun b7 w hO => ?_
  refine l_y rfl rfl (y_assign rfl) ?_
  refine K2 (K3 (K0 (K0 (K1 ?_))))
  refine l_y rfl rfl (y_move rfl) ?_
  refine l_y rfl rfl (y_move rfl) ?_
  refine CK [.o a, .b s, .p p] hO rfl (fun k' hx hr hO' => afresh_spec hn ha hg hl (hO := hO')) ?_
  rintro _ _ w ⟨rfl, rfl⟩ hO
  simp only [List.cons_append, List.nil_append] at hO
  refine l_y rfl rfl (y_assign rfl) ?_
  refine K2 (K3 (K4 (K0 (K1 ?_))))
  refine l_y rfl rfl (y_move rfl) ?_
  refine Z1 (fun h2_1 => ?_) (fun h2_1 => ?_)
  · refine l_y rfl rfl (y_assign rfl) ?_
    refine K2 (K3 (L8 (K0 (K1 ?_))))
    refine l_y rfl rfl (y_move rfl) ?_
    refine l_y rfl rfl (y_assign rfl) ?_
    refine K2 (K3 (K6 (L0 (K9 ?_))))
    have er : putE A L i ⟨id, tk⟩ = (freshF A L id, L) := by rw [putE, if_pos h2_1]
    rw [er]
    exact fin1 rfl rfl ⟨_, ⟨rfl, rfl⟩, ((actL_shut (hO.ks [.b s, .p p])).ks [.o a, .o s]).two⟩
  · refine l_y rfl rfl (y_assign rfl) ?_
    refine K2 (K3 (L9 (K0 (K1 ?_))))
    refine l_y rfl rfl (y_move rfl) ?_
    refine Z0 (fun h4_1 => ?_) (fun h4_1 => ?_)
    · refine l_y rfl rfl (y_move rfl) ?_
      repeat refine M2 ?_
      refine l_y rfl rfl (y_pick_t rfl rfl) ?_
      refine l_y rfl rfl (y_assign rfl) ?_
      refine K2 (K3 (L8 (K0 (K1 ?_))))
      refine l_y rfl rfl (y_assign rfl) ?_
      refine K2 (K3 (K6 (L0 (K9 ?_))))
      have er : putE A L i ⟨id, tk⟩ = (1, L) := by rw [putE, if_neg (by simpa using h2_1), if_pos (by omega)]
      rw [er]
      exact fin1 rfl rfl ⟨_, ⟨rfl, rfl⟩, ((actL_shut (hO.ks [.b s, .p p])).ks [.o a, .o s]).two⟩
    · refine l_y rfl rfl (y_move rfl) ?_
      refine l_y rfl rfl (y_move rfl) ?_
      refine l_y rfl rfl (y_move rfl) ?_
      refine l_y rfl rfl (y_nilCheck rfl rfl) ?_
      refine l_y rfl rfl (y_fldb (o' := 1) rfl) ?_
      refine l_y rfl rfl (D5 hO rfl) ?_
      refine l_y rfl rfl (y_lenL rfl) ?_
      refine Z0 (fun h4_9 => ?_) (fun h4_9 => ?_)
      · refine l_y rfl rfl (y_pick_f rfl rfl) ?_
        refine l_y rfl rfl (y_assign rfl) ?_
        refine K2 (K3 (L8 (K0 (K1 ?_))))
        refine l_y rfl rfl (y_assign rfl) ?_
        refine K2 (K3 (K6 (L0 (K9 ?_))))
        have er : putE A L i ⟨id, tk⟩ = (1, L) := by rw [putE, if_neg (by simpa using h2_1), if_pos (by omega)]
        rw [er]
        exact fin1 rfl rfl ⟨_, ⟨rfl, rfl⟩, ((actL_shut (hO.ks [.b s, .p p])).ks [.o a, .o s]).two⟩
      · refine l_y rfl rfl (y_pick_f rfl rfl) ?_
        refine l_y rfl rfl (y_assign rfl) ?_
        refine K2 (K3 (L9 (K5 (K8 (K3 (K0 ?_))))))
        obtain ⟨j, rfl⟩ : ∃ j : Nat, i = j := ⟨i.toNat, by omega⟩
        have er : putE A L j ⟨id, tk⟩ = (0, L.take j ++ [⟨id, tk⟩] ++ L.drop j) := by rw [putE, if_neg (by simpa using h2_1), if_neg (by omega)]; rfl
        rw [er]
        refine K1 ?_
        refine l_y rfl rfl (y_move rfl) ?_
        refine l_y rfl rfl (y_move rfl) ?_
        refine l_y rfl rfl (y_nilCheck rfl rfl) ?_
        refine l_y rfl rfl (y_fldb (o' := 1) rfl) ?_
        refine l_y rfl rfl (D5 hO rfl) ?_
        refine s_build (parts := []) (cs := [.int .i64 0, .int .i64 0, .string ⟨#[]⟩, .string ⟨#[]⟩, .string ⟨#[]⟩, .int .i64 0, .bool false, .int .i32 0, .bool false, .slice none 0 0]) rfl rfl (fun a ha => partsOf_sound ha _ _ rfl) (by kernel_rfl) ?_
        refine s_lit (parts := [(0, .tmp 34)]) (enc := Api_entry.cells) [⟨0, ⟨0, ⟨#[]⟩, ⟨#[]⟩, ⟨#[]⟩, 0, false, 0, false, none, [], 0⟩⟩] [.agg [.int .i64 0, .int .i64 0, .string ⟨#[]⟩, .string ⟨#[]⟩, .string ⟨#[]⟩, .int .i64 0, .bool false, .int .i32 0, .bool false, .slice none 0 0].toArray] hO rfl (fun b35 w hO => ?_)
        refine s_app hO rfl rfl (src_own hO) (fun p36 c36 w hO gs36 => ?_)
        refine l_y rfl rfl (y_nilCheck rfl rfl) ?_
        refine l_y rfl rfl (y_fldb (o' := 1) rfl) ?_
        refine Y1 hO rfl rfl (fun w hO => ?_)
        simp only [List.set_cons_zero, List.set_cons_succ] at hO
        refine K2 (K3 (K0 ?_))
        obtain ⟨N, hN⟩ : ∃ N, N = L ++ [(⟨0, ⟨0, ⟨#[]⟩, ⟨#[]⟩, ⟨#[]⟩, 0, false, 0, false, none, [], 0⟩⟩ : Api_entry)] := ⟨_, rfl⟩
        have hNl : N.length = L.length + 1 := by rw [hN]; simp
        rw [← hN] at hO gs36
        have hNc := (sls_fct (p := p36) hO).1
        refine da_region (by intro c a d v w h; cases d <;> exact h) ?_
        have hO := hO.drew
        refine da_phase _ [13] (SO.ks [.b s] hO) ?_
        refine dx_u 0 (by kernel_rfl) rfl rfl rfl (fun w => y_move rfl) ?_
        refine dx_u 1 (by kernel_rfl) rfl rfl rfl (fun w => y_nilCheck rfl rfl) ?_
        refine dx_u 2 (by kernel_rfl) rfl rfl rfl (fun w => y_fldb (o' := 1) rfl) ?_
        refine dx_y 3 (by kernel_rfl) rfl rfl rfl (fun w ⟨m, hw⟩ => D5 hw rfl) ?_
        refine dx_u 4 (by kernel_rfl) rfl rfl rfl (fun w => y_move rfl) ?_
        refine dx_u 5 (by kernel_rfl) rfl rfl rfl (fun w => D4) ?_
        refine dx_y 6 (by kernel_rfl) rfl rfl rfl (fun w ⟨m, hw⟩ => y_tl (j + 1) rfl rfl) ?_
        refine dx_u 7 (by kernel_rfl) rfl rfl rfl (fun w => y_move rfl) ?_
        refine dx_u 8 (by kernel_rfl) rfl rfl rfl (fun w => y_nilCheck rfl rfl) ?_
        refine dx_u 9 (by kernel_rfl) rfl rfl rfl (fun w => y_fldb (o' := 1) rfl) ?_
        refine dx_y 10 (by kernel_rfl) rfl rfl rfl (fun w ⟨m, hw⟩ => D5 hw rfl) ?_
        refine dx_u 11 (by kernel_rfl) rfl rfl rfl (fun w => y_move rfl) ?_
        refine dx_y 12 (by kernel_rfl) rfl rfl rfl (fun w ⟨m, hw⟩ => y_tl j rfl rfl) ?_
        refine dx_close 13 (by kernel_rfl) rfl rfl ?_
        refine s_cpUp (p := p36) hO rfl rfl (by omega) (fun w hO => ?_)
        obtain ⟨N2, hN2⟩ : ∃ N2, N2 = N.take (j + 1) ++ (N.drop j).take (N.length - (j + 1)) := ⟨_, rfl⟩
        have hN2l : N2.length = N.length := by rw [hN2]; simp; omega
        rw [← hN2] at hO
        rw [← hN2l] at hO
        have hgN : Gs p36 N2.length := (sls_fct (p := p36) hO).2
        refine o_done ?_
        refine da_end (by kernel_rfl) ?_
        refine K3 (K0 ?_)
        refine da_region (by intro c a d v w h; cases d <;> exact h) ?_
        have hO := hO.drew
        refine da_phase _ [9] (SO.ks [.b s, .b b7] hO) ?_
        refine dx_u 0 (by kernel_rfl) rfl rfl rfl (fun w => y_move rfl) ?_
        refine dx_u 1 (by kernel_rfl) rfl rfl rfl (fun w => y_nilCheck rfl rfl) ?_
        refine dx_u 2 (by kernel_rfl) rfl rfl rfl (fun w => y_fldb (o' := 1) rfl) ?_
        refine dx_y 3 (by kernel_rfl) rfl rfl rfl (fun w ⟨m, hw⟩ => D5 hw rfl) ?_
        refine dx_u 4 (by kernel_rfl) rfl rfl rfl (fun w => y_move rfl) ?_
        refine dx_u 5 (by kernel_rfl) rfl rfl rfl (fun w => y_move rfl) ?_
        refine dx_y 6 (by kernel_rfl) rfl rfl rfl (fun w ⟨m, hw⟩ => D8 (cs := [.int .i64 tk.Kind, .string tk.Name, .string tk.Data, .string tk.System, .int .i64 tk.Has, .bool tk.Quirks, .int .i32 tk.Char, .bool tk.Self, .slice tk.AttrsP tk.Attrs.length tk.AttrsC]) hw rfl) ?_
        refine dx_only 7 (by kernel_rfl) rfl rfl ?_
        refine s_build (parts := [(0, .tmp 58), (1, .tmp 59)]) (cs := [.int .i64 id, .int .i64 tk.Kind, .string tk.Name, .string tk.Data, .string tk.System, .int .i64 tk.Has, .bool tk.Quirks, .int .i32 tk.Char, .bool tk.Self, .slice tk.AttrsP tk.Attrs.length tk.AttrsC]) rfl rfl (fun a ha => partsOf_sound ha _ _ rfl) (by kernel_rfl) ?_
        refine o_done ?_
        refine ⟨SO.ks [.b s, .b b7] hO, ?_⟩
        refine dx_u 8 (by kernel_rfl) rfl rfl rfl (fun w => y_idx rfl rfl) ?_
        refine dx_close 9 (by kernel_rfl) rfl rfl ?_
        refine s_eA (⟨id, tk⟩ : Api_entry) hO rfl rfl (fun w hO => ?_)
        have hO : Own k w (aI p36 c36 (N2.set j ⟨id, tk⟩) :: _) := hO.ks [.p p36]
        have e7 : N2.set j ⟨id, tk⟩ = L.take j ++ [⟨id, tk⟩] ++ L.drop j := by rw [hN2, hN]; exact put_up (by omega)
        rw [e7] at hO
        refine o_done ?_
        refine da_end (by kernel_rfl) ?_
        refine K3 (K0 (K1 ?_))
        refine l_y rfl rfl (y_assign rfl) ?_
        refine K2 (K3 (K6 ?_))
        have hlf : N2.length = (L.take j ++ [(⟨id, tk⟩ : Api_entry)] ++ L.drop j).length := by rw [hN2l, hNl]; simp; omega
        rw [hlf] at hO
        exact fin1 rfl rfl ⟨_, ⟨rfl, rfl⟩, ((actL_shut (hO.ks [.b s, .p p36]) rfl).ks [.o a, .o s]).two⟩
def swapE (A : List Node_one) (L : List Api_entry) (old id : Int) : Int × List Api_entry := if elB A id = false ∨ findE L old < 0 then (6, L) else if freshF A L id = 0 then (0, L.set (findE L old).toNat { at_ L (findE L old).toNat with Node := id }) else (1, L)
theorem freshF_cases (A : List Node_one) (L : List Api_entry) (id : Int) : (freshF A L id = 6 ∧ elB A id = false) ∨ (freshF A L id = 1 ∧ elB A id = true ∧ 0 ≤ findE L id) ∨ (freshF A L id = 0 ∧ elB A id = true ∧ findE L id < 0) := by
  unfold freshF
  cases h : elB A id with
  | false => exact .inl ⟨rfl, rfl⟩
  | true =>
    right
    by_cases h2 : 0 ≤ findE L id
    · exact .inl ⟨by rw [if_neg (by simp), if_pos h2], rfl, h2⟩
    · exact .inr ⟨by rw [if_neg (by simp), if_neg h2], rfl, by omega⟩
theorem aSwap_spec {old id : Int} (hn : 0 < A.length) (ha : AttrsOk A) (hl : L.length ≤ 2000000) (hO : Own k w [arenaL a A, actL s a L]) :
    Tri Tryz.prog 123 #[.pointer (some ⟨s, 0, none⟩), .int .i64 old, .int .i64 id] k w fun v m => v = .int .i64 (swapE A L old id).1 ∧ m = [arenaL a A, actL s a (swapE A L old id).2] := by
  refine enter (args := [.pointer (some ⟨s, 0, none⟩), .int .i64 old, .int .i64 id]) Tryz.func123 rfl rfl ?_
  obtain ⟨p, c, hg, hlc, hO⟩ := actL_open (hO.ks [.o s])
  have hf := freshF_cases A L id
  refine K0 (K1 ?_)
  refine l_y rfl rfl (y_assign rfl) ?_
  refine K2 (K3 (K0 (K1 ?_)))
  refine l_y rfl rfl (y_move rfl) ?_
  refine l_y rfl rfl (y_move rfl) ?_
  refine CK [.o a, .b s, .p p] hO rfl (fun k' hx hr hO' => afresh_spec hn ha hg hl (hO := hO')) ?_
  rintro _ _ w ⟨rfl, rfl⟩ hO
  simp only [List.cons_append, List.nil_append] at hO
  refine l_y rfl rfl (y_assign rfl) ?_
  refine K2 (K3 (K0 (K1 ?_)))
  refine l_y rfl rfl (y_move rfl) ?_
  refine l_y rfl rfl (y_move rfl) ?_
  refine CK [.b s, .p p] hO rfl (fun k' hx hr hO' => aFindB_spec hg hl (hO := hO')) ?_
  rintro _ _ w ⟨rfl, rfl⟩ hO
  simp only [List.cons_append, List.nil_append] at hO
  refine l_y rfl rfl (y_assign rfl) ?_
  refine K2 (K3 (K0 (K4 (K0 (K1 ?_)))))
  refine l_y rfl rfl (y_move rfl) ?_
  refine N3 ?_
  refine l_y rfl rfl (y_move rfl) ?_
  refine l_y rfl rfl (y_move rfl) ?_
  refine Z0 (fun h3_4 => ?_) (fun h3_4 => ?_)
  · refine l_y rfl rfl (y_pick_f rfl rfl) ?_
    refine l_y rfl rfl (y_assign rfl) ?_
    refine K2 (K3 (L8 (K0 (K1 ?_))))
    refine l_y rfl rfl (y_move rfl) ?_
    refine l_y rfl rfl (y_assign rfl) ?_
    refine K2 (K3 (K6 (L0 (K9 ?_))))
    have hel : elB A id = false := by rcases hf with ⟨_, h⟩ | ⟨h, _, _⟩ | ⟨h, _, _⟩ <;> first | exact h | omega
    have er : swapE A L old id = (6, L) := by rw [swapE, if_pos (.inl hel)]
    rw [er]
    exact fin1 rfl rfl ⟨_, ⟨by simp [*], rfl⟩, ((actL_shut (hO.ks [.b s, .p p])).ks [.o a, .o s]).two⟩
  · refine l_y rfl rfl (y_pick_f rfl rfl) ?_
    refine l_y rfl rfl (y_assign rfl) ?_
    refine K2 (K3 (L9 (K0 (K1 ?_))))
    refine l_y rfl rfl (y_move rfl) ?_
    refine Z0 (fun h5_1 => ?_) (fun h5_1 => ?_)
    · refine l_y rfl rfl (y_assign rfl) ?_
      refine K2 (K3 (L8 (K0 (K1 ?_))))
      refine l_y rfl rfl (y_assign rfl) ?_
      refine K2 (K3 (K6 (L0 (K9 ?_))))
      have er : swapE A L old id = (6, L) := by rw [swapE, if_pos (.inr h5_1)]
      rw [er]
      exact fin1 rfl rfl ⟨_, ⟨rfl, rfl⟩, ((actL_shut (hO.ks [.b s, .p p])).ks [.o a, .o s]).two⟩
    · refine l_y rfl rfl (y_assign rfl) ?_
      refine K2 (K3 (L9 (K0 (K1 ?_))))
      refine l_y rfl rfl (y_move rfl) ?_
      refine Z0 (fun h7_1 => ?_) (fun h7_1 => ?_)
      · refine l_y rfl rfl (y_assign rfl) ?_
        refine K2 (K3 (L8 ?_))
        obtain ⟨i, hi, hfl⟩ : ∃ i : Nat, findE L old = i ∧ i < L.length := by
          rcases findE_cases L old with h | ⟨i, h1, h2, _⟩
          · omega
          · exact ⟨i, h1, h2⟩
        have hel : elB A id = true := by rcases hf with ⟨h, _⟩ | ⟨h, _, _⟩ | ⟨_, h, _⟩ <;> first | exact h | omega
        have er : swapE A L old id = (0, L.set i { at_ L i with Node := id }) := by rw [swapE, if_neg (by simp [hel]; omega), if_pos h7_1, hi]; rfl
        rw [er]
        refine K1 ?_
        refine l_y rfl rfl (y_move rfl) ?_
        refine l_y rfl rfl (y_nilCheck rfl rfl) ?_
        refine l_y rfl rfl (y_fldb (o' := 1) rfl) ?_
        refine l_y rfl rfl (D5 hO rfl) ?_
        refine l_y (v := .int .i64 (i : Int)) rfl rfl (by rw [← hi]; exact y_move rfl) ?_
        refine l_y rfl rfl (y_move rfl) ?_
        refine l_y rfl rfl (y_idx rfl rfl) ?_
        refine l_y rfl rfl (y_fld (j' := 0) rfl) ?_
        refine s_e1 (x0 := 0) hO rfl rfl (fun w hO => ?_)
        refine K2 (K8 (K3 (K0 (K1 ?_))))
        refine l_y rfl rfl (y_move rfl) ?_
        refine l_y rfl rfl (y_assign rfl) ?_
        refine K2 (K3 (K6 ?_))
        have hls : L.length = (L.set i { at_ L i with Node := id }).length := by simp
        rw [hls] at hO
        exact fin1 rfl rfl ⟨_, ⟨by rw [h7_1], rfl⟩, ((actL_shut (hO.ks [.b s, .p p]) rfl).ks [.o a, .o s]).two⟩
      · refine l_y rfl rfl (y_assign rfl) ?_
        refine K2 (K3 (L9 (K5 (K8 (K3 (K0 (K1 ?_)))))))
        refine l_y rfl rfl (y_move rfl) ?_
        refine l_y rfl rfl (y_assign rfl) ?_
        refine K2 (K3 (K6 ?_))
        have hel : elB A id = true ∧ freshF A L id = 1 := by rcases hf with ⟨h, _⟩ | ⟨h, h2, _⟩ | ⟨h, _, _⟩ <;> first | exact ⟨h2, h⟩ | omega
        have er : swapE A L old id = (1, L) := by rw [swapE, if_neg (by simp [hel.1]; omega), if_neg h7_1]
        rw [er]
        exact fin1 rfl rfl ⟨_, ⟨by rw [hel.2], rfl⟩, ((actL_shut (hO.ks [.b s, .p p])).ks [.o a, .o s]).two⟩
end
end Go.Proofs.YtoohapbaelmkcaaGreat
