/- The walks of the answer's list: clearing, comparing, taking out. -/
import Derived.Test.YtbhicbpfdbnpfaaAct8
set_option linter.unusedVariables false
set_option linter.unusedSimpArgs false
set_option maxRecDepth 100000
namespace Go.Proofs.Ytbhicbpfdbnpfaa
open Go Go.Hb Go.RowKit
theorem Lm.uniq {L : List Api_entry} {i j : Nat} (h : Lm L L.length i) (g : Lm L L.length j) : i = j := by
  rcases Nat.lt_trichotomy i j with h1 | h1 | h1
  · rcases g.it with h2 | ⟨h2, h3⟩
    · omega
    · exact absurd h3 (h.aft j h1 h2)
  · exact h1
  · rcases h.it with h2 | ⟨h2, h3⟩
    · omega
    · exact absurd h3 (g.aft i h1 h2)
section
variable {k : Ctx} {w : World} {z r d : Nat} {q : Option Addr} {L : List Api_entry}
set_option maxHeartbeats 1000000 in
theorem zClear_spec (hl : L.length ≤ 2000000) (hO : Own k w [ralL z r L]) :
    Tri Try.prog 113 #[.pointer (some ⟨z, 0, none⟩)] k w fun v m => ∃ left : Nat, Lm L L.length left ∧ v = .int .i64 ((L.length : Int) - left) ∧ m = [ralL z r (L.take left)] := by
  refine enter (args := [.pointer (some ⟨z, 0, none⟩)]) Try.func113 rfl rfl ?_
  obtain ⟨q, d, hg0, hlc, hO⟩ := ralL_open hO
  refine K0 (K1 ?_)
  refine l_y rfl rfl (y_assign rfl) ?_
  refine K2 (K3 (K0 (K1 ?_)))
  refine l_y rfl rfl (y_assign rfl) ?_
  refine K2 (K3 (K0 (K4 ?_)))
  refine c_rounds (X := Nat × List Api_entry × Int) (fun x => [(0, .pointer (some ⟨z, 0, none⟩)), (2, .int .i64 0), (3, .int .i64 x.2.2)]) (fun x w => Own k w [zB z r q x.2.1.length d, aI q d x.2.1] ∧ (x.1 ≤ L.length) ∧ (x.2.1 = L.take x.1) ∧ (x.2.2 = (L.length : Int) - (x.1 : Int)) ∧ (∀ j, x.1 ≤ j → j < L.length → (at_ L j).Node ≠ -1)) (fun x => x.1) ((L.length, L, 0)) ⟨rfl, rfl, rfl, trivial⟩ ⟨hO.only [.b z, .p q], Nat.le_refl _, (by simp), (by dsimp only; omega), fun j h1 h2 => absurd h2 (by dsimp only at h1; omega)⟩ ?_
  rintro x w m hm ⟨hO, hi, hx, hcn, hn⟩
  refine K0 (K0 (K1 ?_))
  refine l_y rfl rfl (y_move rfl) ?_
  refine l_y rfl rfl (y_nilCheck rfl rfl) ?_
  refine l_y rfl rfl (y_fldb (o' := 1) rfl) ?_
  refine l_y rfl rfl (D5 hO rfl) ?_
  refine l_y rfl rfl (y_lenL rfl) ?_
  refine Z0 (fun h2_5 => ?_) (fun h2_5 => ?_)
  · refine K2 (K3 (L8 (K5 (K3 (K4 (K0 ?_))))))
    have hxl : x.2.1.length = x.1 := by rw [hx]; simp; omega
    obtain ⟨y, hy⟩ : ∃ y, x.1 = y + 1 := ⟨x.1 - 1, by omega⟩
    have hg := (sls_fct (p := q) hO).2
    have hlc2 := (sls_fct (p := q) hO).1
    have ea : at_ x.2.1 ((x.2.1.length : Int) - 1).toNat = at_ L y := by
      rw [hxl, hy, show (((y + 1 : Nat) : Int) - 1).toNat = y by omega, hx]
      have h1 : (L.take x.1)[y]? = some (at_ L y) := by rw [List.getElem?_take_of_lt (by omega)]; exact at_get (by omega)
      exact at_eq h1
    refine da_region (by intro c a d v w h; cases d <;> exact h) ?_
    have hO := hO.drew
    refine da_phase _ [] (SO.ks [.b z, .p q] hO) ?_
    refine dx_u 0 (by kernel_rfl) rfl rfl rfl (fun w => y_move rfl) ?_
    refine dx_u 1 (by kernel_rfl) rfl rfl rfl (fun w => y_nilCheck rfl rfl) ?_
    refine dx_u 2 (by kernel_rfl) rfl rfl rfl (fun w => y_fldb (o' := 1) rfl) ?_
    refine dx_y 3 (by kernel_rfl) rfl rfl rfl (fun w ⟨m, hw⟩ => D5 hw rfl) ?_
    refine dx_u 4 (by kernel_rfl) rfl rfl rfl (fun w => y_move rfl) ?_
    refine dx_u 5 (by kernel_rfl) rfl rfl rfl (fun w => y_nilCheck rfl rfl) ?_
    refine dx_u 6 (by kernel_rfl) rfl rfl rfl (fun w => y_fldb (o' := 1) rfl) ?_
    refine dx_y 7 (by kernel_rfl) rfl rfl rfl (fun w ⟨m, hw⟩ => D5 hw rfl) ?_
    refine dx_u 8 (by kernel_rfl) rfl rfl rfl (fun w => y_lenL rfl) ?_
    refine dx_u 9 (by kernel_rfl) rfl rfl rfl (fun w => D4) ?_
    refine dx_u 10 (by kernel_rfl) rfl rfl rfl (fun w => y_idx rfl rfl) ?_
    refine dx_u 11 (by kernel_rfl) rfl rfl rfl (fun w => y_fld (j' := 0) rfl) ?_
    refine dx_y 12 (by kernel_rfl) rfl rfl rfl (fun w ⟨m, hw⟩ => y_e1 (x0 := 0) hw rfl) ?_
    refine dx_u 13 (by kernel_rfl) rfl rfl rfl (fun w => y_assign rfl) ?_
    refine dx_end (by kernel_rfl) ?_
    refine K3 (K0 ?_)
    refine da_region (by intro c a d v w h; cases d <;> exact h) ?_
    have hO := hO.drew
    refine da_phase _ [14] (SO.ks [.b z] hO) ?_
    refine dx_u 0 (by kernel_rfl) rfl rfl rfl (fun w => y_move rfl) ?_
    refine dx_u 1 (by kernel_rfl) rfl rfl rfl (fun w => y_move rfl) ?_
    refine dx_u 2 (by kernel_rfl) rfl rfl rfl (fun w => y_nilCheck rfl rfl) ?_
    refine dx_u 3 (by kernel_rfl) rfl rfl rfl (fun w => y_fldb (o' := 1) rfl) ?_
    refine dx_y 4 (by kernel_rfl) rfl rfl rfl (fun w ⟨m, hw⟩ => D5 hw rfl) ?_
    refine dx_u 5 (by kernel_rfl) rfl rfl rfl (fun w => y_move rfl) ?_
    refine dx_u 6 (by kernel_rfl) rfl rfl rfl (fun w => y_nilCheck rfl rfl) ?_
    refine dx_u 7 (by kernel_rfl) rfl rfl rfl (fun w => y_fldb (o' := 1) rfl) ?_
    refine dx_y 8 (by kernel_rfl) rfl rfl rfl (fun w ⟨m, hw⟩ => D5 hw rfl) ?_
    refine dx_u 9 (by kernel_rfl) rfl rfl rfl (fun w => y_lenL rfl) ?_
    refine dx_u 10 (by kernel_rfl) rfl rfl rfl (fun w => D4) ?_
    refine dx_y 11 (by kernel_rfl) rfl rfl rfl (fun w ⟨m, hw⟩ => y_hd (x.2.1.length - 1) rfl rfl) ?_
    refine dx_u 12 (by kernel_rfl) rfl rfl rfl (fun w => y_nilCheck rfl rfl) ?_
    refine dx_u 13 (by kernel_rfl) rfl rfl rfl (fun w => y_fldb (o' := 1) rfl) ?_
    refine dx_close 14 (by kernel_rfl) rfl rfl ?_
    refine Y1 hO rfl rfl (fun w hO => ?_)
    simp only [List.set_cons_zero, List.set_cons_succ] at hO
    refine o_done ?_
    refine da_end (by kernel_rfl) ?_
    refine K3 (K0 ?_)
    have hO := sls_cut (hO.ks [.p q]) (x.2.1.length - 1) d (by omega) (by omega) (by omega)
    have e2 : x.2.1.take (x.2.1.length - 1) = L.take y := by rw [hxl, hy, hx, List.take_take]; congr 1; omega
    have e3 : x.2.1.length - 1 = (L.take y).length := by rw [hxl, hy]; simp; omega
    rw [e2, e3] at hO
    rw [ea]
    refine K1 ?_
    refine l_y rfl rfl (y_move rfl) ?_
    refine l_y rfl rfl (D4) ?_
    refine l_y rfl rfl (y_assign rfl) ?_
    refine K2 (K3 (K0 (K1 ?_)))
    refine l_y rfl rfl (y_move rfl) ?_
    refine Z0 (fun h6_1 => ?_) (fun h6_1 => ?_)
    · refine K2 (K3 (L8 (K7 (L7 (L1 (L2 (K3 (K0 (K1 ?_)))))))))
      refine l_y rfl rfl (y_move rfl) ?_
      refine l_y rfl rfl (y_assign rfl) ?_
      refine K2 (K3 (K6 ?_))
      first
        | exact fin1 rfl rfl ⟨_, ⟨y, ⟨by omega, Nat.le_refl _, fun j h1 h2 => hn j (by omega) h2, .inr ⟨by omega, h6_1⟩⟩, by rw [show x.2.2 + 1 = (L.length : Int) - (y : Int) by omega], rfl⟩, (ralL_shut (hO.ks [.b z, .p q]) rfl).one⟩
        | (have hx0 : x.1 = 0 := by
             have hxl : x.2.1.length = x.1 := by rw [hx]; simp; omega
             omega
           have hnil : x.2.1 = L.take 0 := by rw [hx, hx0]
           rw [hnil] at hO
           exact fin1 rfl rfl ⟨_, ⟨0, ⟨Nat.zero_le _, Nat.le_refl _, fun j h1 h2 => hn j (by omega) h2, .inl rfl⟩, by rw [show x.2.2 = (L.length : Int) - ((0 : Nat) : Int) by omega], rfl⟩, (ralL_shut (hO.ks [.b z, .p q]) rfl).one⟩)
    · refine K2 (K3 (L9 (K5 (K8 ?_))))
      exact q_next ((y, L.take y, x.2.2 + 1)) ⟨rfl, rfl, rfl, trivial⟩ ⟨hO.only [.b z, .p q], (by dsimp only; omega), rfl, (by dsimp only; omega), (by dsimp only; intro j h1 h2; by_cases e : j = y; (subst e; exact h6_1); exact hn j (by omega) h2)⟩ (by dsimp only; omega)
  · refine K2 (K3 (L9 (K7 (L1 (L1 (L2 (K3 (K0 (K1 ?_)))))))))
    refine l_y rfl rfl (y_move rfl) ?_
    refine l_y rfl rfl (y_assign rfl) ?_
    refine K2 (K3 (K6 ?_))
    first
      | exact fin1 rfl rfl ⟨_, ⟨y, ⟨by omega, Nat.le_refl _, fun j h1 h2 => hn j (by omega) h2, .inr ⟨by omega, h6_1⟩⟩, by rw [show x.2.2 + 1 = (L.length : Int) - (y : Int) by omega], rfl⟩, (ralL_shut (hO.ks [.b z, .p q]) rfl).one⟩
      | (have hx0 : x.1 = 0 := by
           have hxl : x.2.1.length = x.1 := by rw [hx]; simp; omega
           omega
         have hnil : x.2.1 = L.take 0 := by rw [hx, hx0]
         rw [hnil] at hO
         exact fin1 rfl rfl ⟨_, ⟨0, ⟨Nat.zero_le _, Nat.le_refl _, fun j h1 h2 => hn j (by omega) h2, .inl rfl⟩, by rw [show x.2.2 = (L.length : Int) - ((0 : Nat) : Int) by omega], rfl⟩, (ralL_shut (hO.ks [.b z, .p q]) rfl).one⟩)
theorem ahas_spec {xs : List Api_attr} {y : Api_attr} {px : Option Addr} {cx : Nat} (hx1 : Sli (Ro k) (.slice px xs.length cx) (xs.map Api_attr.cells)) (hxl : xs.length ≤ 9223372036854775807) (hO : Own k w []) :
    Tri Try.prog 190 #[.slice px xs.length cx, .agg (Api_attr.cells y).toArray] k w fun v m => ∃ n : Nat, v = .int .i64 (n : Int) ∧ (n = 0 ↔ (xs.any fun x => decide (y = x)) = false) ∧ m = [] := by
  refine enter (args := [.slice px xs.length cx, .agg (Api_attr.cells y).toArray]) Try.func190 rfl rfl ?_
  have hgx := sli_gs hx1
  refine K0 (K1 ?_)
  refine s_box (vs := [.int .i64 y.Space, .string y.Prefix, .string y.Name, .string y.Value]) hO rfl rfl rfl (by rfl) fun b3 w hO => ?_
  refine l_y rfl rfl (y_assign rfl) ?_
  refine K2 (K3 (K0 (K1 ?_)))
  refine l_y rfl rfl (y_assign rfl) ?_
  refine K2 (K3 (K0 (K0 (K1 ?_))))
  refine l_y rfl rfl (y_assign rfl) ?_
  refine K2 (K3 (K4 ?_))
  refine c_rounds (X := Nat × Nat) (fun x => [(0, .slice px xs.length cx), (3, .pointer (some ⟨b3, 0, none⟩)), (4, .int .i64 0), (5, .int .i64 (x.2 : Int)), (6, .int .i64 (x.1 : Int))]) (fun x w => Own k w [blk b3 63 (Api_attr.cells y)] ∧ (x.1 ≤ xs.length) ∧ (x.2 ≤ x.1 ∧ (x.2 = 0 ↔ ((xs.take x.1).any fun x => decide (y = x)) = false))) (fun x => xs.length - x.1) ((0, 0)) ⟨rfl, rfl, rfl, rfl, rfl, trivial⟩ ⟨hO.only [.b b3], Nat.zero_le _, ⟨Nat.le_refl _, by simp⟩⟩ ?_
  rintro x w m hm ⟨hO, hi, hc⟩
  refine K0 (K0 (K1 ?_))
  refine l_y rfl rfl (y_move rfl) ?_
  refine l_y rfl rfl (y_move rfl) ?_
  refine l_y rfl rfl (y_lenL rfl) ?_
  refine Z0 (fun h3_3 => ?_) (fun h3_3 => ?_)
  · refine K2 (K3 (L8 (K5 (K3 (K0 (K4 (K0 ?_)))))))
    refine da_region (by intro c a d v w h; cases d <;> exact h) ?_
    have hO := hO.drew
    refine da_phase _ [] (SO.ks [.b b3] hO) ?_
    refine dx_u 0 (by kernel_rfl) rfl rfl rfl (fun w => y_move rfl) ?_
    refine dx_u 1 (by kernel_rfl) rfl rfl rfl (fun w => y_move rfl) ?_
    refine dx_u 2 (by kernel_rfl) rfl rfl rfl (fun w => y_idx rfl rfl) ?_
    refine dx_y 3 (by kernel_rfl) rfl rfl rfl (fun w ⟨m, hw⟩ => y_rA (x0 := 0) (enc := Api_attr.cells) (xs := xs) (cs := [.int .i64 (at_ xs ((x.1 : Int) : Int).toNat).Space, .string (at_ xs ((x.1 : Int) : Int).toNat).Prefix, .string (at_ xs ((x.1 : Int) : Int).toNat).Name, .string (at_ xs ((x.1 : Int) : Int).toNat).Value]) hw rfl) ?_
    refine dx_y 4 (by kernel_rfl) rfl rfl rfl (fun w ⟨m, hw⟩ => D8 (cs := [.int .i64 y.Space, .string y.Prefix, .string y.Name, .string y.Value]) hw rfl) ?_
    refine dx_y 5 (by kernel_rfl) rfl rfl rfl (fun w ⟨m, hw⟩ => y_eqA (enc := Api_attr.cells) (a := at_ xs x.1) (b := y) (c := decide (y = at_ xs x.1)) rfl rfl (decide_eq_decide.2 eq_comm)) ?_
    refine dx_end (by kernel_rfl) ?_
    refine K3 ?_
    refine c_split rfl (fun hc18 => ?_) (fun hc18 => ?_)
    · refine K1 ?_
      refine l_y rfl rfl (y_move rfl) ?_
      refine l_y rfl rfl (D4) ?_
      refine l_y rfl rfl (y_assign rfl) ?_
      refine K2 (K8 (K3 (K1 ?_)))
      refine l_y rfl rfl (y_move rfl) ?_
      refine l_y rfl rfl (D4) ?_
      refine l_y rfl rfl (y_assign rfl) ?_
      refine K2 ?_
      have hcn : ∀ b : Bool, decide (y = at_ xs x.1) = b → ((xs.take (x.1 + 1)).any fun x => decide (y = x)) = (((xs.take x.1).any fun x => decide (y = x)) || b) := fun b hb => by rw [any_snoc (by omega), hb]
      first
        | exact q_next (x.1 + 1, x.2 + 1) ⟨rfl, rfl, rfl, rfl, rfl, trivial⟩ ⟨hO.only [.b b3], by dsimp only; omega, ⟨by dsimp only; omega, by dsimp only; rw [hcn true hc18]; simp⟩⟩ (by dsimp only; omega)
        | exact q_next (x.1 + 1, x.2) ⟨rfl, rfl, rfl, rfl, rfl, trivial⟩ ⟨hO.only [.b b3], by dsimp only; omega, ⟨by dsimp only; omega, by dsimp only; rw [hcn false hc18, Bool.or_false]; exact hc.2⟩⟩ (by dsimp only; omega)
    · refine K5 (K8 (K3 (K1 ?_)))
      refine l_y rfl rfl (y_move rfl) ?_
      refine l_y rfl rfl (D4) ?_
      refine l_y rfl rfl (y_assign rfl) ?_
      refine K2 ?_
      have hcn : ∀ b : Bool, decide (y = at_ xs x.1) = b → ((xs.take (x.1 + 1)).any fun x => decide (y = x)) = (((xs.take x.1).any fun x => decide (y = x)) || b) := fun b hb => by rw [any_snoc (by omega), hb]
      first
        | exact q_next (x.1 + 1, x.2 + 1) ⟨rfl, rfl, rfl, rfl, rfl, trivial⟩ ⟨hO.only [.b b3], by dsimp only; omega, ⟨by dsimp only; omega, by dsimp only; rw [hcn true hc18]; simp⟩⟩ (by dsimp only; omega)
        | exact q_next (x.1 + 1, x.2) ⟨rfl, rfl, rfl, rfl, rfl, trivial⟩ ⟨hO.only [.b b3], by dsimp only; omega, ⟨by dsimp only; omega, by dsimp only; rw [hcn false hc18, Bool.or_false]; exact hc.2⟩⟩ (by dsimp only; omega)
  · refine K2 (K3 (L9 (K7 (L1 (L1 (L2 (K3 (K0 (K1 ?_)))))))))
    refine l_y rfl rfl (y_move rfl) ?_
    refine l_y rfl rfl (y_assign rfl) ?_
    refine K2 (K3 (K6 ?_))
    exact fin1 rfl rfl ⟨_, ⟨x.2, rfl, by rw [hc.2, List.take_of_length_le (by omega)], rfl⟩, hO.only []⟩
theorem sets_spec {xs ys : List Api_attr} {px py : Option Addr} {cx cy : Nat} (hx1 : Sli (Ro k) (.slice px xs.length cx) (xs.map Api_attr.cells)) (hy1 : Sli (Ro k) (.slice py ys.length cy) (ys.map Api_attr.cells)) (hxl : xs.length ≤ 9223372036854775807) (hyl : ys.length ≤ 9223372036854775807) (hO : Own k w []) :
    Tri Try.prog 183 #[.slice px xs.length cx, .slice py ys.length cy] k w fun v m => v = .bool (withinB xs ys && withinB ys xs) ∧ m = [] := by
  refine enter (args := [.slice px xs.length cx, .slice py ys.length cy]) Try.func183 rfl rfl ?_
  have hgx := sli_gs hx1
  have hgy := sli_gs hy1
  have wf : ∀ {us vs : List Api_attr} {i : Nat}, i < us.length → (vs.any fun y => decide (at_ us i = y)) = false → withinB us vs = false := fun hi h => List.all_eq_false.2 ⟨_, at_mem hi, by rw [h]; simp⟩
  have ws : ∀ {us vs : List Api_attr} {i : Nat}, i < us.length → withinB (us.take i) vs = true → ¬ (vs.any fun y => decide (at_ us i = y)) = false → withinB (us.take (i + 1)) vs = true := fun hi h1 h2 => by
    rw [take_succ_at hi]
    simp only [withinB, List.all_append, List.all_cons, List.all_nil, Bool.and_true, Bool.and_eq_true]
    exact ⟨h1, by simpa using h2⟩
  refine K0 (K1 ?_)
  refine l_y rfl rfl (y_assign rfl) ?_
  refine K2 (K3 (K0 (K0 (K1 ?_))))
  refine l_y rfl rfl (y_assign rfl) ?_
  refine K2 (K3 (K4 ?_))
  refine c_rounds (X := Nat) (fun i => [(0, .slice px xs.length cx), (1, .slice py ys.length cy), (4, .bool false), (5, .int .i64 (i : Int))]) (fun i w => Own k w [] ∧ (i ≤ xs.length) ∧ (withinB (xs.take i) ys = true)) (fun i => xs.length - i) (0) ⟨rfl, rfl, rfl, rfl, trivial⟩ ⟨hO.only [], Nat.zero_le _, rfl⟩ ?_
  rintro i w m hm ⟨hO, hi, hn⟩
  refine K0 (K0 (K1 ?_))
  refine l_y rfl rfl (y_move rfl) ?_
  refine l_y rfl rfl (y_move rfl) ?_
  refine l_y rfl rfl (y_lenL rfl) ?_
  refine Z0 (fun h2_3 => ?_) (fun h2_3 => ?_)
  · refine K2 (K3 (L8 (K5 (K3 (K0 (K4 (K0 (K1 ?_))))))))
    refine l_y rfl rfl (y_move rfl) ?_
    refine l_y rfl rfl (y_move rfl) ?_
    refine l_y rfl rfl (y_move rfl) ?_
    refine l_y rfl rfl (y_idx rfl rfl) ?_
    refine l_y rfl rfl (y_rA (x0 := 0) (enc := Api_attr.cells) (xs := xs) (cs := [.int .i64 (at_ xs ((i : Int) : Int).toNat).Space, .string (at_ xs ((i : Int) : Int).toNat).Prefix, .string (at_ xs ((i : Int) : Int).toNat).Name, .string (at_ xs ((i : Int) : Int).toNat).Value]) hO rfl) ?_
    refine CK [] hO rfl (fun k' hx hr hO' => ahas_spec (y := at_ xs i) (hy1.ext hO hx) hyl (hO := hO')) ?_
    rintro _ _ w ⟨n8, rfl, n9, rfl⟩ hO
    simp only [List.cons_append, List.nil_append] at hO
    refine Z0 (fun h4_6 => ?_) (fun h4_6 => ?_)
    · refine K2 (K3 (L8 (K0 (K1 ?_))))
      refine l_y rfl rfl (y_assign rfl) ?_
      refine K2 (K3 (K6 (L0 (K9 (K9 (L0 (K9 ?_)))))))
      have e : withinB xs ys = false := wf (i := i) (by omega) (n9.1 (by omega))
      exact fin1 rfl rfl ⟨_, ⟨by rw [e]; rfl, rfl⟩, hO.only []⟩
    · refine K2 (K3 (L9 (K5 (K8 (K3 (K1 ?_))))))
      refine l_y rfl rfl (y_move rfl) ?_
      refine l_y rfl rfl (D4) ?_
      refine l_y rfl rfl (y_assign rfl) ?_
      refine K2 ?_
      exact q_next (i + 1) ⟨rfl, rfl, rfl, rfl, trivial⟩ ⟨hO.only [], by omega, ws (by omega) hn (fun h => h4_6 (by rw [n9.2 h]; rfl))⟩ (by omega)
  · refine K2 (K3 (L9 (K7 (L1 (L1 (L2 (K3 (K0 (K0 (K1 ?_))))))))))
    refine l_y rfl rfl (y_assign rfl) ?_
    refine K2 (K3 (K4 ?_))
    refine c_rounds (X := Nat) (fun j => [(0, .slice px xs.length cx), (1, .slice py ys.length cy), (4, .bool false), (6, .int .i64 (j : Int))]) (fun j w => Own k w [] ∧ (j ≤ ys.length) ∧ (withinB (ys.take j) xs = true)) (fun j => ys.length - j) (0) ⟨rfl, rfl, rfl, rfl, trivial⟩ ⟨hO.only [], Nat.zero_le _, rfl⟩ ?_
    rintro j w m hm ⟨hO, hj, hm2⟩
    refine K0 (K0 (K1 ?_))
    refine l_y rfl rfl (y_move rfl) ?_
    refine l_y rfl rfl (y_move rfl) ?_
    refine l_y rfl rfl (y_lenL rfl) ?_
    refine Z0 (fun h7_3 => ?_) (fun h7_3 => ?_)
    · refine K2 (K3 (L8 (K5 (K3 (K0 (K4 (K0 (K1 ?_))))))))
      refine l_y rfl rfl (y_move rfl) ?_
      refine l_y rfl rfl (y_move rfl) ?_
      refine l_y rfl rfl (y_move rfl) ?_
      refine l_y rfl rfl (y_idx rfl rfl) ?_
      refine l_y rfl rfl (y_rA (x0 := 0) (enc := Api_attr.cells) (xs := ys) (cs := [.int .i64 (at_ ys ((j : Int) : Int).toNat).Space, .string (at_ ys ((j : Int) : Int).toNat).Prefix, .string (at_ ys ((j : Int) : Int).toNat).Name, .string (at_ ys ((j : Int) : Int).toNat).Value]) hO rfl) ?_
      refine CK [] hO rfl (fun k' hx hr hO' => ahas_spec (y := at_ ys j) (hx1.ext hO hx) hxl (hO := hO')) ?_
      rintro _ _ w ⟨n8, rfl, n9, rfl⟩ hO
      simp only [List.cons_append, List.nil_append] at hO
      refine Z0 (fun h9_6 => ?_) (fun h9_6 => ?_)
      · refine K2 (K3 (L8 (K0 (K1 ?_))))
        refine l_y rfl rfl (y_assign rfl) ?_
        refine K2 (K3 (K6 (L0 (K9 (K9 (L0 (K9 ?_)))))))
        have e : withinB ys xs = false := wf (i := j) (by omega) (n9.1 (by omega))
        exact fin1 rfl rfl ⟨_, ⟨by rw [e, Bool.and_false], rfl⟩, hO.only []⟩
      · refine K2 (K3 (L9 (K5 (K8 (K3 (K1 ?_))))))
        refine l_y rfl rfl (y_move rfl) ?_
        refine l_y rfl rfl (D4) ?_
        refine l_y rfl rfl (y_assign rfl) ?_
        refine K2 ?_
        exact q_next (j + 1) ⟨rfl, rfl, rfl, rfl, trivial⟩ ⟨hO.only [], by omega, ws (by omega) hm2 (fun h => h9_6 (by rw [n9.2 h]; rfl))⟩ (by omega)
    · refine K2 (K3 (L9 (K7 (L1 (L1 (L2 (K3 (K0 (K1 ?_)))))))))
      refine l_y rfl rfl (y_assign rfl) ?_
      refine K2 (K3 (K6 ?_))
      have e1 : withinB xs ys = true := by rw [← hn, List.take_of_length_le (by omega)]
      have e2 : withinB ys xs = true := by rw [← hm2, List.take_of_length_le (by omega)]
      exact fin1 rfl rfl ⟨_, ⟨by rw [e1, e2]; rfl, rfl⟩, hO.only []⟩
set_option maxHeartbeats 1000000 in
theorem alike_spec {p : Option Addr} {c n : Nat} {A : List Node_one} {K : Int → List Int} {R : List Ref01_one} {x y : Api_entry} (sm : Sim A K R) (hg : Gs p R.length) (hbx : hasB A x.Node = true) (hby : hasB A y.Node = true) (hx1 : EOk k x) (hy1 : EOk k y) (hO : Own k w [rB r p R.length c, rS p c R, zB z r q n d]) :
    Tri Try.prog 165 #[.pointer (some ⟨z, 0, none⟩), .agg (Api_entry.cells x).toArray, .agg (Api_entry.cells y).toArray] k w fun v m => v = .bool (kinB A y x) ∧ m = [rB r p R.length c, rS p c R, zB z r q n d] := by
  refine enter (args := [.pointer (some ⟨z, 0, none⟩), .agg (Api_entry.cells x).toArray, .agg (Api_entry.cells y).toArray]) Try.func165 rfl rfl ?_
  have hxs := hx1.1
  have hys := hy1.1
  have hxl := hx1.2
  have hyl := hy1.2
  have hlen := sm.len
  have hx0 := hasB_true hbx
  have hy0 := hasB_true hby
  have sx := sm.atB hbx
  have sy := sm.atB hby
  refine K0 (K1 ?_)
  refine s_box (vs := [.int .i64 x.Node, .int .i64 x.Token.Kind, .string x.Token.Name, .string x.Token.Data, .string x.Token.System, .int .i64 x.Token.Has, .bool x.Token.Quirks, .int .i32 x.Token.Char, .bool x.Token.Self, .slice x.Token.AttrsP x.Token.Attrs.length x.Token.AttrsC]) hO rfl rfl rfl (by rfl) fun b4 w hO => ?_
  refine s_box (vs := [.int .i64 y.Node, .int .i64 y.Token.Kind, .string y.Token.Name, .string y.Token.Data, .string y.Token.System, .int .i64 y.Token.Has, .bool y.Token.Quirks, .int .i32 y.Token.Char, .bool y.Token.Self, .slice y.Token.AttrsP y.Token.Attrs.length y.Token.AttrsC]) hO rfl rfl rfl (by rfl) fun b5 w hO => ?_
  refine l_y rfl rfl (y_assign rfl) ?_
  refine K2 (K3 (K0 ?_))
  refine da_region (by intro c a d v w h; cases d <;> exact h) ?_
  have hO := hO.drew
  refine da_phase _ [12] (SO.ks [.b z, .b r, .b b4, .p p] hO) ?_
  refine dx_u 0 (by kernel_rfl) rfl rfl rfl (fun w => y_move rfl) ?_
  refine dx_u 1 (by kernel_rfl) rfl rfl rfl (fun w => y_nilCheck rfl rfl) ?_
  refine dx_u 2 (by kernel_rfl) rfl rfl rfl (fun w => y_fldb (o' := 0) rfl) ?_
  refine dx_y 3 (by kernel_rfl) rfl rfl rfl (fun w ⟨m, hw⟩ => D5 hw rfl) ?_
  refine dx_u 4 (by kernel_rfl) rfl rfl rfl (fun w => y_nilCheck rfl rfl) ?_
  refine dx_u 5 (by kernel_rfl) rfl rfl rfl (fun w => y_fldb (o' := 0) rfl) ?_
  refine dx_y 6 (by kernel_rfl) rfl rfl rfl (fun w ⟨m, hw⟩ => D5 hw rfl) ?_
  refine dx_u 7 (by kernel_rfl) rfl rfl rfl (fun w => y_fldb (o' := 0) rfl) ?_
  refine dx_y 8 (by kernel_rfl) rfl rfl rfl (fun w ⟨m, hw⟩ => D5 hw rfl) ?_
  refine dx_u 9 (by kernel_rfl) rfl rfl rfl (fun w => y_idx rfl rfl) ?_
  refine dx_y 10 (by kernel_rfl) rfl rfl rfl (fun w ⟨m, hw⟩ => y_eA (x0 := 0) (cs := [.int .i64 (at_ R (x.Node : Int).toNat).Kind, .int .i64 (at_ R (x.Node : Int).toNat).Space, .string (at_ R (x.Node : Int).toNat).Name, .slice (at_ R (x.Node : Int).toNat).AttrsP (at_ R (x.Node : Int).toNat).Attrs.length (at_ R (x.Node : Int).toNat).AttrsC, .string (at_ R (x.Node : Int).toNat).Data, .string (at_ R (x.Node : Int).toNat).System, .int .i64 (at_ R (x.Node : Int).toNat).Inner, .int .i64 (at_ R (x.Node : Int).toNat).Host, .int .i64 (at_ R (x.Node : Int).toNat).Up, .slice (at_ R (x.Node : Int).toNat).KidsP (at_ R (x.Node : Int).toNat).Kids.length (at_ R (x.Node : Int).toNat).KidsC]) hw rfl) ?_
  refine dx_only 11 (by kernel_rfl) rfl rfl ?_
  refine s_alloc (vs := [.int .i64 0, .int .i64 0, .string ⟨#[]⟩, .slice none 0 0, .string ⟨#[]⟩, .string ⟨#[]⟩, .int .i64 0, .int .i64 0, .int .i64 0, .slice none 0 0]) hO rfl rfl rfl fun b7 w hO => ?_
  refine o_done ?_
  refine ⟨SO.ks [.b z, .b r, .b b4, .p p] hO, ?_⟩
  refine dx_close 12 (by kernel_rfl) rfl rfl ?_
  refine Y3 hO rfl rfl (fun w hO => ?_)
  refine o_done ?_
  refine da_end (by kernel_rfl) ?_
  refine K3 (K0 ?_)
  refine da_region (by intro c a d v w h; cases d <;> exact h) ?_
  have hO := hO.drew
  refine da_phase _ [12] (SO.ks [.b z, .b r, .b b5, .p p] hO) ?_
  refine dx_u 0 (by kernel_rfl) rfl rfl rfl (fun w => y_move rfl) ?_
  refine dx_u 1 (by kernel_rfl) rfl rfl rfl (fun w => y_nilCheck rfl rfl) ?_
  refine dx_u 2 (by kernel_rfl) rfl rfl rfl (fun w => y_fldb (o' := 0) rfl) ?_
  refine dx_y 3 (by kernel_rfl) rfl rfl rfl (fun w ⟨m, hw⟩ => D5 hw rfl) ?_
  refine dx_u 4 (by kernel_rfl) rfl rfl rfl (fun w => y_nilCheck rfl rfl) ?_
  refine dx_u 5 (by kernel_rfl) rfl rfl rfl (fun w => y_fldb (o' := 0) rfl) ?_
  refine dx_y 6 (by kernel_rfl) rfl rfl rfl (fun w ⟨m, hw⟩ => D5 hw rfl) ?_
  refine dx_u 7 (by kernel_rfl) rfl rfl rfl (fun w => y_fldb (o' := 0) rfl) ?_
  refine dx_y 8 (by kernel_rfl) rfl rfl rfl (fun w ⟨m, hw⟩ => D5 hw rfl) ?_
  refine dx_u 9 (by kernel_rfl) rfl rfl rfl (fun w => y_idx rfl rfl) ?_
  refine dx_y 10 (by kernel_rfl) rfl rfl rfl (fun w ⟨m, hw⟩ => y_eA (x0 := 0) (cs := [.int .i64 (at_ R (y.Node : Int).toNat).Kind, .int .i64 (at_ R (y.Node : Int).toNat).Space, .string (at_ R (y.Node : Int).toNat).Name, .slice (at_ R (y.Node : Int).toNat).AttrsP (at_ R (y.Node : Int).toNat).Attrs.length (at_ R (y.Node : Int).toNat).AttrsC, .string (at_ R (y.Node : Int).toNat).Data, .string (at_ R (y.Node : Int).toNat).System, .int .i64 (at_ R (y.Node : Int).toNat).Inner, .int .i64 (at_ R (y.Node : Int).toNat).Host, .int .i64 (at_ R (y.Node : Int).toNat).Up, .slice (at_ R (y.Node : Int).toNat).KidsP (at_ R (y.Node : Int).toNat).Kids.length (at_ R (y.Node : Int).toNat).KidsC]) hw rfl) ?_
  refine dx_only 11 (by kernel_rfl) rfl rfl ?_
  refine s_alloc (vs := [.int .i64 0, .int .i64 0, .string ⟨#[]⟩, .slice none 0 0, .string ⟨#[]⟩, .string ⟨#[]⟩, .int .i64 0, .int .i64 0, .int .i64 0, .slice none 0 0]) hO rfl rfl rfl fun b8 w hO => ?_
  refine o_done ?_
  refine ⟨SO.ks [.b z, .b r, .b b5, .p p] hO, ?_⟩
  refine dx_close 12 (by kernel_rfl) rfl rfl ?_
  refine Y3 hO rfl rfl (fun w hO => ?_)
  refine o_done ?_
  refine da_end (by kernel_rfl) ?_
  refine K3 (K0 (K1 ?_))
  refine l_y rfl rfl (y_fldb (o' := 2) rfl) ?_
  refine l_y rfl rfl (D5 hO rfl) ?_
  refine l_y rfl rfl (y_fldb (o' := 2) rfl) ?_
  refine l_y rfl rfl (D5 hO rfl) ?_
  refine Z2 (fun h3_4 => ?_) (fun h3_4 => ?_)
  · refine l_y rfl rfl (y_move rfl) ?_
    refine l_y rfl rfl (y_fldb (o' := 1) rfl) ?_
    refine l_y rfl rfl (D5 hO rfl) ?_
    refine l_y rfl rfl (y_fldb (o' := 1) rfl) ?_
    refine l_y rfl rfl (D5 hO rfl) ?_
    refine Z0 (fun h3_10 => ?_) (fun h3_10 => ?_)
    · refine l_y rfl rfl (y_pick_t rfl rfl) ?_
      refine l_y rfl rfl (y_move rfl) ?_
      refine l_y rfl rfl (y_fldb (o' := 1) rfl) ?_
      refine l_y rfl rfl (y_fldb (o' := 9) rfl) ?_
      refine l_y rfl rfl (D5 hO rfl) ?_
      refine l_y rfl rfl (y_fldb (o' := 1) rfl) ?_
      refine l_y rfl rfl (y_fldb (o' := 9) rfl) ?_
      refine l_y rfl rfl (D5 hO rfl) ?_
      refine CK [] hO rfl (fun k' hx hr hO' => sets_spec (hxs.ext hO hx) (hys.ext hO hx) hxl hyl (hO := hO')) ?_
      rintro _ _ w ⟨rfl, rfl⟩ hO
      simp only [List.cons_append, List.nil_append] at hO
      refine l_y rfl rfl (y_pick_t rfl rfl) ?_
      refine l_y rfl rfl (y_assign rfl) ?_
      refine K2 (K3 (K6 ?_))
      have n1 : (nodeA A x.Node).Name = (at_ R x.Node.toNat).Name := by first | exact sx.name | exact sx.name.symm
      have n2 : (nodeA A y.Node).Name = (at_ R y.Node.toNat).Name := by first | exact sy.name | exact sy.name.symm
      have n3 : (nodeA A x.Node).Space = (at_ R x.Node.toNat).Space := by first | exact sx.space | exact sx.space.symm
      have n4 : (nodeA A y.Node).Space = (at_ R y.Node.toNat).Space := by first | exact sy.space | exact sy.space.symm
      refine fin1 rfl rfl ⟨_, ⟨?_, rfl⟩, hO.only [.b r, .p p, .b z]⟩
      rw [kinB, n1, n2, n3, n4]
      first
        | (rw [decide_eq_true h3_4.symm, decide_eq_true h3_10.symm, Bool.true_and, Bool.true_and, Bool.and_comm]; done)
        | (simp [show ¬ (at_ R y.Node.toNat).Space = (at_ R x.Node.toNat).Space from fun h => h3_10 h.symm]; done)
        | (simp [show ¬ (at_ R y.Node.toNat).Name = (at_ R x.Node.toNat).Name from fun h => h3_4 h.symm]; done)
    · refine l_y rfl rfl (y_pick_t rfl rfl) ?_
      refine l_y rfl rfl (y_move rfl) ?_
      repeat refine M2 ?_
      refine l_y rfl rfl (y_pick_f rfl rfl) ?_
      refine l_y rfl rfl (y_assign rfl) ?_
      refine K2 (K3 (K6 ?_))
      have n1 : (nodeA A x.Node).Name = (at_ R x.Node.toNat).Name := by first | exact sx.name | exact sx.name.symm
      have n2 : (nodeA A y.Node).Name = (at_ R y.Node.toNat).Name := by first | exact sy.name | exact sy.name.symm
      have n3 : (nodeA A x.Node).Space = (at_ R x.Node.toNat).Space := by first | exact sx.space | exact sx.space.symm
      have n4 : (nodeA A y.Node).Space = (at_ R y.Node.toNat).Space := by first | exact sy.space | exact sy.space.symm
      refine fin1 rfl rfl ⟨_, ⟨?_, rfl⟩, hO.only [.b r, .p p, .b z]⟩
      rw [kinB, n1, n2, n3, n4]
      first
        | (rw [decide_eq_true h3_4.symm, decide_eq_true h3_10.symm, Bool.true_and, Bool.true_and, Bool.and_comm]; done)
        | (simp [show ¬ (at_ R y.Node.toNat).Space = (at_ R x.Node.toNat).Space from fun h => h3_10 h.symm]; done)
        | (simp [show ¬ (at_ R y.Node.toNat).Name = (at_ R x.Node.toNat).Name from fun h => h3_4 h.symm]; done)
  · refine l_y rfl rfl (y_move rfl) ?_
    repeat refine M2 ?_
    refine l_y rfl rfl (y_pick_f rfl rfl) ?_
    refine l_y rfl rfl (y_move rfl) ?_
    repeat refine M2 ?_
    refine l_y rfl rfl (y_pick_f rfl rfl) ?_
    refine l_y rfl rfl (y_assign rfl) ?_
    refine K2 (K3 (K6 ?_))
    have n1 : (nodeA A x.Node).Name = (at_ R x.Node.toNat).Name := by first | exact sx.name | exact sx.name.symm
    have n2 : (nodeA A y.Node).Name = (at_ R y.Node.toNat).Name := by first | exact sy.name | exact sy.name.symm
    have n3 : (nodeA A x.Node).Space = (at_ R x.Node.toNat).Space := by first | exact sx.space | exact sx.space.symm
    have n4 : (nodeA A y.Node).Space = (at_ R y.Node.toNat).Space := by first | exact sy.space | exact sy.space.symm
    refine fin1 rfl rfl ⟨_, ⟨?_, rfl⟩, hO.only [.b r, .p p, .b z]⟩
    rw [kinB, n1, n2, n3, n4]
    first
      | (rw [decide_eq_true h3_4.symm, decide_eq_true h3_10.symm, Bool.true_and, Bool.true_and, Bool.and_comm]; done)
      | (simp [show ¬ (at_ R y.Node.toNat).Space = (at_ R x.Node.toNat).Space from fun h => h3_10 h.symm]; done)
      | (simp [show ¬ (at_ R y.Node.toNat).Name = (at_ R x.Node.toNat).Name from fun h => h3_4 h.symm]; done)
end
end Go.Proofs.Ytbhicbpfdbnpfaa
