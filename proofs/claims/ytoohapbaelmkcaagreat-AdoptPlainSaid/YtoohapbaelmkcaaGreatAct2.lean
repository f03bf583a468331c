/- The walks of the list's functions that compare entries, go over them and take one out. -/
import Derived.Test.YtoohapbaelmkcaaGreatAct1
import Derived.Test.YtoohapbaelmkcaaGreatOrder2
set_option linter.unusedVariables false
set_option linter.unusedSimpArgs false
set_option maxRecDepth 100000
namespace Go.Proofs.YtoohapbaelmkcaaGreat
open Go Go.Hb Go.RowKit
section
variable {k : Ctx} {w : World} {s a c : Nat} {p : Option Addr} {L : List Api_entry} {A : List Node_one}
def withinB (xs ys : List Api_attr) : Bool := xs.all fun x => ys.any fun y => decide (x = y)
theorem any_snoc {α : Type} [Inhabited α] {xs : List α} {f : α → Bool} {i : Nat} (hi : i < xs.length) : (xs.take (i + 1)).any f = ((xs.take i).any f || f (at_ xs i)) := by
  rw [take_succ_at hi]; simp
theorem within_spec {xs ys : List Api_attr} {px py : Option Addr} {cx cy : Nat} (hx1 : Sli (Ro k) (.slice px xs.length cx) (xs.map Api_attr.cells)) (hy1 : Sli (Ro k) (.slice py ys.length cy) (ys.map Api_attr.cells)) (hxl : xs.length ≤ 9223372036854775807) (hyl : ys.length ≤ 9223372036854775807) (hO : Own k w []) :
    Tri Tryz.prog 95 #[.slice px xs.length cx, .slice py ys.length cy] k w fun v m => v = .bool (withinB xs ys) ∧ m = [] := by
  refine enter (args := [.slice px xs.length cx, .slice py ys.length cy]) Tryz.func95 rfl rfl ?_
  have hgx := sli_gs hx1
  have hgy := sli_gs hy1
  refine K0 (K1 ?_)
  refine l_y rfl rfl (y_assign rfl) ?_
  refine K2 (K3 (K0 (K0 (K1 ?_))))
  refine l_y rfl rfl (y_move rfl) ?_
  refine l_y rfl rfl (y_lenL rfl) ?_
  refine l_y rfl rfl (y_move rfl) ?_
  refine K2 (K3 (K4 ?_))
  refine c_rounds (X := Nat) (fun i => [(1, .slice py ys.length cy), (4, .bool false), (10, .slice px xs.length cx), (11, .int .i64 ((xs.length : Nat) : Int)), (12, .int .i64 (i : Int))]) (fun i w => Own k w [] ∧ (i ≤ xs.length) ∧ (withinB (xs.take i) ys = true)) (fun i => xs.length - i) (0) ⟨rfl, rfl, rfl, rfl, rfl, trivial⟩ ⟨hO.only [], Nat.zero_le _, rfl⟩ ?_
  rintro i w m hm ⟨hO, hi, hn⟩
  refine K0 (K1 ?_)
  refine Z0 (fun h2_0 => ?_) (fun h2_0 => ?_)
  · refine K2 (K3 (K0 (L8 (K5 (K3 (K0 (K4 (K0 (K1 ?_)))))))))
    refine l_y rfl rfl (y_idx rfl rfl) ?_
    refine l_y rfl rfl (y_rA (x0 := 0) (enc := Api_attr.cells) (xs := xs) (cs := [.int .i64 (at_ xs ((i : Int) : Int).toNat).Space, .string (at_ xs ((i : Int) : Int).toNat).Prefix, .string (at_ xs ((i : Int) : Int).toNat).Name, .string (at_ xs ((i : Int) : Int).toNat).Value]) hO rfl) ?_
    refine s_alloc (vs := [.int .i64 0, .string ⟨#[]⟩, .string ⟨#[]⟩, .string ⟨#[]⟩]) hO rfl rfl rfl fun b6 w hO => ?_
    refine Y3 hO rfl rfl (fun w hO => ?_)
    refine K2 (K3 (K0 (K1 ?_)))
    refine l_y rfl rfl (y_assign rfl) ?_
    refine K2 (K3 (K0 (K0 (K1 ?_))))
    refine l_y rfl rfl (y_move rfl) ?_
    refine l_y rfl rfl (y_lenL rfl) ?_
    refine l_y rfl rfl (y_move rfl) ?_
    refine K2 (K3 (K4 ?_))
    refine c_rounds (X := Nat × Bool) (fun x => [(1, .slice py ys.length cy), (4, .bool false), (6, .pointer (some ⟨b6, 0, none⟩)), (7, .bool x.2), (10, .slice px xs.length cx), (11, .int .i64 ((xs.length : Nat) : Int)), (12, .int .i64 (i : Int)), (16, .slice py ys.length cy), (17, .int .i64 ((ys.length : Nat) : Int)), (18, .int .i64 (x.1 : Int))]) (fun x w => Own k w [blk b6 115 (Api_attr.cells (at_ xs i))] ∧ (x.1 ≤ ys.length) ∧ (x.2 = (ys.take x.1).any fun y => decide (at_ xs i = y))) (fun x => ys.length - x.1) ((0, false)) ⟨rfl, rfl, rfl, rfl, rfl, rfl, rfl, rfl, rfl, rfl, trivial⟩ ⟨hO.only [.b b6], Nat.zero_le _, rfl⟩ ?_
    rintro x w m hm ⟨hO, hj, hb⟩
    refine K0 (K1 ?_)
    refine Z0 (fun h6_0 => ?_) (fun h6_0 => ?_)
    · refine K2 (K3 (K0 (L8 (K5 (K3 (K0 (K4 (K0 (K1 ?_)))))))))
      refine l_y rfl rfl (y_idx rfl rfl) ?_
      refine l_y rfl rfl (y_rA (x0 := 0) (enc := Api_attr.cells) (xs := ys) (cs := [.int .i64 (at_ ys ((x.1 : Int) : Int).toNat).Space, .string (at_ ys ((x.1 : Int) : Int).toNat).Prefix, .string (at_ ys ((x.1 : Int) : Int).toNat).Name, .string (at_ ys ((x.1 : Int) : Int).toNat).Value]) hO rfl) ?_
      refine s_alloc (vs := [.int .i64 0, .string ⟨#[]⟩, .string ⟨#[]⟩, .string ⟨#[]⟩]) hO rfl rfl rfl fun b9 w hO => ?_
      refine Y3 hO rfl rfl (fun w hO => ?_)
      refine K2 (K3 (K1 ?_))
      refine l_y rfl rfl (y_move rfl) ?_
      refine l_y rfl rfl (y_move rfl) ?_
      refine l_split 23 rfl (fun hg23 => ?_) (fun hg23 => ?_)
      · repeat refine M2 ?_
        refine l_y rfl rfl (y_pick_t rfl rfl) ?_
        refine l_y rfl rfl (y_assign rfl) ?_
        refine K2 (K8 (K3 (K1 ?_)))
        refine l_y rfl rfl (D4) ?_
        refine l_y rfl rfl (y_move rfl) ?_
        refine K2 ?_
        exact q_next ((x.1 + 1, _)) ⟨rfl, rfl, rfl, rfl, rfl, rfl, rfl, rfl, rfl, rfl, trivial⟩ ⟨hO.only [.b b6], by dsimp only; omega, (by dsimp only; rw [any_snoc (by omega), ← hb, hg23]; first | rfl | exact (Bool.true_or _).symm | exact (Bool.false_or _).symm)⟩ (by dsimp only; omega)
      · refine l_y rfl rfl (D8 (cs := [.int .i64 (at_ xs ((i : Int) : Int).toNat).Space, .string (at_ xs ((i : Int) : Int).toNat).Prefix, .string (at_ xs ((i : Int) : Int).toNat).Name, .string (at_ xs ((i : Int) : Int).toNat).Value]) hO rfl) ?_
        refine l_y rfl rfl (D8 (cs := [.int .i64 (at_ ys ((x.1 : Int) : Int).toNat).Space, .string (at_ ys ((x.1 : Int) : Int).toNat).Prefix, .string (at_ ys ((x.1 : Int) : Int).toNat).Name, .string (at_ ys ((x.1 : Int) : Int).toNat).Value]) hO rfl) ?_
        refine l_y rfl rfl (y_eqA (enc := Api_attr.cells) (a := at_ xs i) (b := at_ ys x.1) (c := decide (at_ xs i = at_ ys x.1)) rfl rfl rfl) ?_
        refine l_y rfl rfl (y_pick_f rfl rfl) ?_
        refine l_y rfl rfl (y_assign rfl) ?_
        refine K2 (K8 (K3 (K1 ?_)))
        refine l_y rfl rfl (D4) ?_
        refine l_y rfl rfl (y_move rfl) ?_
        refine K2 ?_
        exact q_next ((x.1 + 1, _)) ⟨rfl, rfl, rfl, rfl, rfl, rfl, rfl, rfl, rfl, rfl, trivial⟩ ⟨hO.only [.b b6], by dsimp only; omega, (by dsimp only; rw [any_snoc (by omega), ← hb, hg23]; first | rfl | exact (Bool.true_or _).symm | exact (Bool.false_or _).symm)⟩ (by dsimp only; omega)
    · refine K2 (K3 (K0 (L9 (K7 (L1 (L1 (L2 (K3 (K0 ?_)))))))))
      have hb2 : x.2 = ys.any fun y => decide (at_ xs i = y) := by rw [hb, List.take_of_length_le (by omega)]
      refine K1 ?_
      refine l_y rfl rfl (y_move rfl) ?_
      refine l_y rfl rfl (y_not rfl rfl) ?_
      refine K2 (K3 ?_)
      refine c_split rfl (fun hc30 => ?_) (fun hc30 => ?_)
      · simp only [Bool.not_eq_true', Bool.not_eq_false'] at hc30
        refine K0 (K1 ?_)
        refine l_y rfl rfl (y_assign rfl) ?_
        refine K2 (K3 (K6 (L0 (K9 (K9 (L0 (K9 ?_)))))))
        have e : withinB xs ys = false := List.all_eq_false.2 ⟨at_ xs i, at_mem (by omega), by rw [← hb2]; simpa using hc30⟩
        exact fin1 rfl rfl ⟨_, ⟨by rw [e], rfl⟩, hO.only []⟩
      · simp only [Bool.not_eq_true', Bool.not_eq_false'] at hc30
        refine K5 (K8 (K3 ?_))
        have hn2 : withinB (xs.take (i + 1)) ys = true := by
          rw [take_succ_at (by omega)]
          simp only [withinB, List.all_append, List.all_cons, List.all_nil, Bool.and_true, Bool.and_eq_true]
          exact ⟨hn, by rw [← hb2]; simpa using hc30⟩
        refine K1 ?_
        refine l_y rfl rfl (D4) ?_
        refine l_y rfl rfl (y_move rfl) ?_
        refine K2 ?_
        exact q_next (i + 1) ⟨rfl, rfl, rfl, rfl, rfl, trivial⟩ ⟨hO.only [], by omega, hn2⟩ (by omega)
  · refine K2 (K3 (K0 (L9 (K7 (L1 (L1 (L2 (K3 (K0 (K1 ?_))))))))))
    refine l_y rfl rfl (y_assign rfl) ?_
    refine K2 (K3 (K6 ?_))
    have e : withinB xs ys = true := by rw [← hn, List.take_of_length_le (by omega)]
    exact fin1 rfl rfl ⟨_, ⟨by rw [e], rfl⟩, hO.only []⟩
def EOk (k : Ctx) (e : Api_entry) : Prop := Sli (Ro k) (.slice e.Token.AttrsP e.Token.Attrs.length e.Token.AttrsC) (e.Token.Attrs.map Api_attr.cells) ∧ e.Token.Attrs.length ≤ 9223372036854775807
def kinB (A : List Node_one) (x y : Api_entry) : Bool := decide ((nodeA A x.Node).Name = (nodeA A y.Node).Name) && decide ((nodeA A x.Node).Space = (nodeA A y.Node).Space) && withinB x.Token.Attrs y.Token.Attrs && withinB y.Token.Attrs x.Token.Attrs
set_option maxHeartbeats 2000000 in
theorem kin_spec {n : Nat} {x y : Api_entry} (hn : 0 < A.length) (ha : AttrsOk A) (hbx : hasB A x.Node = true) (hby : hasB A y.Node = true) (hx1 : EOk k x) (hy1 : EOk k y) (hO : Own k w [arenaL a A, aB s a p n c]) :
    Tri Tryz.prog 59 #[.pointer (some ⟨s, 0, none⟩), .agg (Api_entry.cells x).toArray, .agg (Api_entry.cells y).toArray] k w fun v m => v = .bool (kinB A x y) ∧ m = [arenaL a A, aB s a p n c] := by
  refine enter (args := [.pointer (some ⟨s, 0, none⟩), .agg (Api_entry.cells x).toArray, .agg (Api_entry.cells y).toArray]) Tryz.func59 rfl rfl ?_
  have hxs := hx1.1
  have hys := hy1.1
  have hxl := hx1.2
  have hyl := hy1.2
  refine K0 (K1 ?_)
  refine s_box (vs := [.int .i64 x.Node, .int .i64 x.Token.Kind, .string x.Token.Name, .string x.Token.Data, .string x.Token.System, .int .i64 x.Token.Has, .bool x.Token.Quirks, .int .i32 x.Token.Char, .bool x.Token.Self, .slice x.Token.AttrsP x.Token.Attrs.length x.Token.AttrsC]) hO rfl rfl rfl (by rfl) fun b4 w hO => ?_
  refine s_box (vs := [.int .i64 y.Node, .int .i64 y.Token.Kind, .string y.Token.Name, .string y.Token.Data, .string y.Token.System, .int .i64 y.Token.Has, .bool y.Token.Quirks, .int .i32 y.Token.Char, .bool y.Token.Self, .slice y.Token.AttrsP y.Token.Attrs.length y.Token.AttrsC]) hO rfl rfl rfl (by rfl) fun b5 w hO => ?_
  refine l_y rfl rfl (y_assign rfl) ?_
  refine K2 (K3 (K0 ?_))
  refine da_region (by intro c a d v w h; cases d <;> exact h) ?_
  have hO := hO.drew
  refine da_phase _ [11] (SO.ks [.b s, .b b4] hO) ?_
  refine dx_u 0 (by kernel_rfl) rfl rfl rfl (fun w => y_move rfl) ?_
  refine dx_u 1 (by kernel_rfl) rfl rfl rfl (fun w => y_nilCheck rfl rfl) ?_
  refine dx_u 2 (by kernel_rfl) rfl rfl rfl (fun w => y_fldb (o' := 0) rfl) ?_
  refine dx_y 3 (by kernel_rfl) rfl rfl rfl (fun w ⟨m, hw⟩ => D5 hw rfl) ?_
  refine dx_u 4 (by kernel_rfl) rfl rfl rfl (fun w => y_fldb (o' := 0) rfl) ?_
  refine dx_y 5 (by kernel_rfl) rfl rfl rfl (fun w ⟨m, hw⟩ => D5 hw rfl) ?_
  refine dx_two 6 10 (by kernel_rfl) rfl rfl rfl rfl ?_ ?_
  · refine CK [.o a] hO rfl (fun k' hx hr hO' => NodeD_spec hn ha (hO := hO')) ?_
    rintro _ _ w ⟨n1, hn1, rfl, rfl⟩ hO
    simp only [List.cons_append, List.nil_append] at hO
    refine o_done ?_
    refine ⟨SO.ks [.b s, .b b4] hO, ?_⟩
    refine dx_u 7 (by kernel_rfl) rfl rfl rfl (fun w => y_move rfl) ?_
    refine dx_u 8 (by kernel_rfl) rfl rfl rfl (fun w => y_extract rfl rfl) ?_
    refine dx_u 9 (by kernel_rfl) rfl rfl rfl (fun w => y_extract rfl rfl) ?_
    refine dx_only 10 (by kernel_rfl) rfl rfl ?_
    refine s_alloc (vs := [.int .i64 0, .int .i64 0, .string ⟨#[]⟩, .slice none 0 0, .string ⟨#[]⟩, .string ⟨#[]⟩, .int .i64 0, .int .i64 0, .int .i64 0, .int .i64 0, .int .i64 0, .int .i64 0]) hO rfl rfl rfl fun b7 w hO => ?_
    refine o_done ?_
    refine ⟨SO.ks [.b s, .b b4] hO, ?_⟩
    refine dx_close 11 (by kernel_rfl) rfl rfl ?_
    refine Y3 hO rfl rfl (fun w hO => ?_)
    refine o_done ?_
    refine da_phase _ [] (SO.ks [] hO) ?_
    refine dx_u 12 (by kernel_rfl) rfl rfl rfl (fun w => y_assign rfl) ?_
    refine dx_end (by kernel_rfl) ?_
    refine K3 (K0 ?_)
    refine da_region (by intro c a d v w h; cases d <;> exact h) ?_
    have hO := hO.drew
    refine da_phase _ [11] (SO.ks [.b s, .b b5] hO) ?_
    refine dx_u 0 (by kernel_rfl) rfl rfl rfl (fun w => y_move rfl) ?_
    refine dx_u 1 (by kernel_rfl) rfl rfl rfl (fun w => y_nilCheck rfl rfl) ?_
    refine dx_u 2 (by kernel_rfl) rfl rfl rfl (fun w => y_fldb (o' := 0) rfl) ?_
    refine dx_y 3 (by kernel_rfl) rfl rfl rfl (fun w ⟨m, hw⟩ => D5 hw rfl) ?_
    refine dx_u 4 (by kernel_rfl) rfl rfl rfl (fun w => y_fldb (o' := 0) rfl) ?_
    refine dx_y 5 (by kernel_rfl) rfl rfl rfl (fun w ⟨m, hw⟩ => D5 hw rfl) ?_
    refine dx_two 6 10 (by kernel_rfl) rfl rfl rfl rfl ?_ ?_
    · refine CK [.o a] hO rfl (fun k' hx hr hO' => NodeD_spec hn ha (hO := hO')) ?_
      rintro _ _ w ⟨n2, hn2, rfl, rfl⟩ hO
      simp only [List.cons_append, List.nil_append] at hO
      refine o_done ?_
      refine ⟨SO.ks [.b s, .b b5] hO, ?_⟩
      refine dx_u 7 (by kernel_rfl) rfl rfl rfl (fun w => y_move rfl) ?_
      refine dx_u 8 (by kernel_rfl) rfl rfl rfl (fun w => y_extract rfl rfl) ?_
      refine dx_u 9 (by kernel_rfl) rfl rfl rfl (fun w => y_extract rfl rfl) ?_
      refine dx_only 10 (by kernel_rfl) rfl rfl ?_
      refine s_alloc (vs := [.int .i64 0, .int .i64 0, .string ⟨#[]⟩, .slice none 0 0, .string ⟨#[]⟩, .string ⟨#[]⟩, .int .i64 0, .int .i64 0, .int .i64 0, .int .i64 0, .int .i64 0, .int .i64 0]) hO rfl rfl rfl fun b9 w hO => ?_
      refine o_done ?_
      refine ⟨SO.ks [.b s, .b b5] hO, ?_⟩
      refine dx_close 11 (by kernel_rfl) rfl rfl ?_
      refine Y3 hO rfl rfl (fun w hO => ?_)
      refine o_done ?_
      refine da_phase _ [] (SO.ks [] hO) ?_
      refine dx_u 12 (by kernel_rfl) rfl rfl rfl (fun w => y_assign rfl) ?_
      refine dx_end (by kernel_rfl) ?_
      refine K3 (K0 ?_)
      have e1 : n1.Name = (nodeA A x.Node).Name := hn1.name hbx
      have e2 : n2.Name = (nodeA A y.Node).Name := hn2.name hby
      have e3 : n1.Space = (nodeA A x.Node).Space := hn1.space hbx
      have e4 : n2.Space = (nodeA A y.Node).Space := hn2.space hby
      refine K1 ?_
      refine l_y rfl rfl (y_fldb (o' := 2) rfl) ?_
      refine l_y rfl rfl (D5 hO rfl) ?_
      refine l_y rfl rfl (y_fldb (o' := 2) rfl) ?_
      refine l_y rfl rfl (D5 hO rfl) ?_
      refine Z2 (fun h3_4 => ?_) (fun h3_4 => ?_)
      · refine l_y rfl rfl (y_move rfl) ?_
        refine l_y rfl rfl (y_fldb (o' := 1) rfl) ?_
        refine l_y rfl rfl (D5 hO rfl) ?_
        refine l_y rfl rfl (y_fldb (o' := 1) rfl) ?_
        refine l_y rfl rfl (D5 hO rfl) ?_
        refine Z0 (fun h3_10 => ?_) (fun h3_10 => ?_)
        · refine l_y rfl rfl (y_pick_t rfl rfl) ?_
          refine l_y rfl rfl (y_move rfl) ?_
          refine l_y rfl rfl (y_fldb (o' := 1) rfl) ?_
          refine l_y rfl rfl (y_fldb (o' := 9) rfl) ?_
          refine l_y rfl rfl (D5 hO rfl) ?_
          refine l_y rfl rfl (y_fldb (o' := 1) rfl) ?_
          refine l_y rfl rfl (y_fldb (o' := 9) rfl) ?_
          refine l_y rfl rfl (D5 hO rfl) ?_
          refine CK [] hO rfl (fun k' hx hr hO' => within_spec (hxs.ext hO hx) (hys.ext hO hx) hxl hyl (hO := hO')) ?_
          rintro _ _ w ⟨rfl, rfl⟩ hO
          simp only [List.cons_append, List.nil_append] at hO
          refine l_y rfl rfl (y_pick_t rfl rfl) ?_
          refine l_y rfl rfl (y_move rfl) ?_
          refine l_split 52 rfl (fun hg52 => ?_) (fun hg52 => ?_)
          · refine l_y rfl rfl (y_fldb (o' := 1) rfl) ?_
            refine l_y rfl rfl (y_fldb (o' := 9) rfl) ?_
            refine l_y rfl rfl (D5 hO rfl) ?_
            refine l_y rfl rfl (y_fldb (o' := 1) rfl) ?_
            refine l_y rfl rfl (y_fldb (o' := 9) rfl) ?_
            refine l_y rfl rfl (D5 hO rfl) ?_
            refine CK [] hO rfl (fun k' hx hr hO' => within_spec (hys.ext hO hx) (hxs.ext hO hx) hyl hxl (hO := hO')) ?_
            rintro _ _ w ⟨rfl, rfl⟩ hO
            simp only [List.cons_append, List.nil_append] at hO
            refine l_y rfl rfl (y_pick_t rfl rfl) ?_
            refine l_y rfl rfl (y_assign rfl) ?_
            refine K2 (K3 (K6 ?_))
            exact fin1 rfl rfl ⟨_, ⟨by rw [kinB, ← e1, ← e2, ← e3, ← e4]; first | simp [h3_4, h3_10, hg52] | simp [h3_4, h3_10] | simp [h3_4], rfl⟩, hO.only [.o a, .b s]⟩
          · repeat refine M2 ?_
            refine l_y rfl rfl (y_pick_f rfl rfl) ?_
            refine l_y rfl rfl (y_assign rfl) ?_
            refine K2 (K3 (K6 ?_))
            exact fin1 rfl rfl ⟨_, ⟨by rw [kinB, ← e1, ← e2, ← e3, ← e4]; first | simp [h3_4, h3_10, hg52] | simp [h3_4, h3_10] | simp [h3_4], rfl⟩, hO.only [.o a, .b s]⟩
        · refine l_y rfl rfl (y_pick_t rfl rfl) ?_
          refine l_y rfl rfl (y_move rfl) ?_
          repeat refine M2 ?_
          refine l_y rfl rfl (y_pick_f rfl rfl) ?_
          refine l_y rfl rfl (y_move rfl) ?_
          repeat refine M2 ?_
          refine l_y rfl rfl (y_pick_f rfl rfl) ?_
          refine l_y rfl rfl (y_assign rfl) ?_
          refine K2 (K3 (K6 ?_))
          exact fin1 rfl rfl ⟨_, ⟨by rw [kinB, ← e1, ← e2, ← e3, ← e4]; first | simp [h3_4, h3_10, hg52] | simp [h3_4, h3_10] | simp [h3_4], rfl⟩, hO.only [.o a, .b s]⟩
      · refine l_y rfl rfl (y_move rfl) ?_
        repeat refine M2 ?_
        refine l_y rfl rfl (y_pick_f rfl rfl) ?_
        refine l_y rfl rfl (y_move rfl) ?_
        repeat refine M2 ?_
        refine l_y rfl rfl (y_pick_f rfl rfl) ?_
        refine l_y rfl rfl (y_move rfl) ?_
        repeat refine M2 ?_
        refine l_y rfl rfl (y_pick_f rfl rfl) ?_
        refine l_y rfl rfl (y_assign rfl) ?_
        refine K2 (K3 (K6 ?_))
        exact fin1 rfl rfl ⟨_, ⟨by rw [kinB, ← e1, ← e2, ← e3, ← e4]; first | simp [h3_4, h3_10, hg52] | simp [h3_4, h3_10] | simp [h3_4], rfl⟩, hO.only [.o a, .b s]⟩
    · refine s_alloc (vs := [.int .i64 0, .int .i64 0, .string ⟨#[]⟩, .slice none 0 0, .string ⟨#[]⟩, .string ⟨#[]⟩, .int .i64 0, .int .i64 0, .int .i64 0, .int .i64 0, .int .i64 0, .int .i64 0]) hO rfl rfl rfl fun b9 w hO => ?_
      refine o_done ?_
      refine ⟨SO.ks [.b s, .b b5] hO, ?_⟩
      refine dx_only 6 (by kernel_rfl) rfl rfl ?_
      refine CK [.o a] hO rfl (fun k' hx hr hO' => NodeD_spec hn ha (hO := hO')) ?_
      rintro _ _ w ⟨n2, hn2, rfl, rfl⟩ hO
      simp only [List.cons_append, List.nil_append] at hO
      refine o_done ?_
      refine ⟨SO.ks [.b s, .b b5] hO, ?_⟩
      refine dx_u 7 (by kernel_rfl) rfl rfl rfl (fun w => y_move rfl) ?_
      refine dx_u 8 (by kernel_rfl) rfl rfl rfl (fun w => y_extract rfl rfl) ?_
      refine dx_u 9 (by kernel_rfl) rfl rfl rfl (fun w => y_extract rfl rfl) ?_
      refine dx_close 11 (by kernel_rfl) rfl rfl ?_
      refine Y3 hO rfl rfl (fun w hO => ?_)
      refine o_done ?_
      refine da_phase _ [] (SO.ks [] hO) ?_
      refine dx_u 12 (by kernel_rfl) rfl rfl rfl (fun w => y_assign rfl) ?_
      refine dx_end (by kernel_rfl) ?_
      refine K3 (K0 ?_)
      have e1 : n1.Name = (nodeA A x.Node).Name := hn1.name hbx
      have e2 : n2.Name = (nodeA A y.Node).Name := hn2.name hby
      have e3 : n1.Space = (nodeA A x.Node).Space := hn1.space hbx
      have e4 : n2.Space = (nodeA A y.Node).Space := hn2.space hby
      refine K1 ?_
      refine l_y rfl rfl (y_fldb (o' := 2) rfl) ?_
      refine l_y rfl rfl (D5 hO rfl) ?_
      refine l_y rfl rfl (y_fldb (o' := 2) rfl) ?_
      refine l_y rfl rfl (D5 hO rfl) ?_
      refine Z2 (fun h3_4 => ?_) (fun h3_4 => ?_)
      · refine l_y rfl rfl (y_move rfl) ?_
        refine l_y rfl rfl (y_fldb (o' := 1) rfl) ?_
        refine l_y rfl rfl (D5 hO rfl) ?_
        refine l_y rfl rfl (y_fldb (o' := 1) rfl) ?_
        refine l_y rfl rfl (D5 hO rfl) ?_
        refine Z0 (fun h3_10 => ?_) (fun h3_10 => ?_)
        · refine l_y rfl rfl (y_pick_t rfl rfl) ?_
          refine l_y rfl rfl (y_move rfl) ?_
          refine l_y rfl rfl (y_fldb (o' := 1) rfl) ?_
          refine l_y rfl rfl (y_fldb (o' := 9) rfl) ?_
          refine l_y rfl rfl (D5 hO rfl) ?_
          refine l_y rfl rfl (y_fldb (o' := 1) rfl) ?_
          refine l_y rfl rfl (y_fldb (o' := 9) rfl) ?_
          refine l_y rfl rfl (D5 hO rfl) ?_
          refine CK [] hO rfl (fun k' hx hr hO' => within_spec (hxs.ext hO hx) (hys.ext hO hx) hxl hyl (hO := hO')) ?_
          rintro _ _ w ⟨rfl, rfl⟩ hO
          simp only [List.cons_append, List.nil_append] at hO
          refine l_y rfl rfl (y_pick_t rfl rfl) ?_
          refine l_y rfl rfl (y_move rfl) ?_
          refine l_split 52 rfl (fun hg52 => ?_) (fun hg52 => ?_)
          · refine l_y rfl rfl (y_fldb (o' := 1) rfl) ?_
            refine l_y rfl rfl (y_fldb (o' := 9) rfl) ?_
            refine l_y rfl rfl (D5 hO rfl) ?_
            refine l_y rfl rfl (y_fldb (o' := 1) rfl) ?_
            refine l_y rfl rfl (y_fldb (o' := 9) rfl) ?_
            refine l_y rfl rfl (D5 hO rfl) ?_
            refine CK [] hO rfl (fun k' hx hr hO' => within_spec (hys.ext hO hx) (hxs.ext hO hx) hyl hxl (hO := hO')) ?_
            rintro _ _ w ⟨rfl, rfl⟩ hO
            simp only [List.cons_append, List.nil_append] at hO
            refine l_y rfl rfl (y_pick_t rfl rfl) ?_
            refine l_y rfl rfl (y_assign rfl) ?_
            refine K2 (K3 (K6 ?_))
            exact fin1 rfl rfl ⟨_, ⟨by rw [kinB, ← e1, ← e2, ← e3, ← e4]; first | simp [h3_4, h3_10, hg52] | simp [h3_4, h3_10] | simp [h3_4], rfl⟩, hO.only [.o a, .b s]⟩
          · repeat refine M2 ?_
            refine l_y rfl rfl (y_pick_f rfl rfl) ?_
            refine l_y rfl rfl (y_assign rfl) ?_
            refine K2 (K3 (K6 ?_))
            exact fin1 rfl rfl ⟨_, ⟨by rw [kinB, ← e1, ← e2, ← e3, ← e4]; first | simp [h3_4, h3_10, hg52] | simp [h3_4, h3_10] | simp [h3_4], rfl⟩, hO.only [.o a, .b s]⟩
        · refine l_y rfl rfl (y_pick_t rfl rfl) ?_
          refine l_y rfl rfl (y_move rfl) ?_
          repeat refine M2 ?_
          refine l_y rfl rfl (y_pick_f rfl rfl) ?_
          refine l_y rfl rfl (y_move rfl) ?_
          repeat refine M2 ?_
          refine l_y rfl rfl (y_pick_f rfl rfl) ?_
          refine l_y rfl rfl (y_assign rfl) ?_
          refine K2 (K3 (K6 ?_))
          exact fin1 rfl rfl ⟨_, ⟨by rw [kinB, ← e1, ← e2, ← e3, ← e4]; first | simp [h3_4, h3_10, hg52] | simp [h3_4, h3_10] | simp [h3_4], rfl⟩, hO.only [.o a, .b s]⟩
      · refine l_y rfl rfl (y_move rfl) ?_
        repeat refine M2 ?_
        refine l_y rfl rfl (y_pick_f rfl rfl) ?_
        refine l_y rfl rfl (y_move rfl) ?_
        repeat refine M2 ?_
        refine l_y rfl rfl (y_pick_f rfl rfl) ?_
        refine l_y rfl rfl (y_move rfl) ?_
        repeat refine M2 ?_
        refine l_y rfl rfl (y_pick_f rfl rfl) ?_
        refine l_y rfl rfl (y_assign rfl) ?_
        refine K2 (K3 (K6 ?_))
        exact fin1 rfl rfl ⟨_, ⟨by rw [kinB, ← e1, ← e2, ← e3, ← e4]; first | simp [h3_4, h3_10, hg52] | simp [h3_4, h3_10] | simp [h3_4], rfl⟩, hO.only [.o a, .b s]⟩
  · refine s_alloc (vs := [.int .i64 0, .int .i64 0, .string ⟨#[]⟩, .slice none 0 0, .string ⟨#[]⟩, .string ⟨#[]⟩, .int .i64 0, .int .i64 0, .int .i64 0, .int .i64 0, .int .i64 0, .int .i64 0]) hO rfl rfl rfl fun b7 w hO => ?_
    refine o_done ?_
    refine ⟨SO.ks [.b s, .b b4] hO, ?_⟩
    refine dx_only 6 (by kernel_rfl) rfl rfl ?_
    refine CK [.o a] hO rfl (fun k' hx hr hO' => NodeD_spec hn ha (hO := hO')) ?_
    rintro _ _ w ⟨n1, hn1, rfl, rfl⟩ hO
    simp only [List.cons_append, List.nil_append] at hO
    refine o_done ?_
    refine ⟨SO.ks [.b s, .b b4] hO, ?_⟩
    refine dx_u 7 (by kernel_rfl) rfl rfl rfl (fun w => y_move rfl) ?_
    refine dx_u 8 (by kernel_rfl) rfl rfl rfl (fun w => y_extract rfl rfl) ?_
    refine dx_u 9 (by kernel_rfl) rfl rfl rfl (fun w => y_extract rfl rfl) ?_
    refine dx_close 11 (by kernel_rfl) rfl rfl ?_
    refine Y3 hO rfl rfl (fun w hO => ?_)
    refine o_done ?_
    refine da_phase _ [] (SO.ks [] hO) ?_
    refine dx_u 12 (by kernel_rfl) rfl rfl rfl (fun w => y_assign rfl) ?_
    refine dx_end (by kernel_rfl) ?_
    refine K3 (K0 ?_)
    refine da_region (by intro c a d v w h; cases d <;> exact h) ?_
    have hO := hO.drew
    refine da_phase _ [11] (SO.ks [.b s, .b b5] hO) ?_
    refine dx_u 0 (by kernel_rfl) rfl rfl rfl (fun w => y_move rfl) ?_
    refine dx_u 1 (by kernel_rfl) rfl rfl rfl (fun w => y_nilCheck rfl rfl) ?_
    refine dx_u 2 (by kernel_rfl) rfl rfl rfl (fun w => y_fldb (o' := 0) rfl) ?_
    refine dx_y 3 (by kernel_rfl) rfl rfl rfl (fun w ⟨m, hw⟩ => D5 hw rfl) ?_
    refine dx_u 4 (by kernel_rfl) rfl rfl rfl (fun w => y_fldb (o' := 0) rfl) ?_
    refine dx_y 5 (by kernel_rfl) rfl rfl rfl (fun w ⟨m, hw⟩ => D5 hw rfl) ?_
    refine dx_two 6 10 (by kernel_rfl) rfl rfl rfl rfl ?_ ?_
    · refine CK [.o a] hO rfl (fun k' hx hr hO' => NodeD_spec hn ha (hO := hO')) ?_
      rintro _ _ w ⟨n2, hn2, rfl, rfl⟩ hO
      simp only [List.cons_append, List.nil_append] at hO
      refine o_done ?_
      refine ⟨SO.ks [.b s, .b b5] hO, ?_⟩
      refine dx_u 7 (by kernel_rfl) rfl rfl rfl (fun w => y_move rfl) ?_
      refine dx_u 8 (by kernel_rfl) rfl rfl rfl (fun w => y_extract rfl rfl) ?_
      refine dx_u 9 (by kernel_rfl) rfl rfl rfl (fun w => y_extract rfl rfl) ?_
      refine dx_only 10 (by kernel_rfl) rfl rfl ?_
      refine s_alloc (vs := [.int .i64 0, .int .i64 0, .string ⟨#[]⟩, .slice none 0 0, .string ⟨#[]⟩, .string ⟨#[]⟩, .int .i64 0, .int .i64 0, .int .i64 0, .int .i64 0, .int .i64 0, .int .i64 0]) hO rfl rfl rfl fun b9 w hO => ?_
      refine o_done ?_
      refine ⟨SO.ks [.b s, .b b5] hO, ?_⟩
      refine dx_close 11 (by kernel_rfl) rfl rfl ?_
      refine Y3 hO rfl rfl (fun w hO => ?_)
      refine o_done ?_
      refine da_phase _ [] (SO.ks [] hO) ?_
      refine dx_u 12 (by kernel_rfl) rfl rfl rfl (fun w => y_assign rfl) ?_
      refine dx_end (by kernel_rfl) ?_
      refine K3 (K0 ?_)
      have e1 : n1.Name = (nodeA A x.Node).Name := hn1.name hbx
      have e2 : n2.Name = (nodeA A y.Node).Name := hn2.name hby
      have e3 : n1.Space = (nodeA A x.Node).Space := hn1.space hbx
      have e4 : n2.Space = (nodeA A y.Node).Space := hn2.space hby
      refine K1 ?_
      refine l_y rfl rfl (y_fldb (o' := 2) rfl) ?_
      refine l_y rfl rfl (D5 hO rfl) ?_
      refine l_y rfl rfl (y_fldb (o' := 2) rfl) ?_
      refine l_y rfl rfl (D5 hO rfl) ?_
      refine Z2 (fun h3_4 => ?_) (fun h3_4 => ?_)
      · refine l_y rfl rfl (y_move rfl) ?_
        refine l_y rfl rfl (y_fldb (o' := 1) rfl) ?_
        refine l_y rfl rfl (D5 hO rfl) ?_
        refine l_y rfl rfl (y_fldb (o' := 1) rfl) ?_
        refine l_y rfl rfl (D5 hO rfl) ?_
        refine Z0 (fun h3_10 => ?_) (fun h3_10 => ?_)
        · refine l_y rfl rfl (y_pick_t rfl rfl) ?_
          refine l_y rfl rfl (y_move rfl) ?_
          refine l_y rfl rfl (y_fldb (o' := 1) rfl) ?_
          refine l_y rfl rfl (y_fldb (o' := 9) rfl) ?_
          refine l_y rfl rfl (D5 hO rfl) ?_
          refine l_y rfl rfl (y_fldb (o' := 1) rfl) ?_
          refine l_y rfl rfl (y_fldb (o' := 9) rfl) ?_
          refine l_y rfl rfl (D5 hO rfl) ?_
          refine CK [] hO rfl (fun k' hx hr hO' => within_spec (hxs.ext hO hx) (hys.ext hO hx) hxl hyl (hO := hO')) ?_
          rintro _ _ w ⟨rfl, rfl⟩ hO
          simp only [List.cons_append, List.nil_append] at hO
          refine l_y rfl rfl (y_pick_t rfl rfl) ?_
          refine l_y rfl rfl (y_move rfl) ?_
          refine l_split 52 rfl (fun hg52 => ?_) (fun hg52 => ?_)
          · refine l_y rfl rfl (y_fldb (o' := 1) rfl) ?_
            refine l_y rfl rfl (y_fldb (o' := 9) rfl) ?_
            refine l_y rfl rfl (D5 hO rfl) ?_
            refine l_y rfl rfl (y_fldb (o' := 1) rfl) ?_
            refine l_y rfl rfl (y_fldb (o' := 9) rfl) ?_
            refine l_y rfl rfl (D5 hO rfl) ?_
            refine CK [] hO rfl (fun k' hx hr hO' => within_spec (hys.ext hO hx) (hxs.ext hO hx) hyl hxl (hO := hO')) ?_
            rintro _ _ w ⟨rfl, rfl⟩ hO
            simp only [List.cons_append, List.nil_append] at hO
            refine l_y rfl rfl (y_pick_t rfl rfl) ?_
            refine l_y rfl rfl (y_assign rfl) ?_
            refine K2 (K3 (K6 ?_))
            exact fin1 rfl rfl ⟨_, ⟨by rw [kinB, ← e1, ← e2, ← e3, ← e4]; first | simp [h3_4, h3_10, hg52] | simp [h3_4, h3_10] | simp [h3_4], rfl⟩, hO.only [.o a, .b s]⟩
          · repeat refine M2 ?_
            refine l_y rfl rfl (y_pick_f rfl rfl) ?_
            refine l_y rfl rfl (y_assign rfl) ?_
            refine K2 (K3 (K6 ?_))
            exact fin1 rfl rfl ⟨_, ⟨by rw [kinB, ← e1, ← e2, ← e3, ← e4]; first | simp [h3_4, h3_10, hg52] | simp [h3_4, h3_10] | simp [h3_4], rfl⟩, hO.only [.o a, .b s]⟩
        · refine l_y rfl rfl (y_pick_t rfl rfl) ?_
          refine l_y rfl rfl (y_move rfl) ?_
          repeat refine M2 ?_
          refine l_y rfl rfl (y_pick_f rfl rfl) ?_
          refine l_y rfl rfl (y_move rfl) ?_
          repeat refine M2 ?_
          refine l_y rfl rfl (y_pick_f rfl rfl) ?_
          refine l_y rfl rfl (y_assign rfl) ?_
          refine K2 (K3 (K6 ?_))
          exact fin1 rfl rfl ⟨_, ⟨by rw [kinB, ← e1, ← e2, ← e3, ← e4]; first | simp [h3_4, h3_10, hg52] | simp [h3_4, h3_10] | simp [h3_4], rfl⟩, hO.only [.o a, .b s]⟩
      · refine l_y rfl rfl (y_move rfl) ?_
        repeat refine M2 ?_
        refine l_y rfl rfl (y_pick_f rfl rfl) ?_
        refine l_y rfl rfl (y_move rfl) ?_
        repeat refine M2 ?_
        refine l_y rfl rfl (y_pick_f rfl rfl) ?_
        refine l_y rfl rfl (y_move rfl) ?_
        repeat refine M2 ?_
        refine l_y rfl rfl (y_pick_f rfl rfl) ?_
        refine l_y rfl rfl (y_assign rfl) ?_
        refine K2 (K3 (K6 ?_))
        exact fin1 rfl rfl ⟨_, ⟨by rw [kinB, ← e1, ← e2, ← e3, ← e4]; first | simp [h3_4, h3_10, hg52] | simp [h3_4, h3_10] | simp [h3_4], rfl⟩, hO.only [.o a, .b s]⟩
    · refine s_alloc (vs := [.int .i64 0, .int .i64 0, .string ⟨#[]⟩, .slice none 0 0, .string ⟨#[]⟩, .string ⟨#[]⟩, .int .i64 0, .int .i64 0, .int .i64 0, .int .i64 0, .int .i64 0, .int .i64 0]) hO rfl rfl rfl fun b9 w hO => ?_
      refine o_done ?_
      refine ⟨SO.ks [.b s, .b b5] hO, ?_⟩
      refine dx_only 6 (by kernel_rfl) rfl rfl ?_
      refine CK [.o a] hO rfl (fun k' hx hr hO' => NodeD_spec hn ha (hO := hO')) ?_
      rintro _ _ w ⟨n2, hn2, rfl, rfl⟩ hO
      simp only [List.cons_append, List.nil_append] at hO
      refine o_done ?_
      refine ⟨SO.ks [.b s, .b b5] hO, ?_⟩
      refine dx_u 7 (by kernel_rfl) rfl rfl rfl (fun w => y_move rfl) ?_
      refine dx_u 8 (by kernel_rfl) rfl rfl rfl (fun w => y_extract rfl rfl) ?_
      refine dx_u 9 (by kernel_rfl) rfl rfl rfl (fun w => y_extract rfl rfl) ?_
      refine dx_close 11 (by kernel_rfl) rfl rfl ?_
      refine Y3 hO rfl rfl (fun w hO => ?_)
      refine o_done ?_
      refine da_phase _ [] (SO.ks [] hO) ?_
      refine dx_u 12 (by kernel_rfl) rfl rfl rfl (fun w => y_assign rfl) ?_
      refine dx_end (by kernel_rfl) ?_
      refine K3 (K0 ?_)
      have e1 : n1.Name = (nodeA A x.Node).Name := hn1.name hbx
      have e2 : n2.Name = (nodeA A y.Node).Name := hn2.name hby
      have e3 : n1.Space = (nodeA A x.Node).Space := hn1.space hbx
      have e4 : n2.Space = (nodeA A y.Node).Space := hn2.space hby
      refine K1 ?_
      refine l_y rfl rfl (y_fldb (o' := 2) rfl) ?_
      refine l_y rfl rfl (D5 hO rfl) ?_
      refine l_y rfl rfl (y_fldb (o' := 2) rfl) ?_
      refine l_y rfl rfl (D5 hO rfl) ?_
      refine Z2 (fun h3_4 => ?_) (fun h3_4 => ?_)
      · refine l_y rfl rfl (y_move rfl) ?_
        refine l_y rfl rfl (y_fldb (o' := 1) rfl) ?_
        refine l_y rfl rfl (D5 hO rfl) ?_
        refine l_y rfl rfl (y_fldb (o' := 1) rfl) ?_
        refine l_y rfl rfl (D5 hO rfl) ?_
        refine Z0 (fun h3_10 => ?_) (fun h3_10 => ?_)
        · refine l_y rfl rfl (y_pick_t rfl rfl) ?_
          refine l_y rfl rfl (y_move rfl) ?_
          refine l_y rfl rfl (y_fldb (o' := 1) rfl) ?_
          refine l_y rfl rfl (y_fldb (o' := 9) rfl) ?_
          refine l_y rfl rfl (D5 hO rfl) ?_
          refine l_y rfl rfl (y_fldb (o' := 1) rfl) ?_
          refine l_y rfl rfl (y_fldb (o' := 9) rfl) ?_
          refine l_y rfl rfl (D5 hO rfl) ?_
          refine CK [] hO rfl (fun k' hx hr hO' => within_spec (hxs.ext hO hx) (hys.ext hO hx) hxl hyl (hO := hO')) ?_
          rintro _ _ w ⟨rfl, rfl⟩ hO
          simp only [List.cons_append, List.nil_append] at hO
          refine l_y rfl rfl (y_pick_t rfl rfl) ?_
          refine l_y rfl rfl (y_move rfl) ?_
          refine l_split 52 rfl (fun hg52 => ?_) (fun hg52 => ?_)
          · refine l_y rfl rfl (y_fldb (o' := 1) rfl) ?_
            refine l_y rfl rfl (y_fldb (o' := 9) rfl) ?_
            refine l_y rfl rfl (D5 hO rfl) ?_
            refine l_y rfl rfl (y_fldb (o' := 1) rfl) ?_
            refine l_y rfl rfl (y_fldb (o' := 9) rfl) ?_
            refine l_y rfl rfl (D5 hO rfl) ?_
            refine CK [] hO rfl (fun k' hx hr hO' => within_spec (hys.ext hO hx) (hxs.ext hO hx) hyl hxl (hO := hO')) ?_
            rintro _ _ w ⟨rfl, rfl⟩ hO
            simp only [List.cons_append, List.nil_append] at hO
            refine l_y rfl rfl (y_pick_t rfl rfl) ?_
            refine l_y rfl rfl (y_assign rfl) ?_
            refine K2 (K3 (K6 ?_))
            exact fin1 rfl rfl ⟨_, ⟨by rw [kinB, ← e1, ← e2, ← e3, ← e4]; first | simp [h3_4, h3_10, hg52] | simp [h3_4, h3_10] | simp [h3_4], rfl⟩, hO.only [.o a, .b s]⟩
          · repeat refine M2 ?_
            refine l_y rfl rfl (y_pick_f rfl rfl) ?_
            refine l_y rfl rfl (y_assign rfl) ?_
            refine K2 (K3 (K6 ?_))
            exact fin1 rfl rfl ⟨_, ⟨by rw [kinB, ← e1, ← e2, ← e3, ← e4]; first | simp [h3_4, h3_10, hg52] | simp [h3_4, h3_10] | simp [h3_4], rfl⟩, hO.only [.o a, .b s]⟩
        · refine l_y rfl rfl (y_pick_t rfl rfl) ?_
          refine l_y rfl rfl (y_move rfl) ?_
          repeat refine M2 ?_
          refine l_y rfl rfl (y_pick_f rfl rfl) ?_
          refine l_y rfl rfl (y_move rfl) ?_
          repeat refine M2 ?_
          refine l_y rfl rfl (y_pick_f rfl rfl) ?_
          refine l_y rfl rfl (y_assign rfl) ?_
          refine K2 (K3 (K6 ?_))
          exact fin1 rfl rfl ⟨_, ⟨by rw [kinB, ← e1, ← e2, ← e3, ← e4]; first | simp [h3_4, h3_10, hg52] | simp [h3_4, h3_10] | simp [h3_4], rfl⟩, hO.only [.o a, .b s]⟩
      · refine l_y rfl rfl (y_move rfl) ?_
        repeat refine M2 ?_
        refine l_y rfl rfl (y_pick_f rfl rfl) ?_
        refine l_y rfl rfl (y_move rfl) ?_
        repeat refine M2 ?_
        refine l_y rfl rfl (y_pick_f rfl rfl) ?_
        refine l_y rfl rfl (y_move rfl) ?_
        repeat refine M2 ?_
        refine l_y rfl rfl (y_pick_f rfl rfl) ?_
        refine l_y rfl rfl (y_assign rfl) ?_
        refine K2 (K3 (K6 ?_))
        exact fin1 rfl rfl ⟨_, ⟨by rw [kinB, ← e1, ← e2, ← e3, ← e4]; first | simp [h3_4, h3_10, hg52] | simp [h3_4, h3_10] | simp [h3_4], rfl⟩, hO.only [.o a, .b s]⟩
def cutE (L : List Api_entry) (i : Nat) : List Api_entry := L.take i ++ L.drop (i + 1)
set_option maxHeartbeats 2000000 in
theorem remove_spec {i : Nat} (hi : i < L.length) (hg : Gs p L.length) (hlc : L.length ≤ c) (hl : L.length ≤ 2000000) (hO : Own k w [aB s a p L.length c, aI p c L]) :
    Tri Tryz.prog 60 #[.pointer (some ⟨s, 0, none⟩), .int .i64 ((i : Nat) : Int)] k w fun v m => v = .tuple #[] ∧ m = [actL s a (cutE L i)] := by
  refine enter (args := [.pointer (some ⟨s, 0, none⟩), .int .i64 ((i : Nat) : Int)]) Tryz.func60 rfl rfl ?_
  have e9 : ((i : Int) + 1).toNat = i + 1 := by omega
  have e8 : ((i : Int)).toNat = i := by omega
  refine da_region (by intro c a d v w h; cases d <;> exact h) ?_
  have hO := hO.drew
  refine da_phase _ [24] (SO.ks [.b s] hO) ?_
  refine dx_u 0 (by kernel_rfl) rfl rfl rfl (fun w => y_move rfl) ?_
  refine dx_u 1 (by kernel_rfl) rfl rfl rfl (fun w => y_move rfl) ?_
  refine dx_u 2 (by kernel_rfl) rfl rfl rfl (fun w => y_nilCheck rfl rfl) ?_
  refine dx_u 3 (by kernel_rfl) rfl rfl rfl (fun w => y_fldb (o' := 1) rfl) ?_
  refine dx_y 4 (by kernel_rfl) rfl rfl rfl (fun w ⟨m, hw⟩ => D5 hw rfl) ?_
  refine dx_u 5 (by kernel_rfl) rfl rfl rfl (fun w => y_move rfl) ?_
  refine dx_u 6 (by kernel_rfl) rfl rfl rfl (fun w => y_move rfl) ?_
  refine dx_u 7 (by kernel_rfl) rfl rfl rfl (fun w => y_nilCheck rfl rfl) ?_
  refine dx_u 8 (by kernel_rfl) rfl rfl rfl (fun w => y_fldb (o' := 1) rfl) ?_
  refine dx_y 9 (by kernel_rfl) rfl rfl rfl (fun w ⟨m, hw⟩ => D5 hw rfl) ?_
  refine dx_u 10 (by kernel_rfl) rfl rfl rfl (fun w => y_move rfl) ?_
  refine dx_y 11 (by kernel_rfl) rfl rfl rfl (fun w ⟨m, hw⟩ => y_tl i rfl rfl) ?_
  refine dx_u 12 (by kernel_rfl) rfl rfl rfl (fun w => y_move rfl) ?_
  refine dx_u 13 (by kernel_rfl) rfl rfl rfl (fun w => y_nilCheck rfl rfl) ?_
  refine dx_u 14 (by kernel_rfl) rfl rfl rfl (fun w => y_fldb (o' := 1) rfl) ?_
  refine dx_y 15 (by kernel_rfl) rfl rfl rfl (fun w ⟨m, hw⟩ => D5 hw rfl) ?_
  refine dx_u 16 (by kernel_rfl) rfl rfl rfl (fun w => y_move rfl) ?_
  refine dx_u 17 (by kernel_rfl) rfl rfl rfl (fun w => D4) ?_
  refine dx_y 18 (by kernel_rfl) rfl rfl rfl (fun w ⟨m, hw⟩ => y_tl (i + 1) rfl rfl) ?_
  refine dx_only 19 (by kernel_rfl) rfl rfl ?_
  refine s_cpTail (p := p) hO rfl rfl hi (fun w hO => ?_)
  refine o_done ?_
  refine ⟨SO.ks [.b s] hO, ?_⟩
  refine dx_u 20 (by kernel_rfl) rfl rfl rfl (fun w => D4) ?_
  refine dx_y 21 (by kernel_rfl) rfl rfl rfl (fun w ⟨m, hw⟩ => y_hd (L.length - 1) rfl rfl) ?_
  refine dx_u 22 (by kernel_rfl) rfl rfl rfl (fun w => y_nilCheck rfl rfl) ?_
  refine dx_u 23 (by kernel_rfl) rfl rfl rfl (fun w => y_fldb (o' := 1) rfl) ?_
  refine dx_close 24 (by kernel_rfl) rfl rfl ?_
  refine Y1 hO rfl rfl (fun w hO => ?_)
  simp only [List.set_cons_zero, List.set_cons_succ] at hO
  refine o_done ?_
  refine da_end (by kernel_rfl) ?_
  have hcl : (cutE L i).length = L.length - 1 := by simp [cutE]; omega
  have hO := sls_cut (hO.ks [.p p]) (L.length - 1) c (by simp; omega) (by omega) (Nat.le_refl _)
  rw [show (L.take i ++ L.drop (i + 1) ++ L.drop (L.length - 1)).take (L.length - 1) = cutE L i from List.take_left' hcl] at hO
  exact fin0 rfl ⟨_, ⟨rfl, rfl⟩, (actL_shut (hO.ks [.b s, .p p]) hcl.symm).one⟩
def freshF (A : List Node_one) (L : List Api_entry) (id : Int) : Int := if elB A id = false then 6 else if 0 ≤ findE L id then 1 else 0
theorem afresh_spec {id : Int} (hn : 0 < A.length) (ha : AttrsOk A) (hg : Gs p L.length) (hl : L.length ≤ 2000000) (hO : Own k w [arenaL a A, aB s a p L.length c, aI p c L]) :
    Tri Tryz.prog 57 #[.pointer (some ⟨s, 0, none⟩), .int .i64 id] k w fun v m => v = .int .i64 (freshF A L id) ∧ m = [arenaL a A, aB s a p L.length c, aI p c L] := by
  refine enter (args := [.pointer (some ⟨s, 0, none⟩), .int .i64 id]) Tryz.func57 rfl rfl ?_
  refine K0 (K1 ?_)
  refine l_y rfl rfl (y_assign rfl) ?_
  refine K2 (K3 (K0 (K0 (K1 ?_))))
  refine l_y rfl rfl (y_move rfl) ?_
  refine CK [.b s] hO rfl (fun k' hx hr hO' => anone_spec (hO := hO')) ?_
  rintro _ _ w ⟨rfl, rfl⟩ hO
  simp only [List.cons_append, List.nil_append] at hO
  refine K2 (K3 (L9 (K5 (K3 (K0 (K1 ?_))))))
  refine l_y rfl rfl (y_move rfl) ?_
  refine l_y rfl rfl (y_nilCheck rfl rfl) ?_
  refine l_y rfl rfl (y_fldb (o' := 0) rfl) ?_
  refine l_y rfl rfl (D5 hO rfl) ?_
  refine l_y rfl rfl (y_move rfl) ?_
  refine CK [.o a] hO rfl (fun k' hx hr hO' => NodeD_spec hn ha (hO := hO')) ?_
  rintro _ _ w ⟨n1, hn1, rfl, rfl⟩ hO
  simp only [List.cons_append, List.nil_append] at hO
  have hel := hn1.el
  refine l_y rfl rfl (y_move rfl) ?_
  refine l_y rfl rfl (y_extract rfl rfl) ?_
  refine l_y rfl rfl (y_extract rfl rfl) ?_
  refine s_alloc (vs := [.int .i64 0, .int .i64 0, .string ⟨#[]⟩, .slice none 0 0, .string ⟨#[]⟩, .string ⟨#[]⟩, .int .i64 0, .int .i64 0, .int .i64 0, .int .i64 0, .int .i64 0, .int .i64 0]) hO rfl rfl rfl fun b5 w hO => ?_
  refine Y3 hO rfl rfl (fun w hO => ?_)
  refine l_y rfl rfl (y_assign rfl) ?_
  refine K2 (K3 (K0 (K4 (K0 (K1 ?_)))))
  refine l_y rfl rfl (y_move rfl) ?_
  refine Z1 (fun h4_1 => ?_) (fun h4_1 => ?_)
  · refine l_y rfl rfl (y_move rfl) ?_
    repeat refine M2 ?_
    refine l_y rfl rfl (y_pick_t rfl rfl) ?_
    refine l_y rfl rfl (y_assign rfl) ?_
    refine K2 (K3 (L8 (K0 (K1 ?_))))
    refine l_y rfl rfl (y_assign rfl) ?_
    refine K2 (K3 (K6 (L0 (K9 ?_))))
    have e : elB A id = false := by rw [hel]; first | simp [h4_1, h4_5] | simp [h4_1]
    exact fin1 rfl rfl ⟨_, ⟨by rw [freshF, if_pos e], rfl⟩, hO.only [.o a, .b s, .p p]⟩
  · refine l_y rfl rfl (y_move rfl) ?_
    refine l_y rfl rfl (y_fldb (o' := 0) rfl) ?_
    refine l_y rfl rfl (D5 hO rfl) ?_
    refine Z1 (fun h4_5 => ?_) (fun h4_5 => ?_)
    · refine l_y rfl rfl (y_pick_f rfl rfl) ?_
      refine l_y rfl rfl (y_assign rfl) ?_
      refine K2 (K3 (L8 (K0 (K1 ?_))))
      refine l_y rfl rfl (y_assign rfl) ?_
      refine K2 (K3 (K6 (L0 (K9 ?_))))
      have e : elB A id = false := by rw [hel]; first | simp [h4_1, h4_5] | simp [h4_1]
      exact fin1 rfl rfl ⟨_, ⟨by rw [freshF, if_pos e], rfl⟩, hO.only [.o a, .b s, .p p]⟩
    · refine l_y rfl rfl (y_pick_f rfl rfl) ?_
      refine l_y rfl rfl (y_assign rfl) ?_
      refine K2 (K3 (L9 (K0 ?_)))
      have e : elB A id = true := by rw [hel]; simp [h4_1, h4_5]
      refine K1 ?_
      refine l_y rfl rfl (y_move rfl) ?_
      refine l_y rfl rfl (y_move rfl) ?_
      refine CK [.b s, .p p] hO rfl (fun k' hx hr hO' => aFindB_spec hg hl (hO := hO')) ?_
      rintro _ _ w ⟨rfl, rfl⟩ hO
      simp only [List.cons_append, List.nil_append] at hO
      refine Z0 (fun h6_3 => ?_) (fun h6_3 => ?_)
      · refine l_y rfl rfl (y_assign rfl) ?_
        refine K2 (K3 (L8 (K0 (K1 ?_))))
        refine l_y rfl rfl (y_assign rfl) ?_
        refine K2 (K3 (K6 (L0 (K9 ?_))))
        exact fin1 rfl rfl ⟨_, ⟨by rw [freshF, if_neg (by rw [e]; simp), if_pos h6_3], rfl⟩, hO.only [.o a, .b s, .p p]⟩
      · refine l_y rfl rfl (y_assign rfl) ?_
        refine K2 (K3 (L9 (K5 (K8 (K3 (K0 (K1 ?_)))))))
        refine l_y rfl rfl (y_assign rfl) ?_
        refine K2 (K3 (K6 ?_))
        exact fin1 rfl rfl ⟨_, ⟨by rw [freshF, if_neg (by rw [e]; simp), if_neg h6_3], rfl⟩, hO.only [.o a, .b s, .p p]⟩
/-- the places behind the last marker, the last one first -/
def bk (L : List Api_entry) : Nat → List Nat
  | 0 => []
  | n + 1 => if (at_ L n).Node = -1 then [] else n :: bk L n
theorem back_spec (hO : Own k w []) : Tri Tryz.prog 58 #[.pointer (some ⟨s, 0, none⟩)] k w fun v m => ∃ b, v = .func (.func 94) #[] #[.pointer (some ⟨b, 0, none⟩)] ∧ m = [blk b 24 [.pointer (some ⟨s, 0, none⟩)]] := by
  refine enter (args := [.pointer (some ⟨s, 0, none⟩)]) Tryz.func58 rfl rfl ?_
  refine K0 (K1 ?_)
  refine s_box (vs := [.pointer (some ⟨s, 0, none⟩)]) hO rfl rfl rfl (by rfl) fun b1 w hO => ?_
  refine l_y rfl rfl (y_assign rfl) ?_
  refine K2 (K3 (K0 (K1 ?_)))
  refine l_y rfl rfl (y_makeFunc rfl rfl) ?_
  refine l_y rfl rfl (y_assign rfl) ?_
  refine K2 (K3 (K6 ?_))
  exact fin1 rfl rfl ⟨_, ⟨_, rfl, rfl⟩, hO⟩
abbrev bF (s a : Nat) (p : Option Addr) (c : Nat) (L : List Api_entry) (b : Nat) : List HP := [aB s a p L.length c, aI p c L, blk b 24 [.pointer (some ⟨s, 0, none⟩)]]
theorem biter_spec {b X D : Nat} {M0 : List HP} {B : List Nat → List HP → Prop} {stop : Code → List HP → Prop} {fn : FuncId} {tmps : Array Value} {ps : Array Tmp} {assign body : Code}
    (hg : Gs p L.length) (hl : L.length ≤ 2000000) (hps : ps.size = 2) (hB : B [] M0) (hO : Own k w (obj X (loopO .ready none fn tmps ps assign body D) :: (bF s a p c L b ++ M0)))
    (hround : ∀ pre (x : Nat) suf M w, bk L L.length = pre ++ x :: suf → x < L.length → (at_ L x).Node ≠ -1 → B pre M → Own k w (obj X (loopO .ready none fn tmps ps assign body D) :: (bF s a p c L b ++ M)) →
      RoundIn Fence.wide 0 Tryz.prog X fn ((ps.zip #[.int .i64 (x : Int), .agg (Api_entry.cells (at_ L x)).toArray]).foldl (fun tmps (t, a) => tmps.setIfInBounds t a) tmps) assign body w (RP k X fn tmps ps assign body D (fun M' => ∃ M, B (pre ++ [x]) M ∧ M' = bF s a p c L b ++ M) stop)) :
    Ret Tryz.prog 94 #[.func (.yield X) #[] #[], .pointer (some ⟨b, 0, none⟩)] w fun _ w2 =>
      (∃ M, (∃ M', B (bk L L.length) M' ∧ M = bF s a p c L b ++ M') ∧ Own k w2 (obj X (loopO .ready none fn tmps ps assign body D) :: M)) ∨ (∃ c M, stop c M ∧ Own k w2 (obj X (loopO .done (some c) fn tmps ps assign body D) :: M)) := by
  refine enter (args := [.func (.yield X) #[] #[], .pointer (some ⟨b, 0, none⟩)]) Tryz.func94 rfl rfl ?_
  simp only [List.cons_append, List.nil_append] at hO
  refine K0 (K1 ?_)
  refine l_y rfl rfl (D5 hO rfl) ?_
  refine l_y rfl rfl (y_nilCheck rfl rfl) ?_
  refine l_y rfl rfl (y_fldb (o' := 1) rfl) ?_
  refine l_y rfl rfl (D5 hO rfl) ?_
  refine l_y rfl rfl (y_lenL rfl) ?_
  refine l_y rfl rfl (D4) ?_
  refine l_y rfl rfl (y_assign rfl) ?_
  refine K2 (K3 (K4 ?_))
  refine c_rounds (X := Nat × List Nat × List HP) (fun x => [(0, .func (.yield X) #[] #[]), (1, .pointer (some ⟨b, 0, none⟩)), (3, .int .i64 ((x.1 : Int) - 1))]) (fun x w => Own k w (obj X (loopO .ready none fn tmps ps assign body D) :: aB s a p L.length c :: aI p c L :: blk b 24 [.pointer (some ⟨s, 0, none⟩)] :: x.2.2) ∧ (bk L L.length = x.2.1 ++ bk L x.1) ∧ (x.1 ≤ L.length) ∧ (B x.2.1 x.2.2)) (fun x => x.1) ((L.length, [], M0)) ⟨rfl, rfl, rfl, trivial⟩ ⟨hO, rfl, Nat.le_refl _, hB⟩ ?_
  rintro x w m hm ⟨hO, hx, hle, hb⟩
  refine K0 (K0 (K1 ?_))
  refine l_y rfl rfl (y_move rfl) ?_
  refine Z0 (fun h1_1 => ?_) (fun h1_1 => ?_)
  · obtain ⟨y, hy⟩ : ∃ y, x.1 = y + 1 := ⟨x.1 - 1, by omega⟩
    have ey : (x.1 : Int) - 1 = (y : Int) := by omega
    rw [ey]
    refine l_y rfl rfl (y_move rfl) ?_
    refine l_y rfl rfl (D5 hO rfl) ?_
    refine l_y rfl rfl (y_nilCheck rfl rfl) ?_
    refine l_y rfl rfl (y_fldb (o' := 1) rfl) ?_
    refine l_y rfl rfl (D5 hO rfl) ?_
    refine l_y rfl rfl (y_move rfl) ?_
    refine l_y rfl rfl (y_idx rfl rfl) ?_
    refine l_y rfl rfl (y_fld (j' := 0) rfl) ?_
    refine l_y rfl rfl (y_e1 (x0 := 0) hO rfl) ?_
    refine Z1 (fun h1_11 => ?_) (fun h1_11 => ?_)
    · refine l_y rfl rfl (y_pick_t rfl rfl) ?_
      refine K2 (K3 (L8 (K5 (K3 (K0 (K4 (K0 ?_)))))))
      refine x_region ?_
      refine x_y rfl rfl (y_move rfl) ?_
      refine x_y rfl rfl (y_move rfl) ?_
      refine x_y rfl rfl (D5 hO rfl) ?_
      refine x_y rfl rfl (y_nilCheck rfl rfl) ?_
      refine x_y rfl rfl (y_fldb (o' := 1) rfl) ?_
      refine x_y rfl rfl (D5 hO rfl) ?_
      refine x_y rfl rfl (y_move rfl) ?_
      refine x_y rfl rfl (y_idx rfl rfl) ?_
      refine x_y rfl rfl (y_eA (x0 := 0) (cs := [.int .i64 (at_ L ((y : Int) : Int).toNat).Node, .int .i64 (at_ L ((y : Int) : Int).toNat).Token.Kind, .string (at_ L ((y : Int) : Int).toNat).Token.Name, .string (at_ L ((y : Int) : Int).toNat).Token.Data, .string (at_ L ((y : Int) : Int).toNat).Token.System, .int .i64 (at_ L ((y : Int) : Int).toNat).Token.Has, .bool (at_ L ((y : Int) : Int).toNat).Token.Quirks, .int .i32 (at_ L ((y : Int) : Int).toNat).Token.Char, .bool (at_ L ((y : Int) : Int).toNat).Token.Self, .slice (at_ L ((y : Int) : Int).toNat).Token.AttrsP (at_ L ((y : Int) : Int).toNat).Token.Attrs.length (at_ L ((y : Int) : Int).toNat).Token.AttrsC]) hO rfl) ?_
      have hs : bk L x.1 = y :: bk L y := by rw [hy, bk, if_neg (show ¬ (at_ L y).Node = -1 from h1_11)]
      refine x_yield hO rfl rfl (by simp [hps]) (hround x.2.1 y (bk L y) x.2.2 w (by rw [hx, hs]) (by omega) h1_11 hb hO) (fun w M2 hM hO => ?_) (fun w c2 M2 hM hO => ?_)
      · obtain ⟨M3, hb2, rfl⟩ := hM
        simp only [List.cons_append, List.nil_append] at hO
        refine x_y rfl rfl (y_not rfl rfl) ?_
        refine x_nil (K3 (L9 (K5 (K8 (K3 (K1 ?_))))))
        refine l_y rfl rfl (y_move rfl) ?_
        refine l_y rfl rfl (D4) ?_
        refine l_y rfl rfl (y_assign rfl) ?_
        refine K2 ?_
        have hO : Own k w (obj X (loopO .ready none fn tmps ps assign body D) :: aB s a p L.length c :: aI p c L :: blk b 24 [.pointer (some ⟨s, 0, none⟩)] :: M3) := hO
        exact q_next ((y, x.2.1 ++ [y], M3)) ⟨rfl, rfl, rfl, trivial⟩ ⟨hO, (by dsimp only; simp [hx, hs]), (by dsimp only; omega), hb2⟩ (by dsimp only; omega)
      · refine x_y rfl rfl (y_not rfl rfl) ?_
        refine x_nil (K3 (L8 (K6 (L0 (K9 (K9 (L0 ?_)))))))
        refine fin_ret ?_
        exact fin0 rfl (.inr ⟨_, _, hM, hO⟩)
    · refine l_y rfl rfl (y_pick_t rfl rfl) ?_
      refine K2 (K3 (L9 (K7 (L1 (L1 (L2 ?_))))))
      have he : bk L x.1 = [] := by
        first
          | rw [hy, bk, if_pos (show (at_ L y).Node = -1 from h1_11)]
          | rw [show x.1 = 0 by omega, bk]
      exact fin0 rfl (.inl ⟨_, ⟨x.2.2, by rw [hx, he, List.append_nil]; exact hb, rfl⟩, hO⟩)
  · refine l_y rfl rfl (y_move rfl) ?_
    repeat refine M2 ?_
    refine l_y rfl rfl (y_pick_f rfl rfl) ?_
    refine K2 (K3 (L9 (K7 (L1 (L1 (L2 ?_))))))
    have he : bk L x.1 = [] := by
      first
        | rw [hy, bk, if_pos (show (at_ L y).Node = -1 from h1_11)]
        | rw [show x.1 = 0 by omega, bk]
    exact fin0 rfl (.inl ⟨_, ⟨x.2.2, by rw [hx, he, List.append_nil]; exact hb, rfl⟩, hO⟩)
end
end Go.Proofs.YtoohapbaelmkcaaGreat
