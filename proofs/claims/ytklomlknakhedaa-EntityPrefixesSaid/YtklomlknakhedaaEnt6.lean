/- Whether a name begins with a text: both walks, and EntityBegins'. -/
import Derived.Test.YtklomlknakhedaaEnt5
set_option linter.unusedVariables false
set_option linter.unusedSimpArgs false
set_option maxRecDepth 100000
namespace Go.Proofs.Ytklomlknakhedaa
open Go Go.Hb Go.RowKit
theorem any_hit {α : Type} [Inhabited α] {xs : List α} {p : α → Bool} {i : Nat} (hi : i < xs.length) (h : p (at_ xs i) = true) : xs.any p = true := List.any_eq_true.2 ⟨_, at_mem hi, h⟩
theorem any_next {α : Type} [Inhabited α] {xs : List α} {p : α → Bool} {i : Nat} (h0 : (xs.take i).any p = false) (hi : i < xs.length) (h : p (at_ xs i) = false) : (xs.take (i + 1)).any p = false := by
  rw [take_succ_at hi, List.any_append, h0]
  simp [h]
theorem any_none {α : Type} {xs : List α} {p : α → Bool} {i : Nat} (h0 : (xs.take i).any p = false) (hi : xs.length ≤ i) : xs.any p = false := by rwa [List.take_of_length_le hi] at h0
def begE (s : ByteArray) (x : Entity_name) : Bool := preB (x.text ++ semi) s
def begQ (s : ByteArray) (x : Pr) : Bool := preB (x.text ++ semi) s
def begO (s : ByteArray) (x : Ref08_row) : Bool := preB (x.Name ++ semi) s
def begP (s : ByteArray) : Bool := oldL.any (begE s) || youngL.any (begE s) || pairL.any (begQ s)
theorem old_smallE : ∀ x ∈ oldL, x.text.size ≤ 16 := by decide
theorem young_smallE : ∀ x ∈ youngL, x.text.size ≤ 16 := by decide
theorem pair_smallE : ∀ x ∈ pairL, x.text.size ≤ 16 := by decide
theorem rows_small : ∀ x ∈ oldL.map rowOf ++ youngL.map rowOf, x.Name.size ≤ 16 := by decide
theorem pair_any (s : ByteArray) : pairL.any (begQ s) = (preB ⟨#[110, 118, 108, 116, 59]⟩ s || (preB ⟨#[98, 110, 101, 59]⟩ s || (preB ⟨#[102, 106, 108, 105, 103, 59]⟩ s || preB ⟨#[97, 99, 69, 59]⟩ s))) := by
  have a1 : (⟨#[110, 118, 108, 116]⟩ : ByteArray) ++ semi = ⟨#[110, 118, 108, 116, 59]⟩ := by decide
  have a2 : (⟨#[98, 110, 101]⟩ : ByteArray) ++ semi = ⟨#[98, 110, 101, 59]⟩ := by decide
  have a3 : (⟨#[102, 106, 108, 105, 103]⟩ : ByteArray) ++ semi = ⟨#[102, 106, 108, 105, 103, 59]⟩ := by decide
  have a4 : (⟨#[97, 99, 69]⟩ : ByteArray) ++ semi = ⟨#[97, 99, 69, 59]⟩ := by decide
  simp only [pairL, List.any_cons, List.any_nil, begQ, a1, a2, a3, a4, Bool.or_false]
theorem beg_eq (s : ByteArray) : begP s = ((oldL.map rowOf ++ youngL.map rowOf).any (begO s) || (preB ⟨#[110, 118, 108, 116, 59]⟩ s || (preB ⟨#[98, 110, 101, 59]⟩ s || (preB ⟨#[102, 106, 108, 105, 103, 59]⟩ s || preB ⟨#[97, 99, 69, 59]⟩ s)))) := by
  rw [begP, pair_any, List.any_append, List.any_map, List.any_map]
  rfl
section
variable {k : Ctx} {w : World} {s : ByteArray}
set_option maxHeartbeats 1000000 in
theorem Begins_spec (hO : Own k w []) : Tri Try.prog 15 #[.string s] k w fun v m => v = .bool (begP s) ∧ m = [] := by
  refine enter (args := [.string s]) Try.func15 rfl rfl ?_
  have hlO : oldL.length = 106 := by kernel_rfl
  have hlY : youngL.length = 141 := by kernel_rfl
  have hlP : pairL.length = 4 := by kernel_rfl
  have z1 := semi_sz
  refine K0 (K1 ?_)
  refine l_y rfl rfl (y_assign rfl) ?_
  refine K2 (K3 (K0 (K0 (K1 ?_))))
  refine CK [] hO rfl (fun k' hx hr hO' => old_spec (hO := hO')) ?_
  rintro _ _ w ⟨rfl, rfl⟩ hO
  refine l_y rfl rfl (y_move rfl) ?_
  refine K2 (K3 (K4 ?_))
  refine c_rounds (X := Nat) (fun i => [(0, .string s), (2, .bool false), (9, .agg (oldL.map Entity_name.cells).flatten.toArray), (10, .int .i64 (i : Int))]) (fun i w => Own k w [] ∧ (i ≤ 106) ∧ ((oldL.take i).any (begE s) = false)) (fun i => 106 - i) (0) ⟨rfl, rfl, rfl, rfl, trivial⟩ ⟨hO.only [], Nat.zero_le _, rfl⟩ ?_
  rintro i w m hm ⟨hO, hi, hf⟩
  refine K0 (K1 ?_)
  refine Z0 (fun h2_0 => ?_) (fun h2_0 => ?_)
  · refine K2 (K3 (K0 (L8 (K5 (K3 (K0 (K4 (K0 (K1 ?_)))))))))
    refine l_y rfl rfl (y_idxN Entity_name.cells oldL [.string (at_ oldL i).text, .int .i32 (at_ oldL i).r] rfl rfl rfl hlO.symm (by omega)) ?_
    refine s_alloc (vs := [.string ⟨#[]⟩, .int .i32 0]) hO rfl rfl rfl fun b4 w hO => ?_
    refine Y3 hO rfl rfl (fun w hO => ?_)
    refine K2 (K3 (K0 ?_))
    have hT := old_smallE _ (at_mem (xs := oldL) (i := i) (by omega))
    refine K1 ?_
    refine l_y rfl rfl (y_fldb (o' := 0) rfl) ?_
    refine l_y rfl rfl (D5 hO rfl) ?_
    refine l_y rfl rfl (y_catS rfl rfl (by omega)) ?_
    refine l_y rfl rfl (y_move rfl) ?_
    refine CK [] hO rfl (fun k' hx hr hO' => HasPrefix_spec (hO := hO')) ?_
    rintro _ _ w ⟨rfl, rfl⟩ hO
    simp only [List.cons_append, List.nil_append] at hO
    refine K2 (K3 ?_)
    refine c_split rfl (fun hc17 => ?_) (fun hc17 => ?_)
    · refine K0 (K1 ?_)
      refine l_y rfl rfl (y_assign rfl) ?_
      refine K2 (K3 (K6 (L0 (K9 (K9 (L0 (K9 ?_)))))))
      exact fin1 rfl rfl ⟨_, ⟨by rw [begP, any_hit (by omega) hc17]; rfl, rfl⟩, hO.none⟩
    · refine K5 (K8 (K3 (K1 ?_)))
      refine l_y rfl rfl (D4) ?_
      refine l_y rfl rfl (y_move rfl) ?_
      refine K2 ?_
      exact q_next (i + 1) ⟨rfl, rfl, rfl, rfl, trivial⟩ ⟨hO.only [], by omega, any_next hf (by omega) hc17⟩ (by omega)
  · refine K2 (K3 (K0 (L9 (K7 (L1 (L1 (L2 (K3 (K0 (K0 (K1 ?_)))))))))))
    refine CK [] hO rfl (fun k' hx hr hO' => young_spec (hO := hO')) ?_
    rintro _ _ w ⟨rfl, rfl⟩ hO
    have e0 := any_none hf (by omega)
    refine l_y rfl rfl (y_move rfl) ?_
    refine K2 (K3 (K4 ?_))
    refine c_rounds (X := Nat) (fun i => [(0, .string s), (2, .bool false), (19, .agg (youngL.map Entity_name.cells).flatten.toArray), (20, .int .i64 (i : Int))]) (fun i w => Own k w [] ∧ (i ≤ 141) ∧ ((youngL.take i).any (begE s) = false)) (fun i => 141 - i) (0) ⟨rfl, rfl, rfl, rfl, trivial⟩ ⟨hO.only [], Nat.zero_le _, rfl⟩ ?_
    rintro i w m hm ⟨hO, hi, hf⟩
    refine K0 (K1 ?_)
    refine Z0 (fun h8_0 => ?_) (fun h8_0 => ?_)
    · refine K2 (K3 (K0 (L8 (K5 (K3 (K0 (K4 (K0 (K1 ?_)))))))))
      refine l_y rfl rfl (y_idxN Entity_name.cells youngL [.string (at_ youngL i).text, .int .i32 (at_ youngL i).r] rfl rfl rfl hlY.symm (by omega)) ?_
      refine s_alloc (vs := [.string ⟨#[]⟩, .int .i32 0]) hO rfl rfl rfl fun b6 w hO => ?_
      refine Y3 hO rfl rfl (fun w hO => ?_)
      refine K2 (K3 (K0 ?_))
      have hT := young_smallE _ (at_mem (xs := youngL) (i := i) (by omega))
      refine K1 ?_
      refine l_y rfl rfl (y_fldb (o' := 0) rfl) ?_
      refine l_y rfl rfl (D5 hO rfl) ?_
      refine l_y rfl rfl (y_catS rfl rfl (by omega)) ?_
      refine l_y rfl rfl (y_move rfl) ?_
      refine CK [] hO rfl (fun k' hx hr hO' => HasPrefix_spec (hO := hO')) ?_
      rintro _ _ w ⟨rfl, rfl⟩ hO
      simp only [List.cons_append, List.nil_append] at hO
      refine K2 (K3 ?_)
      refine c_split rfl (fun hc27 => ?_) (fun hc27 => ?_)
      · refine K0 (K1 ?_)
        refine l_y rfl rfl (y_assign rfl) ?_
        refine K2 (K3 (K6 (L0 (K9 (K9 (L0 (K9 ?_)))))))
        exact fin1 rfl rfl ⟨_, ⟨by rw [begP, e0, any_hit (xs := youngL) (by omega) hc27]; rfl, rfl⟩, hO.none⟩
      · refine K5 (K8 (K3 (K1 ?_)))
        refine l_y rfl rfl (D4) ?_
        refine l_y rfl rfl (y_move rfl) ?_
        refine K2 ?_
        exact q_next (i + 1) ⟨rfl, rfl, rfl, rfl, trivial⟩ ⟨hO.only [], by omega, any_next hf (by omega) hc27⟩ (by omega)
    · refine K2 (K3 (K0 (L9 (K7 (L1 (L1 (L2 (K3 (K0 (K0 (K1 ?_)))))))))))
      refine CK [] hO rfl (fun k' hx hr hO' => pairs_spec (hO := hO')) ?_
      rintro _ _ w ⟨rfl, rfl⟩ hO
      have e1 := any_none hf (by omega)
      refine l_y rfl rfl (y_move rfl) ?_
      refine K2 (K3 (K4 ?_))
      refine c_rounds (X := Nat) (fun i => [(0, .string s), (2, .bool false), (29, .agg (pairL.map Pr.cells).flatten.toArray), (30, .int .i64 (i : Int))]) (fun i w => Own k w [] ∧ (i ≤ 4) ∧ ((pairL.take i).any (begQ s) = false)) (fun i => 4 - i) (0) ⟨rfl, rfl, rfl, rfl, trivial⟩ ⟨hO.only [], Nat.zero_le _, rfl⟩ ?_
      rintro i w m hm ⟨hO, hi, hf⟩
      refine K0 (K1 ?_)
      refine Z0 (fun h14_0 => ?_) (fun h14_0 => ?_)
      · refine K2 (K3 (K0 (L8 (K5 (K3 (K0 (K4 (K0 (K1 ?_)))))))))
        refine l_y rfl rfl (y_idxN Pr.cells pairL [.string (at_ pairL i).text, .int .i32 (at_ pairL i).x, .int .i32 (at_ pairL i).y] rfl rfl rfl hlP.symm (by omega)) ?_
        refine s_alloc (vs := [.string ⟨#[]⟩, .int .i32 0, .int .i32 0]) hO rfl rfl rfl fun b8 w hO => ?_
        refine Y3 hO rfl rfl (fun w hO => ?_)
        refine K2 (K3 (K0 ?_))
        have hT := pair_smallE _ (at_mem (xs := pairL) (i := i) (by omega))
        refine K1 ?_
        refine l_y rfl rfl (y_fldb (o' := 0) rfl) ?_
        refine l_y rfl rfl (D5 hO rfl) ?_
        refine l_y rfl rfl (y_catS rfl rfl (by omega)) ?_
        refine l_y rfl rfl (y_move rfl) ?_
        refine CK [] hO rfl (fun k' hx hr hO' => HasPrefix_spec (hO := hO')) ?_
        rintro _ _ w ⟨rfl, rfl⟩ hO
        simp only [List.cons_append, List.nil_append] at hO
        refine K2 (K3 ?_)
        refine c_split rfl (fun hc37 => ?_) (fun hc37 => ?_)
        · refine K0 (K1 ?_)
          refine l_y rfl rfl (y_assign rfl) ?_
          refine K2 (K3 (K6 (L0 (K9 (K9 (L0 (K9 ?_)))))))
          exact fin1 rfl rfl ⟨_, ⟨by rw [begP, e0, e1, any_hit (xs := pairL) (by omega) hc37]; rfl, rfl⟩, hO.none⟩
        · refine K5 (K8 (K3 (K1 ?_)))
          refine l_y rfl rfl (D4) ?_
          refine l_y rfl rfl (y_move rfl) ?_
          refine K2 ?_
          exact q_next (i + 1) ⟨rfl, rfl, rfl, rfl, trivial⟩ ⟨hO.only [], by omega, any_next hf (by omega) hc37⟩ (by omega)
      · refine K2 (K3 (K0 (L9 (K7 (L1 (L1 (L2 (K3 (K0 (K1 ?_))))))))))
        refine l_y rfl rfl (y_assign rfl) ?_
        refine K2 (K3 (K6 ?_))
        exact fin1 rfl rfl ⟨_, ⟨by rw [begP, e0, e1, any_none hf (by omega)]; rfl, rfl⟩, hO.none⟩
set_option maxHeartbeats 1000000 in
theorem BeginsR_spec (hO : Own k w []) : Tri Try.prog 16 #[.string s] k w fun v m => v = .bool (begP s) ∧ m = [] := by
  refine enter (args := [.string s]) Try.func16 rfl rfl ?_
  have z1 := semi_sz
  have zO2 : oldL.length = 106 := by kernel_rfl
  have zY2 : youngL.length = 141 := by kernel_rfl
  have zO : (oldL.map rowOf).length = 106 := by kernel_rfl
  have zY : (youngL.map rowOf).length = 141 := by kernel_rfl
  have zA : (oldL.map rowOf ++ youngL.map rowOf).length = 247 := by kernel_rfl
  refine K0 (K1 ?_)
  refine l_y rfl rfl (y_assign rfl) ?_
  refine K2 (K3 (K0 (K1 ?_)))
  refine CK [] hO rfl (fun k' hx hr hO' => Old_spec (hO := hO')) ?_
  rintro _ _ w ⟨q5, c5, rfl, rfl⟩ hO
  refine CK [] hO rfl (fun k' hx hr hO' => New_spec (hO := hO')) ?_
  rintro _ _ w ⟨q6, c6, rfl, rfl⟩ hO
  refine s_app hO rfl rfl (src_own hO) (fun p7 c7 w hO gs7 => ?_)
  refine l_y rfl rfl (y_assign rfl) ?_
  refine K2 (K3 (K0 (K0 ?_)))
  have hg := (sls_fct (p := p7) hO).2
  refine K1 ?_
  refine l_y rfl rfl (y_assign rfl) ?_
  refine K2 (K3 (K4 ?_))
  refine c_rounds (X := Nat) (fun i => [(0, .string s), (2, .bool false), (3, .slice p7 ((oldL.map rowOf) ++ (youngL.map rowOf)).length c7), (4, .int .i64 (i : Int))]) (fun i w => Own k w [sls p7 c7 49 2 Ref08_row.cells (oldL.map rowOf ++ youngL.map rowOf)] ∧ (i ≤ (oldL.map rowOf ++ youngL.map rowOf).length) ∧ (((oldL.map rowOf ++ youngL.map rowOf).take i).any (begO s) = false)) (fun i => (oldL.map rowOf ++ youngL.map rowOf).length - i) (0) ⟨rfl, rfl, rfl, rfl, trivial⟩ ⟨hO.only [.p p7], Nat.zero_le _, rfl⟩ ?_
  rintro i w m hm ⟨hO, hi, hf⟩
  refine K0 (K0 (K1 ?_))
  refine l_y rfl rfl (y_move rfl) ?_
  refine l_y rfl rfl (y_move rfl) ?_
  refine l_y rfl rfl (y_lenL rfl) ?_
  refine Z0 (fun h3_3 => ?_) (fun h3_3 => ?_)
  · refine K2 (K3 (L8 (K5 (K3 (K0 (K4 (K0 ?_)))))))
    have hT : (at_ (oldL.map rowOf ++ youngL.map rowOf) ((i : Nat) : Int).toNat).Name.size ≤ 16 := rows_small _ (at_mem (xs := oldL.map rowOf ++ youngL.map rowOf) (i := i) (by omega))
    refine K1 ?_
    refine l_y rfl rfl (y_move rfl) ?_
    refine l_y rfl rfl (y_move rfl) ?_
    refine l_y rfl rfl (y_idx rfl rfl) ?_
    refine l_y rfl rfl (y_fld (j' := 0) rfl) ?_
    refine l_y rfl rfl (y_e1 (x0 := 0) hO rfl) ?_
    refine l_y rfl rfl (y_catS rfl rfl (by omega)) ?_
    refine l_y rfl rfl (y_move rfl) ?_
    refine CK [] hO rfl (fun k' hx hr hO' => starts_spec (hO := hO')) ?_
    rintro _ _ w ⟨rfl, rfl⟩ hO
    simp only [List.cons_append, List.nil_append] at hO
    refine K2 (K3 ?_)
    refine c_split rfl (fun hc21 => ?_) (fun hc21 => ?_)
    · refine K0 (K1 ?_)
      refine l_y rfl rfl (y_assign rfl) ?_
      refine K2 (K3 (K6 (L0 (K9 (K9 (L0 (K9 ?_)))))))
      exact fin1 rfl rfl ⟨_, ⟨by rw [beg_eq, any_hit (by omega) hc21]; rfl, rfl⟩, hO.none⟩
    · refine K5 (K8 (K3 (K1 ?_)))
      refine l_y rfl rfl (y_move rfl) ?_
      refine l_y rfl rfl (D4) ?_
      refine l_y rfl rfl (y_assign rfl) ?_
      refine K2 ?_
      exact q_next (i + 1) ⟨rfl, rfl, rfl, rfl, trivial⟩ ⟨hO.only [.p p7], by omega, any_next hf (by omega) hc21⟩ (by omega)
  · refine K2 (K3 (L9 (K7 (L1 (L1 (L2 (K3 (K0 ?_))))))))
    have e0 := any_none hf (by omega)
    refine K1 ?_
    refine l_y rfl rfl (y_move rfl) ?_
    refine CK [] hO rfl (fun k' hx hr hO' => starts_spec (hO := hO')) ?_
    rintro _ _ w ⟨rfl, rfl⟩ hO
    simp only [List.cons_append, List.nil_append] at hO
    refine l_y rfl rfl (y_move rfl) ?_
    refine l_split 24 rfl (fun hg24 => ?_) (fun hg24 => ?_)
    · repeat refine M2 ?_
      refine l_y rfl rfl (y_pick_t rfl rfl) ?_
      refine l_y rfl rfl (y_move rfl) ?_
      repeat refine M2 ?_
      refine l_y rfl rfl (y_pick_t rfl rfl) ?_
      refine l_y rfl rfl (y_move rfl) ?_
      repeat refine M2 ?_
      refine l_y rfl rfl (y_pick_t rfl rfl) ?_
      refine l_y rfl rfl (y_assign rfl) ?_
      refine K2 (K3 (K6 ?_))
      exact fin1 rfl rfl ⟨_, ⟨by rw [beg_eq, e0]; simp [*], rfl⟩, hO.none⟩
    · refine l_y rfl rfl (y_move rfl) ?_
      refine CK [] hO rfl (fun k' hx hr hO' => starts_spec (hO := hO')) ?_
      rintro _ _ w ⟨rfl, rfl⟩ hO
      simp only [List.cons_append, List.nil_append] at hO
      refine l_y rfl rfl (y_pick_f rfl rfl) ?_
      refine l_y rfl rfl (y_move rfl) ?_
      refine l_split 28 rfl (fun hg28 => ?_) (fun hg28 => ?_)
      · repeat refine M2 ?_
        refine l_y rfl rfl (y_pick_t rfl rfl) ?_
        refine l_y rfl rfl (y_move rfl) ?_
        repeat refine M2 ?_
        refine l_y rfl rfl (y_pick_t rfl rfl) ?_
        refine l_y rfl rfl (y_assign rfl) ?_
        refine K2 (K3 (K6 ?_))
        exact fin1 rfl rfl ⟨_, ⟨by rw [beg_eq, e0]; simp [*], rfl⟩, hO.none⟩
      · refine l_y rfl rfl (y_move rfl) ?_
        refine CK [] hO rfl (fun k' hx hr hO' => starts_spec (hO := hO')) ?_
        rintro _ _ w ⟨rfl, rfl⟩ hO
        simp only [List.cons_append, List.nil_append] at hO
        refine l_y rfl rfl (y_pick_f rfl rfl) ?_
        refine l_y rfl rfl (y_move rfl) ?_
        refine l_split 32 rfl (fun hg32 => ?_) (fun hg32 => ?_)
        · repeat refine M2 ?_
          refine l_y rfl rfl (y_pick_t rfl rfl) ?_
          refine l_y rfl rfl (y_assign rfl) ?_
          refine K2 (K3 (K6 ?_))
          exact fin1 rfl rfl ⟨_, ⟨by rw [beg_eq, e0]; simp [*], rfl⟩, hO.none⟩
        · refine l_y rfl rfl (y_move rfl) ?_
          refine CK [] hO rfl (fun k' hx hr hO' => starts_spec (hO := hO')) ?_
          rintro _ _ w ⟨rfl, rfl⟩ hO
          simp only [List.cons_append, List.nil_append] at hO
          refine l_y rfl rfl (y_pick_f rfl rfl) ?_
          refine l_y rfl rfl (y_assign rfl) ?_
          refine K2 (K3 (K6 ?_))
          exact fin1 rfl rfl ⟨_, ⟨by rw [beg_eq, e0]; simp [*], rfl⟩, hO.none⟩
theorem EntityBegins_spec (hs : s.size ≤ 9223372036854775807) (hO : Own k w []) : Tri Try.prog 5 #[.string s] k w fun v m => v = .bool true ∧ m = [] := by
  refine enter (args := [.string s]) Try.func5 rfl rfl ?_
  refine K0 (K1 ?_)
  refine l_y rfl rfl (y_assign rfl) ?_
  refine K2 (K3 (K0 (K1 ?_)))
  refine l_y rfl rfl (y_move rfl) ?_
  refine CK [] hO rfl (fun k' hx hr hO' => Begins_spec (s := s) (hO := hO')) ?_
  rintro _ _ w ⟨rfl, rfl⟩ hO
  simp only [List.cons_append, List.nil_append] at hO
  refine l_y rfl rfl (y_move rfl) ?_
  refine CK [] hO rfl (fun k' hx hr hO' => BeginsR_spec (s := s) (hO := hO')) ?_
  rintro _ _ w ⟨rfl, rfl⟩ hO
  simp only [List.cons_append, List.nil_append] at hO
  refine l_y rfl rfl (y_eqB (c := true) rfl rfl (by simp)) ?_
  refine l_y rfl rfl (y_move rfl) ?_
  refine CK [] hO rfl (fun k' hx hr hO' => awake_spec (hO := hO')) ?_
  rintro _ _ w ⟨rfl, rfl⟩ hO
  simp only [List.cons_append, List.nil_append] at hO
  refine l_y rfl rfl (y_pick_t rfl rfl) ?_
  refine l_y rfl rfl (y_assign rfl) ?_
  refine K2 (K3 (K6 ?_))
  exact fin1 rfl rfl ⟨_, ⟨rfl, rfl⟩, hO.none⟩
end
end Go.Proofs.Ytklomlknakhedaa
