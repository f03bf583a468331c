/- The walks of edit's inner functions: small letters, kinds, parents. -/
import Derived.Test.YtgglpocdelnfcaaRRRREdn4
import Derived.Test.YtgglpocdelnfcaaRRRROrder2
import Derived.Test.YtgglpocdelnfcaaRRRRCnt
set_option linter.unusedVariables false
set_option linter.unusedSimpArgs false
set_option maxRecDepth 100000
namespace Go.Proofs.YtgglpocdelnfcaaRRRR
open Go Go.Hb Go.RowKit
def lowC (c : UInt8) : UInt8 := if 65 ≤ c.toNat ∧ c.toNat ≤ 90 then UInt8.ofNat (c.toNat + 32) else c
def smallT (s : ByteArray) : ByteArray := ⟨((tl s).map lowC).toArray⟩
theorem low_big {c : UInt8} (h : 65 ≤ c.toNat ∧ c.toNat ≤ 90) : (lowC c).toNat = c.toNat + 32 := by rw [lowC, if_pos h]; simp; omega
theorem low_not {c : UInt8} (h : ¬ (65 ≤ c.toNat ∧ c.toNat ≤ 90)) : lowC c = c := by rw [lowC, if_neg h]
theorem or_32 : ∀ x : Fin 26, IntKind.u8.wrap ((BitVec.ofInt IntKind.u8.bits ((x.1 : Int) + 65) ||| BitVec.ofInt IntKind.u8.bits 32).toNat : Int) = (x.1 : Int) + 97 := by decide
theorem low_step {l : List UInt8} {i : Nat} {c : UInt8} (hc : l[i]? = some c) : ((l.take i).map lowC ++ l.drop i).set i (lowC c) = (l.take (i + 1)).map lowC ++ l.drop (i + 1) := by
  have hi := (List.getElem?_eq_some_iff.1 hc).1
  have h0 : ((l.take i).map lowC).length = i := by simp; omega
  rw [List.set_append, if_neg (by omega), h0, Nat.sub_self, List.drop_eq_getElem_cons hi, List.set_cons_zero, List.take_add_one, hc]
  simp
theorem low_at {l : List UInt8} {i : Nat} {c : UInt8} (hc : l[i]? = some c) : ((l.take i).map lowC ++ l.drop i)[i]? = some c := by
  have hi := (List.getElem?_eq_some_iff.1 hc).1
  have h0 : ((l.take i).map lowC).length = i := by simp; omega
  rw [List.getElem?_append_right (by omega), h0, Nat.sub_self, List.getElem?_drop]; simpa using hc
theorem set_same {l : List UInt8} {i : Nat} {c : UInt8} (h : l[i]? = some c) : l.set i c = l := by
  obtain ⟨h1, rfl⟩ := List.getElem?_eq_some_iff.1 h
  exact List.set_getElem_self h1
theorem low_len (l : List UInt8) (i : Nat) : ((l.take i).map lowC ++ l.drop i).length = l.length := by simp; omega
section
variable {k : Ctx} {w : World} {s : ByteArray}
set_option maxHeartbeats 1000000 in
theorem small_spec (hs : s.size ≤ 9223372036854775807) (hO : Own k w []) : Tri Try.prog 22 #[.string s] k w fun v m => v = .string (smallT s) ∧ m = [] := by
  refine enter (args := [.string s]) Try.func22 rfl rfl ?_
  have hsz := tl_len s
  refine K0 (K1 ?_)
  refine l_y rfl rfl (y_assign rfl) ?_
  refine K2 (K3 (K0 (K1 ?_)))
  refine l_y rfl rfl (y_move rfl) ?_
  refine s_strByt hO rfl (fun b z cp w hO => ?_)
  refine l_y rfl rfl (y_assign rfl) ?_
  refine K2 (K3 (K0 (K0 (K1 ?_))))
  refine l_y rfl rfl (y_move rfl) ?_
  refine l_y rfl rfl (y_lenL rfl) ?_
  refine l_y rfl rfl (y_move rfl) ?_
  refine K2 (K3 (K4 ?_))
  refine c_rounds (X := Nat) (fun i => [(2, .string ⟨#[]⟩), (3, .slice (some ⟨b, 0, none⟩) (tl s).length cp), (8, .slice (some ⟨b, 0, none⟩) (tl s).length cp), (9, .int .i64 (((tl s).length : Nat) : Int)), (10, .int .i64 (i : Int))]) (fun i w => Own k w [bytO b 5 z (((tl s).take i).map lowC ++ (tl s).drop i)] ∧ (i ≤ (tl s).length)) (fun i => (tl s).length - i) (0) ⟨rfl, rfl, rfl, rfl, rfl, trivial⟩ ⟨hO.only [.o b], Nat.zero_le _⟩ ?_
  rintro i w m hm ⟨hO, hi⟩
  refine K0 (K1 ?_)
  refine Z0 (fun h3_0 => ?_) (fun h3_0 => ?_)
  · refine K2 (K3 (K0 (L8 (K5 (K3 (K0 (K4 (K0 ?_))))))))
    obtain ⟨c, hc⟩ : ∃ c, (tl s)[i]? = some c := ⟨_, List.getElem?_eq_getElem (by omega)⟩
    have hls := low_step hc
    refine K1 ?_
    refine l_y rfl rfl (y_move rfl) ?_
    refine l_y rfl rfl (y_index rfl rfl (by omega) (by omega)) ?_
    refine l_y rfl rfl (y_load1 rfl (byt_holds hO (low_at hc))) ?_
    refine l_y rfl rfl (y_assign rfl) ?_
    refine l_y rfl rfl (y_assign rfl) ?_
    refine K2 (K3 (K0 (K1 ?_)))
    refine l_y rfl rfl (y_move rfl) ?_
    refine Z0 (fun h5_1 => ?_) (fun h5_1 => ?_)
    · refine l_y rfl rfl (y_move rfl) ?_
      refine l_y rfl rfl (y_move rfl) ?_
      refine Z0 (fun h5_4 => ?_) (fun h5_4 => ?_)
      · refine l_y rfl rfl (y_pick_t rfl rfl) ?_
        refine K2 (K3 (L8 (K1 ?_)))
        refine l_y rfl rfl (y_move rfl) ?_
        refine l_y rfl rfl (y_move rfl) ?_
        refine l_y rfl rfl (y_move rfl) ?_
        refine l_y rfl rfl (y_or (r := ((lowC c).toNat : Int)) rfl rfl (by rw [low_big (by omega)]; have h := or_32 ⟨c.toNat - 65, by omega⟩; simp only at h; rw [show ((c.toNat - 65 : Nat) : Int) + 65 = (c.toNat : Int) by omega] at h; rw [h]; omega)) ?_
        refine l_y rfl rfl (y_index rfl rfl (by omega) (by omega)) ?_
        refine s_stByt (c := lowC c) hO rfl rfl (by rw [low_len]; omega) (fun w hO => ?_)
        refine K2 (K8 (K3 (K1 ?_)))
        refine l_y rfl rfl (D4) ?_
        refine l_y rfl rfl (y_move rfl) ?_
        refine K2 ?_
        first
        | exact q_next (i + 1) ⟨rfl, rfl, rfl, rfl, rfl, trivial⟩ ⟨(by rw [hls] at hO; exact hO.only [.o b]), by omega⟩ (by omega)
        | exact q_next (i + 1) ⟨rfl, rfl, rfl, rfl, rfl, trivial⟩ ⟨(by rw [← low_step hc, low_not (by omega), set_same (low_at hc)]; exact hO.only [.o b]), by omega⟩ (by omega)
      · refine l_y rfl rfl (y_pick_t rfl rfl) ?_
        refine K2 (K3 (L9 (K5 (K8 (K3 (K1 ?_))))))
        refine l_y rfl rfl (D4) ?_
        refine l_y rfl rfl (y_move rfl) ?_
        refine K2 ?_
        first
        | exact q_next (i + 1) ⟨rfl, rfl, rfl, rfl, rfl, trivial⟩ ⟨(by rw [hls] at hO; exact hO.only [.o b]), by omega⟩ (by omega)
        | exact q_next (i + 1) ⟨rfl, rfl, rfl, rfl, rfl, trivial⟩ ⟨(by rw [← low_step hc, low_not (by omega), set_same (low_at hc)]; exact hO.only [.o b]), by omega⟩ (by omega)
    · refine l_y rfl rfl (y_move rfl) ?_
      repeat refine M2 ?_
      refine l_y rfl rfl (y_pick_f rfl rfl) ?_
      refine K2 (K3 (L9 (K5 (K8 (K3 (K1 ?_))))))
      refine l_y rfl rfl (D4) ?_
      refine l_y rfl rfl (y_move rfl) ?_
      refine K2 ?_
      first
      | exact q_next (i + 1) ⟨rfl, rfl, rfl, rfl, rfl, trivial⟩ ⟨(by rw [hls] at hO; exact hO.only [.o b]), by omega⟩ (by omega)
      | exact q_next (i + 1) ⟨rfl, rfl, rfl, rfl, rfl, trivial⟩ ⟨(by rw [← low_step hc, low_not (by omega), set_same (low_at hc)]; exact hO.only [.o b]), by omega⟩ (by omega)
  · refine K2 (K3 (K0 (L9 (K7 (L1 (L1 (L2 (K3 (K0 ?_)))))))))
    have he : ((tl s).take i).map lowC ++ (tl s).drop i = (tl s).map lowC := by rw [List.take_of_length_le (by omega), List.drop_eq_nil_of_le (by omega), List.append_nil]
    rw [he] at hO
    have hlm : (tl s).length = ((tl s).map lowC).length := by simp
    refine K1 ?_
    refine l_y rfl rfl (y_move rfl) ?_
    refine l_y rfl rfl (y_bytStr (c := cp) hO (by rw [← hlm]; rfl)) ?_
    refine l_y rfl rfl (y_assign rfl) ?_
    refine K2 (K3 (K6 ?_))
    exact fin1 rfl rfl ⟨_, ⟨rfl, rfl⟩, hO.none⟩
theorem u8_add {c : UInt8} (h : 65 ≤ c.toNat ∧ c.toNat ≤ 90) : IntKind.u8.wrap ((c.toNat : Int) + 32) = ((lowC c).toNat : Int) := by
  rw [low_big h]
  simp [IntKind.wrap, IntKind.bits, IntKind.signed]; omega
set_option maxHeartbeats 1000000 in
theorem SmallR_spec (hs : s.size ≤ 9223372036854775807) (hO : Own k w []) : Tri Try.prog 13 #[.string s] k w fun v m => v = .string (smallT s) ∧ m = [] := by
  refine enter (args := [.string s]) Try.func13 rfl rfl ?_
  have hsz := tl_len s
  refine K0 (K1 ?_)
  refine l_y rfl rfl (y_assign rfl) ?_
  refine K2 (K3 (K0 (K1 ?_)))
  refine l_y rfl rfl (y_move rfl) ?_
  refine s_strByt hO rfl (fun b z cp w hO => ?_)
  refine l_y rfl rfl (y_assign rfl) ?_
  refine K2 (K3 (K0 (K0 (K1 ?_))))
  refine l_y rfl rfl (y_assign rfl) ?_
  refine K2 (K3 (K4 ?_))
  refine c_rounds (X := Nat) (fun i => [(2, .string ⟨#[]⟩), (3, .slice (some ⟨b, 0, none⟩) (tl s).length cp), (4, .int .i64 (i : Int))]) (fun i w => Own k w [bytO b 5 z (((tl s).take i).map lowC ++ (tl s).drop i)] ∧ (i ≤ (tl s).length)) (fun i => (tl s).length - i) (0) ⟨rfl, rfl, rfl, trivial⟩ ⟨hO.only [.o b], Nat.zero_le _⟩ ?_
  rintro i w m hm ⟨hO, hi⟩
  refine K0 (K0 (K1 ?_))
  refine l_y rfl rfl (y_move rfl) ?_
  refine l_y rfl rfl (y_move rfl) ?_
  refine l_y rfl rfl (y_lenL rfl) ?_
  refine Z0 (fun h3_3 => ?_) (fun h3_3 => ?_)
  · refine K2 (K3 (L8 (K5 (K3 (K0 (K4 (K0 ?_)))))))
    obtain ⟨c, hc⟩ : ∃ c, (tl s)[i]? = some c := ⟨_, List.getElem?_eq_getElem (by omega)⟩
    have hls := low_step hc
    refine K1 ?_
    refine l_y rfl rfl (y_move rfl) ?_
    refine l_y rfl rfl (y_move rfl) ?_
    refine l_y rfl rfl (y_index rfl rfl (by omega) (by omega)) ?_
    refine l_y rfl rfl (y_load1 rfl (byt_holds hO (low_at hc))) ?_
    refine Z0 (fun h5_4 => ?_) (fun h5_4 => ?_)
    · refine l_y rfl rfl (y_move rfl) ?_
      refine l_y rfl rfl (y_move rfl) ?_
      refine l_y rfl rfl (y_move rfl) ?_
      refine l_y rfl rfl (y_index rfl rfl (by omega) (by omega)) ?_
      refine l_y rfl rfl (y_load1 rfl (byt_holds hO (low_at hc))) ?_
      refine Z0 (fun h5_10 => ?_) (fun h5_10 => ?_)
      · refine l_y rfl rfl (y_pick_t rfl rfl) ?_
        refine K2 (K3 (L8 (K1 ?_)))
        refine l_y rfl rfl (y_move rfl) ?_
        refine l_y rfl rfl (y_move rfl) ?_
        refine l_y rfl rfl (y_move rfl) ?_
        refine l_y rfl rfl (y_move rfl) ?_
        refine l_y rfl rfl (y_index rfl rfl (by omega) (by omega)) ?_
        refine l_y rfl rfl (y_load1 rfl (byt_holds hO (low_at hc))) ?_
        refine l_y rfl rfl (y_arith rfl rfl rfl (u8_add (by omega))) ?_
        refine l_y rfl rfl (y_index rfl rfl (by omega) (by omega)) ?_
        refine s_stByt (c := lowC c) hO rfl rfl (by rw [low_len]; omega) (fun w hO => ?_)
        refine K2 (K8 (K3 (K1 ?_)))
        refine l_y rfl rfl (y_move rfl) ?_
        refine l_y rfl rfl (D4) ?_
        refine l_y rfl rfl (y_assign rfl) ?_
        refine K2 ?_
        first
        | exact q_next (i + 1) ⟨rfl, rfl, rfl, trivial⟩ ⟨(by rw [hls] at hO; exact hO.only [.o b]), by omega⟩ (by omega)
        | exact q_next (i + 1) ⟨rfl, rfl, rfl, trivial⟩ ⟨(by rw [← low_step hc, low_not (by omega), set_same (low_at hc)]; exact hO.only [.o b]), by omega⟩ (by omega)
      · refine l_y rfl rfl (y_pick_t rfl rfl) ?_
        refine K2 (K3 (L9 (K5 (K8 (K3 (K1 ?_))))))
        refine l_y rfl rfl (y_move rfl) ?_
        refine l_y rfl rfl (D4) ?_
        refine l_y rfl rfl (y_assign rfl) ?_
        refine K2 ?_
        first
        | exact q_next (i + 1) ⟨rfl, rfl, rfl, trivial⟩ ⟨(by rw [hls] at hO; exact hO.only [.o b]), by omega⟩ (by omega)
        | exact q_next (i + 1) ⟨rfl, rfl, rfl, trivial⟩ ⟨(by rw [← low_step hc, low_not (by omega), set_same (low_at hc)]; exact hO.only [.o b]), by omega⟩ (by omega)
    · refine l_y rfl rfl (y_move rfl) ?_
      repeat refine M2 ?_
      refine l_y rfl rfl (y_pick_f rfl rfl) ?_
      refine K2 (K3 (L9 (K5 (K8 (K3 (K1 ?_))))))
      refine l_y rfl rfl (y_move rfl) ?_
      refine l_y rfl rfl (D4) ?_
      refine l_y rfl rfl (y_assign rfl) ?_
      refine K2 ?_
      first
      | exact q_next (i + 1) ⟨rfl, rfl, rfl, trivial⟩ ⟨(by rw [hls] at hO; exact hO.only [.o b]), by omega⟩ (by omega)
      | exact q_next (i + 1) ⟨rfl, rfl, rfl, trivial⟩ ⟨(by rw [← low_step hc, low_not (by omega), set_same (low_at hc)]; exact hO.only [.o b]), by omega⟩ (by omega)
  · refine K2 (K3 (L9 (K7 (L1 (L1 (L2 (K3 (K0 ?_))))))))
    have he : ((tl s).take i).map lowC ++ (tl s).drop i = (tl s).map lowC := by rw [List.take_of_length_le (by omega), List.drop_eq_nil_of_le (by omega), List.append_nil]
    rw [he] at hO
    have hlm : (tl s).length = ((tl s).map lowC).length := by simp
    refine K1 ?_
    refine l_y rfl rfl (y_move rfl) ?_
    refine l_y rfl rfl (y_bytStr (c := cp) hO (by rw [← hlm]; rfl)) ?_
    refine l_y rfl rfl (y_assign rfl) ?_
    refine K2 (K3 (K6 ?_))
    exact fin1 rfl rfl ⟨_, ⟨rfl, rfl⟩, hO.none⟩
/-! kinds -/
def NI (A : List Node_one) (id : Int) (n : Api_node) : Prop := ∃ q d, n = ownN (nodeA A id) q d
theorem NI.kind {A : List Node_one} {id : Int} {n : Api_node} (h : NI A id n) : n.Kind = (nodeA A id).Kind := by obtain ⟨q, d, rfl⟩ := h; rfl
theorem NI.name {A : List Node_one} {id : Int} {n : Api_node} (h : NI A id n) : n.Name = (nodeA A id).Name := by obtain ⟨q, d, rfl⟩ := h; rfl
theorem NI.data {A : List Node_one} {id : Int} {n : Api_node} (h : NI A id n) : n.Data = (nodeA A id).Data := by obtain ⟨q, d, rfl⟩ := h; rfl
theorem NodeI_spec {a : Nat} {A : List Node_one} {id : Int} (hi : InA A id) (ha : AttrsOk A) (hO : Own k w [arenaL a A]) :
    Tri Try.prog 12 #[.pointer (some ⟨a, 0, none⟩), .int .i64 id] k w fun v m => ∃ n, NI A id n ∧ v = .tuple #[.agg (Api_node.cells n).toArray, .int .i64 0] ∧ m = [arenaL a A, sls n.AttrsP n.AttrsC 61 4 Api_attr.cells n.Attrs] := by
  have h0 : 0 < A.length := by have := hi.1; have := hi.2; omega
  refine (Node_spec h0 ha hO).mono ?_
  rintro v m (⟨h, _⟩ | ⟨_, q, d, rfl, rfl⟩)
  · rw [hi.b] at h; cases h
  · exact ⟨_, ⟨q, d, rfl⟩, rfl, rfl⟩
theorem kind_spec {a : Nat} {A : List Node_one} {id : Int} (hi : InA A id) (ha : AttrsOk A) (hO : Own k w [arenaL a A]) :
    Tri Try.prog 16 #[.pointer (some ⟨a, 0, none⟩), .int .i64 id] k w fun v m => v = .int .i64 (nodeA A id).Kind ∧ m = [arenaL a A] := by
  refine enter (args := [.pointer (some ⟨a, 0, none⟩), .int .i64 id]) Try.func16 rfl rfl ?_
  refine K0 (K1 ?_)
  refine l_y rfl rfl (y_assign rfl) ?_
  refine K2 (K3 (K0 (K1 ?_)))
  refine l_y rfl rfl (y_move rfl) ?_
  refine l_y rfl rfl (y_move rfl) ?_
  refine CK [.o a] hO rfl (fun k' hx hr hO' => NodeI_spec hi ha (hO := hO')) ?_
  rintro _ _ w ⟨n, hN, rfl, rfl⟩ hO
  simp only [List.cons_append, List.nil_append] at hO
  refine l_y rfl rfl (y_move rfl) ?_
  refine l_y rfl rfl (y_extract rfl rfl) ?_
  refine l_y rfl rfl (y_extract rfl rfl) ?_
  refine s_alloc (vs := [.int .i64 0, .int .i64 0, .string ⟨#[]⟩, .slice none 0 0, .string ⟨#[]⟩, .string ⟨#[]⟩, .int .i64 0, .int .i64 0, .int .i64 0, .int .i64 0, .int .i64 0, .int .i64 0]) hO rfl rfl rfl fun b5 w hO => ?_
  refine Y3 hO rfl rfl (fun w hO => ?_)
  refine l_y rfl rfl (y_assign rfl) ?_
  refine K2 (K3 (K0 (K0 (K1 ?_))))
  refine l_y rfl rfl (y_move rfl) ?_
  refine N4 (hp := (by omega)) ?_
  refine K2 (K3 (L9 (K5 (K3 (K0 (K1 ?_))))))
  refine l_y rfl rfl (y_fldb (o' := 0) rfl) ?_
  refine l_y rfl rfl (D5 hO rfl) ?_
  refine l_y rfl rfl (y_assign rfl) ?_
  refine K2 (K3 (K6 ?_))
  exact fin1 rfl rfl ⟨_, ⟨by rw [← hN.kind], rfl⟩, hO.only [.o a]⟩
def parB (kd : Int) : Bool := decide (kd = 0) || (decide (kd = 1) || decide (kd = 5))
theorem eparent_spec {kd : Int} (hO : Own k w []) : Tri Try.prog 19 #[.int .i64 kd] k w fun v m => v = .bool (parB kd) ∧ m = [] := by
  refine enter (args := [.int .i64 kd]) Try.func19 rfl rfl ?_
  refine K0 (K1 ?_)
  refine l_y rfl rfl (y_assign rfl) ?_
  refine K2 (K3 (K0 (K1 ?_)))
  refine l_y rfl rfl (y_move rfl) ?_
  refine Z0 (fun h1_1 => ?_) (fun h1_1 => ?_)
  · refine l_y rfl rfl (y_move rfl) ?_
    repeat refine M2 ?_
    refine l_y rfl rfl (y_pick_t rfl rfl) ?_
    refine l_y rfl rfl (y_move rfl) ?_
    repeat refine M2 ?_
    refine l_y rfl rfl (y_pick_t rfl rfl) ?_
    refine l_y rfl rfl (y_assign rfl) ?_
    refine K2 (K3 (K6 ?_))
    exact fin1 rfl rfl ⟨_, ⟨by simp [parB, *], rfl⟩, hO.none⟩
  · refine l_y rfl rfl (y_move rfl) ?_
    refine l_y rfl rfl (y_move rfl) ?_
    refine Z0 (fun h1_4 => ?_) (fun h1_4 => ?_)
    · refine l_y rfl rfl (y_pick_f rfl rfl) ?_
      refine l_y rfl rfl (y_move rfl) ?_
      repeat refine M2 ?_
      refine l_y rfl rfl (y_pick_t rfl rfl) ?_
      refine l_y rfl rfl (y_assign rfl) ?_
      refine K2 (K3 (K6 ?_))
      exact fin1 rfl rfl ⟨_, ⟨by simp [parB, *], rfl⟩, hO.none⟩
    · refine l_y rfl rfl (y_pick_f rfl rfl) ?_
      refine l_y rfl rfl (y_move rfl) ?_
      refine l_y rfl rfl (y_move rfl) ?_
      refine Z0 (fun h1_8 => ?_) (fun h1_8 => ?_)
      · refine l_y rfl rfl (y_pick_f rfl rfl) ?_
        refine l_y rfl rfl (y_assign rfl) ?_
        refine K2 (K3 (K6 ?_))
        exact fin1 rfl rfl ⟨_, ⟨by simp [parB, *], rfl⟩, hO.none⟩
      · refine l_y rfl rfl (y_pick_f rfl rfl) ?_
        refine l_y rfl rfl (y_assign rfl) ?_
        refine K2 (K3 (K6 ?_))
        exact fin1 rfl rfl ⟨_, ⟨by simp [parB, *], rfl⟩, hO.none⟩
end
end Go.Proofs.YtgglpocdelnfcaaRRRR
