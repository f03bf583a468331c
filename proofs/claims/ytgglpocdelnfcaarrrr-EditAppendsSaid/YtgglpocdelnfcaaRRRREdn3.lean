/- The walks of makeASCIISet, IndexAny, both Names; EditNames'. -/
import Derived.Test.YtgglpocdelnfcaaRRRREdn2
set_option linter.unusedVariables false
set_option linter.unusedSimpArgs false
set_option maxRecDepth 100000
namespace Go.Proofs.YtgglpocdelnfcaaRRRR
open Go Go.Hb Go.RowKit Go.Lib
def setB (l : List UInt8) : List Bool := (List.range 256).map fun x => l.any fun c => c.toNat == x
theorem setB_len (l : List UInt8) : (setB l).length = 256 := by simp [setB]
theorem setB_at (l : List UInt8) (c : UInt8) : ((setB l).map Value.bool)[c.toNat]? = some (.bool (l.contains c)) := by
  have hc : c.toNat < 256 := c.toNat_lt
  rw [setB, List.getElem?_map, List.getElem?_map, List.getElem?_range hc]
  simp only [Option.map_some]
  congr 2
  rw [Bool.eq_iff_iff, List.any_eq_true, List.contains_iff_mem]
  constructor
  · rintro ⟨x, hx, e⟩; rw [← UInt8.toNat_inj.1 (eq_of_beq e)]; exact hx
  · intro h; exact ⟨c, h, by simp⟩
theorem setB_next (l : List UInt8) (c : UInt8) : ((setB l).map Value.bool).set c.toNat (.bool true) = (setB (l ++ [c])).map Value.bool := by
  rw [← List.map_set]
  congr 1
  apply List.ext_getElem?
  intro i
  rw [List.getElem?_set]
  simp only [setB, List.length_map, List.length_range, List.getElem?_map]
  by_cases hi : i < 256
  · rw [List.getElem?_range hi]
    by_cases h : c.toNat = i
    · rw [if_pos h]; simp [h, hi]
    · rw [if_neg h]; simp [h]
  · have : (List.range 256)[i]? = none := List.getElem?_eq_none (by simp; omega)
    rw [this]
    have hc : c.toNat < 256 := c.toNat_lt
    rw [if_neg (by omega)]; rfl
theorem badL_snoc {l : List UInt8} {i : Nat} {c : UInt8} (h0 : badL (l.take i) = false) (hc : l[i]? = some c) (h : nameC.contains c = false) : badL (l.take (i + 1)) = false := by
  rw [List.take_add_one, badL_app, h0, hc]
  simp only [Option.toList_some, Bool.false_or, badL, List.any_cons, List.any_nil, h, Bool.or_false]
theorem badL_hit {l : List UInt8} {i : Nat} {c : UInt8} (hc : l[i]? = some c) (h : nameC.contains c = true) : badL l = true := List.any_eq_true.2 ⟨c, List.mem_of_getElem? hc, h⟩
theorem dec_ok {s : ByteArray} {p : Nat} (hp : p < s.size) : (Utf8.decode s p).1 ≤ 1114111 ∧ ((Utf8.decode s p).1 < 55296 ∨ 57343 < (Utf8.decode s p).1) ∧ 1 ≤ (Utf8.decode s p).2 ∧ p + (Utf8.decode s p).2 ≤ s.size ∧
    badL (((tl s).drop p).take (Utf8.decode s p).2) = (decide ((Utf8.decode s p).1 < 128) && nameC.contains (UInt8.ofNat (Utf8.decode s p).1)) := by
  have hsz := tl_len s
  have hdd : Utf8.decode s p = decodeL ((tl s).drop p) := (decodeL_drop s p).symm
  rw [hdd]
  have hne : (tl s).drop p ≠ [] := by intro h; have := congrArg List.length h; rw [List.length_drop, hsz] at this; simp at this; omega
  cases dstep _ hne with
  | low c t h hc hd =>
    rw [hd]
    have hc2 : UInt8.ofNat c.toNat = c := by simp
    refine ⟨by simp only; omega, by simp only; omega, Nat.le_refl _, by simp only; omega, ?_⟩
    rw [h]
    simp only [List.take_succ_cons, List.take_zero, badL, List.any_cons, List.any_nil, Bool.or_false, hc2, decide_eq_true hc, Bool.true_and]
  | high h1 h2 h3 h4 h =>
    rw [List.length_drop, hsz] at h3
    exact ⟨h2.1, h2.2, h4, by omega, by rw [badL_high h, decide_eq_false (by omega)]; rfl⟩
theorem badL_step {s : ByteArray} {p : Nat} (hp : p < s.size) (h0 : badL ((tl s).take p) = false) (h : (decide ((Utf8.decode s p).1 < 128) && nameC.contains (UInt8.ofNat (Utf8.decode s p).1)) = false) : badL ((tl s).take (p + (Utf8.decode s p).2)) = false := by
  rw [List.take_add, badL_app, h0, (dec_ok hp).2.2.2.2, h]; rfl
theorem badL_found {s : ByteArray} {p : Nat} (hp : p < s.size) (h : (decide ((Utf8.decode s p).1 < 128) && nameC.contains (UInt8.ofNat (Utf8.decode s p).1)) = true) : badL (tl s) = true := by
  rw [← (dec_ok hp).2.2.2.2] at h
  rw [← List.take_append_drop p (tl s), badL_app, ← List.take_append_drop (Utf8.decode s p).2 ((tl s).drop p), badL_app, h]
  simp
section
variable {k : Ctx} {w : World} {s : ByteArray}
abbrev setT (b : Nat) (l : List UInt8) : HP := blk b 69 ((setB l).map Value.bool)
set_option maxHeartbeats 1000000 in
theorem makeSet_spec (hO : Own k w []) : Tri Try.prog 38 #[.string nameS] k w fun v m => v = .tuple #[.agg ((setB nameC).map Value.bool).toArray, .bool true] ∧ m = [] := by
  refine enter (args := [.string nameS]) Try.func38 rfl rfl ?_
  have hz := nameS_sz
  have hzC : nameC.length = 12 := rfl
  have hl : ((setB nameC).map Value.bool).length = 256 := by rw [List.length_map, setB_len]
  have hone : ((setB nameC).map Value.bool).all (·.oneCell') = true := by rw [List.all_map, List.all_eq_true]; intro b _; rfl
  refine K0 (K1 ?_)
  refine s_alloc (vs := (setB []).map Value.bool) hO rfl rfl (by kernel_rfl) (fun b2 w hO => ?_)
  refine l_y rfl rfl (y_assign rfl) ?_
  refine K2 (K3 (K0 (K0 (K1 ?_))))
  refine l_y rfl rfl (y_assign rfl) ?_
  refine K2 (K3 (K4 ?_))
  refine c_rounds (X := Nat) (fun i => [(0, .string nameS), (2, .pointer (some ⟨b2, 0, none⟩)), (3, .bool false), (4, .int .i64 (i : Int))]) (fun i w => Own k w [setT b2 (nameC.take i)] ∧ (i ≤ 12)) (fun i => 12 - i) (0) ⟨rfl, rfl, rfl, rfl, trivial⟩ ⟨hO.only [.b b2], Nat.zero_le _⟩ ?_
  rintro i w m hm ⟨hO, hi⟩
  refine K0 (K0 (K1 ?_))
  refine l_y rfl rfl (y_move rfl) ?_
  refine l_y rfl rfl (y_move rfl) ?_
  refine l_y rfl rfl (y_lenS rfl) ?_
  refine Z0 (fun h2_3 => ?_) (fun h2_3 => ?_)
  · refine K2 (K3 (L8 (K5 (K3 (K0 (K4 (K0 ?_)))))))
    have hc : (tl nameS)[i]? = some (at_ nameC i) := at_get (xs := nameC) (by omega)
    have hlow : (at_ nameC i).toNat < 128 := (show ∀ x ∈ nameC, x.toNat < 128 by decide) _ (at_mem (by omega))
    refine K1 ?_
    refine l_y rfl rfl (y_move rfl) ?_
    refine l_y rfl rfl (y_move rfl) ?_
    refine l_y rfl rfl (y_indexS (c := at_ nameC i) rfl rfl (by omega) hc) ?_
    refine l_y rfl rfl (y_assign rfl) ?_
    refine K2 (K3 (K0 (K0 (K1 ?_))))
    refine l_y rfl rfl (y_move rfl) ?_
    refine N3 (hp := (by omega)) ?_
    refine K2 (K3 (L9 (K5 (K3 (K1 ?_)))))
    refine l_y rfl rfl (y_move rfl) ?_
    refine l_y rfl rfl (y_indexA rfl rfl (by omega) (by omega)) ?_
    refine s_store1 hO rfl rfl rfl rfl rfl (.hd _ _ _) (.ofBlk1 (by rw [List.length_map, setB_len]; exact Nat.ble_eq.mpr (by simp; omega))) (fun w hO => ?_)
    have hO : Own k w [setT b2 (nameC.take (i + 1))] := by
      rw [show 0 + ((((at_ nameC i).toNat : Nat) : Int).toNat * 1 + 0) = (at_ nameC i).toNat by simp, setB_next, ← take_succ_at (by omega)] at hO
      exact hO
    refine K2 (K8 (K3 (K1 ?_)))
    refine l_y rfl rfl (y_move rfl) ?_
    refine l_y rfl rfl (D4) ?_
    refine l_y rfl rfl (y_assign rfl) ?_
    refine K2 ?_
    exact q_next (i + 1) ⟨rfl, rfl, rfl, rfl, trivial⟩ ⟨hO.only [.b b2], by omega⟩ (by omega)
  · refine K2 (K3 (L9 (K7 (L1 (L1 (L2 (K3 (K0 ?_))))))))
    have e12 : nameC.take i = nameC := List.take_of_length_le (by omega)
    rw [e12] at hO
    refine K1 ?_
    refine l_y rfl rfl (y_loadA (cs := (setB nameC).map Value.bool) rfl hl (hO.holds (.hd _ _ _) (.ofBlkA 256 (by rw [List.drop_zero]; exact List.take_of_length_le (by omega))))) ?_
    refine s_storeA (vs := (setB nameC).map Value.bool) hO rfl rfl rfl rfl hl hone (.hd _ _ _) (.ofBlkAll rfl) (fun w hO => ?_)
    refine l_y rfl rfl (y_assign rfl) ?_
    refine K2 (K3 (K6 ?_))
    exact finC1 hO rfl rfl rfl ⟨_, ⟨rfl, rfl⟩, hO.none⟩
end
end Go.Proofs.YtgglpocdelnfcaaRRRR
