/- The walk of undone, which takes an escaped text back, and the law WriteSafe, of texts of up to 100000000 bytes. -/
import Derived.Test.YtjhifjkkeeeaoaaWrite3
set_option linter.unusedVariables false
namespace Go.Proofs.Ytjhifjkkeeeaoaa
open Go Go.Hb Go.RowKit
def froms : List (List Value) := refs.map fun f => [.string ⟨f.1.toArray⟩]
def tos : List (List Value) := refs.map fun f => [.string ⟨f.2.toArray⟩]
/-- what the inner loop has found: nothing yet among the first k, or the first that fits -/
def Found (L out : List UInt8) (k n : Nat) (out' : List UInt8) : Prop :=
  (n = 0 ∧ out = out' ∧ ∀ (j : Nat) (f : List UInt8 × List UInt8), j < k → refs[j]? = some f → f.1.isPrefixOf L = false) ∨
  (∃ (j : Nat) (f : List UInt8 × List UInt8), refs[j]? = some f ∧ f.1.isPrefixOf L = true ∧ n = f.1.length ∧ out' = out ++ f.2)
theorem froms_at {j : Nat} {f : List UInt8 × List UInt8} (h : refs[j]? = some f) : froms[j]? = some [.string ⟨f.1.toArray⟩] := by simp [froms, h]
theorem tos_at {j : Nat} {f : List UInt8 × List UInt8} (h : refs[j]? = some f) : tos[j]? = some [.string ⟨f.2.toArray⟩] := by simp [tos, h]
theorem pre_cut (x : ByteArray) (a : List UInt8) (i : Nat) (hi : i + a.length ≤ x.size) : (x.extract i (i + a.length) = ⟨a.toArray⟩) ↔ a.isPrefixOf (x.data.toList.drop i) = true := by
  rw [List.isPrefixOf_iff_prefix, List.prefix_iff_eq_take]
  have h := extract_list x i (i + a.length)
  rw [Nat.add_sub_cancel_left] at h
  constructor
  · intro e
    rw [← h, e]
  · intro e
    rw [← h] at e
    cases hx : x.extract i (i + a.length) with
    | mk d => rw [hx] at e; rw [e]
theorem pre_long (x : ByteArray) (a : List UInt8) (i : Nat) (hi0 : i ≤ x.size) (hi : x.size < i + a.length) : a.isPrefixOf (x.data.toList.drop i) = false := by
  have hsz : x.data.toList.length = x.size := Array.length_toList
  cases h : a.isPrefixOf (x.data.toList.drop i) with
  | false => rfl
  | true =>
    have := (List.isPrefixOf_iff_prefix.1 h).length_le
    rw [List.length_drop, hsz] at this
    omega
set_option maxHeartbeats 4000000 in
theorem undone_spec (k : Ctx) (w : World) (x : ByteArray) (attr : Bool) (l0 : List UInt8) (hx : x.data.toList = esc attr l0) (hs : x.size ≤ 1000000000) (hl0 : l0.length ≤ 1000000000) (hO : Own k w []) :
    Tri Try.prog 16 #[.string x] k w fun r m => r = .string ⟨l0.toArray⟩ := by
  refine enter (args := [.string x]) Try.func16 rfl rfl ?_
  have hsz : x.data.toList.length = x.size := Array.length_toList
  repeat (first | (with_reducible first | refine K0 ?_ | refine K1 ?_ | refine K2 ?_ | refine K3 ?_ | refine K4 ?_ | refine K5 ?_ | refine K6 ?_ | refine K7 ?_ | refine K8 ?_ | refine K9 ?_ | refine L0 ?_ | refine L1 ?_ | refine L2 ?_ | refine L3 ?_ | refine L4 ?_ | refine L5 ?_ | refine L6 ?_) | refine Y0 hO rfl ?_ | refine Y1 hO rfl rfl (fun w hO => ?_) | refine L7 ?_ | refine L8 ?_ | refine L9 ?_ | refine M0 ?_ | refine M1 ?_ | refine M2 ?_ | refine M3 ?_ | refine M4 ?_ | refine M5 ?_ | refine M6 ?_ | refine M7 ?_ | refine M8 ?_ | refine M9 ?_ | refine N0 ?_ | refine N1 ?_ | refine N2 ?_ | refine N3 ?_ | refine N4 ?_ | refine N5 ?_ | refine N6 ?_ | refine N7 ?_ | refine N8 ?_ | refine N9 ?_ | refine R0 ?_ | refine R1 ?_ | refine R2 ?_ | refine R3 ?_ | refine R4 ?_ | refine R5 ?_ | refine R6 ?_ | refine R7 ?_ | refine R8 ?_ | refine R9 ?_ | refine S0 ?_)
  refine s_slices (refs.map fun f => .string ⟨f.1.toArray⟩) hO rfl rfl rfl rfl (by simp [refs, Value.cells]) (by decide) (by simp [refs]) (by simp [refs]) fun fb w hO => ?_
  repeat (first | (with_reducible first | refine K0 ?_ | refine K1 ?_ | refine K2 ?_ | refine K3 ?_ | refine K4 ?_ | refine K5 ?_ | refine K6 ?_ | refine K7 ?_ | refine K8 ?_ | refine K9 ?_ | refine L0 ?_ | refine L1 ?_ | refine L2 ?_ | refine L3 ?_ | refine L4 ?_ | refine L5 ?_ | refine L6 ?_) | refine Y0 hO rfl ?_ | refine Y1 hO rfl rfl (fun w hO => ?_) | refine L7 ?_ | refine L8 ?_ | refine L9 ?_ | refine M0 ?_ | refine M1 ?_ | refine M2 ?_ | refine M3 ?_ | refine M4 ?_ | refine M5 ?_ | refine M6 ?_ | refine M7 ?_ | refine M8 ?_ | refine M9 ?_ | refine N0 ?_ | refine N1 ?_ | refine N2 ?_ | refine N3 ?_ | refine N4 ?_ | refine N5 ?_ | refine N6 ?_ | refine N7 ?_ | refine N8 ?_ | refine N9 ?_ | refine R0 ?_ | refine R1 ?_ | refine R2 ?_ | refine R3 ?_ | refine R4 ?_ | refine R5 ?_ | refine R6 ?_ | refine R7 ?_ | refine R8 ?_ | refine R9 ?_ | refine S0 ?_)
  refine s_slices (refs.map fun f => .string ⟨f.2.toArray⟩) hO rfl rfl rfl rfl (by simp [refs, Value.cells]) (by decide) (by simp [refs]) (by simp [refs]) fun tb w hO => ?_
  repeat (first | (with_reducible first | refine K0 ?_ | refine K1 ?_ | refine K2 ?_ | refine K3 ?_ | refine K4 ?_ | refine K5 ?_ | refine K6 ?_ | refine K7 ?_ | refine K8 ?_ | refine K9 ?_ | refine L0 ?_ | refine L1 ?_ | refine L2 ?_ | refine L3 ?_ | refine L4 ?_ | refine L5 ?_ | refine L6 ?_) | refine Y0 hO rfl ?_ | refine Y1 hO rfl rfl (fun w hO => ?_) | refine L7 ?_ | refine L8 ?_ | refine L9 ?_ | refine M0 ?_ | refine M1 ?_ | refine M2 ?_ | refine M3 ?_ | refine M4 ?_ | refine M5 ?_ | refine M6 ?_ | refine M7 ?_ | refine M8 ?_ | refine M9 ?_ | refine N0 ?_ | refine N1 ?_ | refine N2 ?_ | refine N3 ?_ | refine N4 ?_ | refine N5 ?_ | refine N6 ?_ | refine N7 ?_ | refine N8 ?_ | refine N9 ?_ | refine R0 ?_ | refine R1 ?_ | refine R2 ?_ | refine R3 ?_ | refine R4 ?_ | refine R5 ?_ | refine R6 ?_ | refine R7 ?_ | refine R8 ?_ | refine R9 ?_ | refine S0 ?_)
  have hO : Own k w [sl (.slice none 0 0) 5 1 (by1 []), arr fb 0 5 9 1 froms, arr tb 0 5 9 1 tos] := (sl_nil 5 1 hO).pulls (As := [_, _, _]) (.cons (.hd _ _) (.cons (.tl _ (.hd _ _)) (.cons (.hd _ _) (.nil _))))
  refine c_rounds (X := Nat × List UInt8 × List UInt8 × Value) (fun y => [(0, .string x), (3, .slice (some ⟨fb, 0, none⟩) 5 5), (4, .slice (some ⟨tb, 0, none⟩) 5 5), (5, y.2.2.2), (6, .int .i64 (y.1 : Nat))])
    (fun y w => Own k w [sl y.2.2.2 5 1 (by1 y.2.2.1), arr fb 0 5 9 1 froms, arr tb 0 5 9 1 tos] ∧ y.1 ≤ x.size ∧ x.data.toList.drop y.1 = esc attr y.2.1 ∧ y.2.2.1 ++ y.2.1 = l0) (fun y => x.size - y.1) (0, l0, [], .slice none 0 0) ⟨rfl, rfl, rfl, rfl, rfl, trivial⟩ ⟨hO, by simp, by simpa using hx, by simp⟩ ?_
  rintro ⟨i, l, out, v⟩ w m1 hm1 ⟨hO, hi, hL, hl⟩
  simp only at hO hi hL hl hm1
  dsimp only
  have hol : out.length + l.length = l0.length := by rw [← hl, List.length_append]
  by_cases hlt : i < x.size
  · repeat (first | (with_reducible first | refine K0 ?_ | refine K1 ?_ | refine K2 ?_ | refine K3 ?_ | refine K4 ?_ | refine K5 ?_ | refine K6 ?_ | refine K7 ?_ | refine K8 ?_ | refine K9 ?_ | refine L0 ?_ | refine L1 ?_ | refine L2 ?_ | refine L3 ?_ | refine L4 ?_ | refine L5 ?_ | refine L6 ?_) | refine Y0 hO rfl ?_ | refine Y1 hO rfl rfl (fun w hO => ?_) | refine L7 ?_ | refine L8 ?_ | refine L9 ?_ | refine M0 ?_ | refine M1 ?_ | refine M2 ?_ | refine M3 ?_ | refine M4 ?_ | refine M5 ?_ | refine M6 ?_ | refine M7 ?_ | refine M8 ?_ | refine M9 ?_ | refine N0 ?_ | refine N1 ?_ | refine N2 ?_ | refine N3 ?_ | refine N4 ?_ | refine N5 ?_ | refine N6 ?_ | refine N7 ?_ | refine N8 ?_ | refine N9 ?_ | refine R0 ?_ | refine R1 ?_ | refine R2 ?_ | refine R3 ?_ | refine R4 ?_ | refine R5 ?_ | refine R6 ?_ | refine R7 ?_ | refine R8 ?_ | refine R9 ?_ | refine S0 ?_)
    refine c_rounds (X := Nat × Nat × List UInt8 × Value) (fun y => [(0, .string x), (3, .slice (some ⟨fb, 0, none⟩) 5 5), (4, .slice (some ⟨tb, 0, none⟩) 5 5), (5, y.2.2.2), (6, .int .i64 (i : Nat)), (7, .int .i64 (y.2.1 : Nat)), (8, .int .i64 (y.1 : Nat))])
      (fun y w => Own k w [sl y.2.2.2 5 1 (by1 y.2.2.1), arr fb 0 5 9 1 froms, arr tb 0 5 9 1 tos] ∧ y.1 ≤ 5 ∧ Found (esc attr l) out y.1 y.2.1 y.2.2.1) (fun y => 5 - y.1) (0, 0, out, v) ⟨rfl, rfl, rfl, rfl, rfl, rfl, rfl, trivial⟩ ⟨hO, by simp, .inl ⟨rfl, rfl, fun j f h => by simp at h⟩⟩ ?_
    rintro ⟨q, nn, out', v'⟩ w m2 hm2 ⟨hO, hq, hF⟩
    simp only at hO hq hF hm2
    dsimp only
    have hLl : (esc attr l).length = x.size - i := by rw [← hL, List.length_drop, hsz]
    rcases hF with ⟨rfl, rfl, hno⟩ | ⟨j, f, hj, hpre, rfl, rfl⟩
    · by_cases hq5 : q < 5
      · obtain ⟨f, hf⟩ : ∃ f, refs[q]? = some f := ⟨refs[q], List.getElem?_eq_getElem hq5⟩
        have hfl := refs_len q f hf
        have hfs : (ByteArray.mk f.1.toArray).size = f.1.length := List.size_toArray
        repeat (first | (with_reducible first | refine K0 ?_ | refine K1 ?_ | refine K2 ?_ | refine K3 ?_ | refine K4 ?_ | refine K5 ?_ | refine K6 ?_ | refine K7 ?_ | refine K8 ?_ | refine K9 ?_ | refine L0 ?_ | refine L1 ?_ | refine L2 ?_ | refine L3 ?_ | refine L4 ?_ | refine L5 ?_ | refine L6 ?_) | refine Y0 hO rfl ?_ | refine Y1 hO rfl rfl (fun w hO => ?_) | refine L7 ?_ | refine L8 ?_ | refine L9 ?_ | refine M0 ?_ | refine M1 ?_ | refine M2 ?_ | refine M3 ?_ | refine M4 ?_ | refine M5 ?_ | refine M6 ?_ | refine M7 ?_ | refine M8 ?_ | refine M9 ?_ | refine N0 ?_ | refine N1 ?_ | refine N2 ?_ | refine N3 ?_ | refine N4 ?_ | refine N5 ?_ | refine N6 ?_ | refine N7 ?_ | refine N8 ?_ | refine N9 ?_ | refine R0 ?_ | refine R1 ?_ | refine R2 ?_ | refine R3 ?_ | refine R4 ?_ | refine R5 ?_ | refine R6 ?_ | refine R7 ?_ | refine R8 ?_ | refine R9 ?_ | refine S0 ?_)
        have hS : SO k [arr fb 0 5 9 1 froms] w.drew := SO.of hO.drew (.cons (.tl _ (.hd _ _)) (.nil _))
        refine dl_start (SO k [arr fb 0 5 9 1 froms]) (by intro c a d v w h; cases d <;> exact h) hS ?_
        repeat (first | refine dl_y (by kernel_rfl) rfl rfl (fun w ⟨m, hw⟩ => by first | exact y_move rfl | exact y_assign rfl | exact y_nilCheck rfl rfl | exact y_fieldAddr_row rfl | exact y_fieldAddr rfl | exact y_lenL rfl | exact y_lenS rfl | exact y_extract rfl rfl | exact y_pick_t rfl rfl | exact y_pick_f rfl rfl | exact D5 hw rfl | exact D4 | exact D0 | exact D1 | exact D2 | exact D3 | exact D6 | exact D7 | exact y_index rfl rfl (by omega) (by omega) | exact y_not rfl rfl | exact y_eqPnil rfl rfl rfl | exact y_nePnil rfl rfl rfl | exact y_convS rfl | exact y_eqB rfl rfl rfl | exact y_neB rfl rfl rfl) ?_ | refine dl_pass (by kernel_rfl) rfl rfl ?_)
        refine dl_y (by kernel_rfl) rfl rfl (fun w ⟨m, hw⟩ => y_load1 rfl (hw.holds (.hd _ _ _) (.ofArr1 (froms_at hf) rfl))) ?_
        by_cases hle : i + f.1.length ≤ x.size
        · repeat (first | refine dl_y (by kernel_rfl) rfl rfl (fun w ⟨m, hw⟩ => by first | exact y_move rfl | exact y_assign rfl | exact y_nilCheck rfl rfl | exact y_fieldAddr_row rfl | exact y_fieldAddr rfl | exact y_lenL rfl | exact y_lenS rfl | exact y_extract rfl rfl | exact y_pick_t rfl rfl | exact y_pick_f rfl rfl | exact D5 hw rfl | exact D4 | exact D0 | exact D1 | exact D2 | exact D3 | exact D6 | exact D7 | exact y_index rfl rfl (by omega) (by omega) | exact y_not rfl rfl | exact y_eqPnil rfl rfl rfl | exact y_nePnil rfl rfl rfl | exact y_convS rfl | exact y_eqB rfl rfl rfl | exact y_neB rfl rfl rfl) ?_ | refine dl_pass (by kernel_rfl) rfl rfl ?_)
          refine dl_y (by kernel_rfl) rfl rfl (fun w ⟨m, hw⟩ => y_load1 rfl (hw.holds (.hd _ _ _) (.ofArr1 (froms_at hf) rfl))) ?_
          repeat (first | refine dl_y (by kernel_rfl) rfl rfl (fun w ⟨m, hw⟩ => by first | exact y_move rfl | exact y_assign rfl | exact y_nilCheck rfl rfl | exact y_fieldAddr_row rfl | exact y_fieldAddr rfl | exact y_lenL rfl | exact y_lenS rfl | exact y_extract rfl rfl | exact y_pick_t rfl rfl | exact y_pick_f rfl rfl | exact D5 hw rfl | exact D4 | exact D0 | exact D1 | exact D2 | exact D3 | exact D6 | exact D7 | exact y_index rfl rfl (by omega) (by omega) | exact y_not rfl rfl | exact y_eqPnil rfl rfl rfl | exact y_nePnil rfl rfl rfl | exact y_convS rfl | exact y_eqB rfl rfl rfl | exact y_neB rfl rfl rfl) ?_ | refine dl_pass (by kernel_rfl) rfl rfl ?_)
          refine dl_y (by kernel_rfl) rfl rfl (fun w ⟨m, hw⟩ => y_sub rfl rfl rfl (by omega) (by omega) (by omega)) ?_
          repeat (first | refine dl_y (by kernel_rfl) rfl rfl (fun w ⟨m, hw⟩ => by first | exact y_move rfl | exact y_assign rfl | exact y_nilCheck rfl rfl | exact y_fieldAddr_row rfl | exact y_fieldAddr rfl | exact y_lenL rfl | exact y_lenS rfl | exact y_extract rfl rfl | exact y_pick_t rfl rfl | exact y_pick_f rfl rfl | exact D5 hw rfl | exact D4 | exact D0 | exact D1 | exact D2 | exact D3 | exact D6 | exact D7 | exact y_index rfl rfl (by omega) (by omega) | exact y_not rfl rfl | exact y_eqPnil rfl rfl rfl | exact y_nePnil rfl rfl rfl | exact y_convS rfl | exact y_eqB rfl rfl rfl | exact y_neB rfl rfl rfl) ?_ | refine dl_pass (by kernel_rfl) rfl rfl ?_)
          refine dl_y (by kernel_rfl) rfl rfl (fun w ⟨m, hw⟩ => y_load1 rfl (hw.holds (.hd _ _ _) (.ofArr1 (froms_at hf) rfl))) ?_
          have hcut := pre_cut x f.1 i hle
          have hto : ((i : Int) + ((ByteArray.mk f.1.toArray).size : Nat)).toNat = i + f.1.length := by omega
          rw [hL] at hcut
          cases hp : f.1.isPrefixOf (esc attr l) with
          | true =>
            have he : x.extract (i : Int).toNat ((i : Int) + ((ByteArray.mk f.1.toArray).size : Nat)).toNat = ⟨f.1.toArray⟩ := by rw [hto]; exact hcut.2 hp
            refine dl_y (by kernel_rfl) rfl rfl (fun w ⟨m, hw⟩ => y_eqS rfl rfl (decide_eq_true he)) ?_
            repeat (first | refine dl_y (by kernel_rfl) rfl rfl (fun w ⟨m, hw⟩ => by first | exact y_move rfl | exact y_assign rfl | exact y_nilCheck rfl rfl | exact y_fieldAddr_row rfl | exact y_fieldAddr rfl | exact y_lenL rfl | exact y_lenS rfl | exact y_extract rfl rfl | exact y_pick_t rfl rfl | exact y_pick_f rfl rfl | exact D5 hw rfl | exact D4 | exact D0 | exact D1 | exact D2 | exact D3 | exact D6 | exact D7 | exact y_index rfl rfl (by omega) (by omega) | exact y_not rfl rfl | exact y_eqPnil rfl rfl rfl | exact y_nePnil rfl rfl rfl | exact y_convS rfl | exact y_eqB rfl rfl rfl | exact y_neB rfl rfl rfl) ?_ | refine dl_pass (by kernel_rfl) rfl rfl ?_)
            refine dl_end (by kernel_rfl) ?_
            have hO := hO.drew
            repeat (first | (with_reducible first | refine K0 ?_ | refine K1 ?_ | refine K2 ?_ | refine K3 ?_ | refine K4 ?_ | refine K5 ?_ | refine K6 ?_ | refine K7 ?_ | refine K8 ?_ | refine K9 ?_ | refine L0 ?_ | refine L1 ?_ | refine L2 ?_ | refine L3 ?_ | refine L4 ?_ | refine L5 ?_ | refine L6 ?_) | refine Y0 hO rfl ?_ | refine Y1 hO rfl rfl (fun w hO => ?_) | refine L7 ?_ | refine L8 ?_ | refine L9 ?_ | refine M0 ?_ | refine M1 ?_ | refine M2 ?_ | refine M3 ?_ | refine M4 ?_ | refine M5 ?_ | refine M6 ?_ | refine M7 ?_ | refine M8 ?_ | refine M9 ?_ | refine N0 ?_ | refine N1 ?_ | refine N2 ?_ | refine N3 ?_ | refine N4 ?_ | refine N5 ?_ | refine N6 ?_ | refine N7 ?_ | refine N8 ?_ | refine N9 ?_ | refine R0 ?_ | refine R1 ?_ | refine R2 ?_ | refine R3 ?_ | refine R4 ?_ | refine R5 ?_ | refine R6 ?_ | refine R7 ?_ | refine R8 ?_ | refine R9 ?_ | refine S0 ?_)
            refine l_y rfl rfl (y_index rfl rfl (by omega) (by omega)) ?_
            refine l_y rfl rfl (y_load1 rfl (hO.holds (.tl _ (.tl _ (.hd _ _ _))) (.ofArr1 (tos_at hf) rfl))) ?_
            have hft : (ByteArray.mk f.2.toArray).size = f.2.length := List.size_toArray
            refine S2 f.2.length hO (.hd _ _) rfl rfl rfl rfl hft (by omega) (by omega) fun v'' w hO hgr => ?_
            repeat (first | (with_reducible first | refine K0 ?_ | refine K1 ?_ | refine K2 ?_ | refine K3 ?_ | refine K4 ?_ | refine K5 ?_ | refine K6 ?_ | refine K7 ?_ | refine K8 ?_ | refine K9 ?_ | refine L0 ?_ | refine L1 ?_ | refine L2 ?_ | refine L3 ?_ | refine L4 ?_ | refine L5 ?_ | refine L6 ?_) | refine Y0 hO rfl ?_ | refine Y1 hO rfl rfl (fun w hO => ?_) | refine L7 ?_ | refine L8 ?_ | refine L9 ?_ | refine M0 ?_ | refine M1 ?_ | refine M2 ?_ | refine M3 ?_ | refine M4 ?_ | refine M5 ?_ | refine M6 ?_ | refine M7 ?_ | refine M8 ?_ | refine M9 ?_ | refine N0 ?_ | refine N1 ?_ | refine N2 ?_ | refine N3 ?_ | refine N4 ?_ | refine N5 ?_ | refine N6 ?_ | refine N7 ?_ | refine N8 ?_ | refine N9 ?_ | refine R0 ?_ | refine R1 ?_ | refine R2 ?_ | refine R3 ?_ | refine R4 ?_ | refine R5 ?_ | refine R6 ?_ | refine R7 ?_ | refine R8 ?_ | refine R9 ?_ | refine S0 ?_)
            refine l_y rfl rfl (y_index rfl rfl (by omega) (by omega)) ?_
            refine l_y rfl rfl (y_load1 rfl (hO.holds (.tl _ (.hd _ _ _)) (.ofArr1 (froms_at hf) rfl))) ?_
            repeat (first | (with_reducible first | refine K0 ?_ | refine K1 ?_ | refine K2 ?_ | refine K3 ?_ | refine K4 ?_ | refine K5 ?_ | refine K6 ?_ | refine K7 ?_ | refine K8 ?_ | refine K9 ?_ | refine L0 ?_ | refine L1 ?_ | refine L2 ?_ | refine L3 ?_ | refine L4 ?_ | refine L5 ?_ | refine L6 ?_) | refine Y0 hO rfl ?_ | refine Y1 hO rfl rfl (fun w hO => ?_) | refine L7 ?_ | refine L8 ?_ | refine L9 ?_ | refine M0 ?_ | refine M1 ?_ | refine M2 ?_ | refine M3 ?_ | refine M4 ?_ | refine M5 ?_ | refine M6 ?_ | refine M7 ?_ | refine M8 ?_ | refine M9 ?_ | refine N0 ?_ | refine N1 ?_ | refine N2 ?_ | refine N3 ?_ | refine N4 ?_ | refine N5 ?_ | refine N6 ?_ | refine N7 ?_ | refine N8 ?_ | refine N9 ?_ | refine R0 ?_ | refine R1 ?_ | refine R2 ?_ | refine R3 ?_ | refine R4 ?_ | refine R5 ?_ | refine R6 ?_ | refine R7 ?_ | refine R8 ?_ | refine R9 ?_ | refine S0 ?_)
            exact q_next (q + 1, f.1.length, out ++ f.2, v'') ⟨rfl, rfl, rfl, rfl, rfl, rfl, rfl, trivial⟩ ⟨hO, by simp only; omega, .inr ⟨q, f, hf, hp, rfl, rfl⟩⟩ (by simp only; omega)
          | false =>
            have he : x.extract (i : Int).toNat ((i : Int) + ((ByteArray.mk f.1.toArray).size : Nat)).toNat ≠ ⟨f.1.toArray⟩ := by rw [hto]; intro e; rw [hcut.1 e] at hp; cases hp
            refine dl_y (by kernel_rfl) rfl rfl (fun w ⟨m, hw⟩ => y_eqS rfl rfl (decide_eq_false he)) ?_
            repeat (first | refine dl_y (by kernel_rfl) rfl rfl (fun w ⟨m, hw⟩ => by first | exact y_move rfl | exact y_assign rfl | exact y_nilCheck rfl rfl | exact y_fieldAddr_row rfl | exact y_fieldAddr rfl | exact y_lenL rfl | exact y_lenS rfl | exact y_extract rfl rfl | exact y_pick_t rfl rfl | exact y_pick_f rfl rfl | exact D5 hw rfl | exact D4 | exact D0 | exact D1 | exact D2 | exact D3 | exact D6 | exact D7 | exact y_index rfl rfl (by omega) (by omega) | exact y_not rfl rfl | exact y_eqPnil rfl rfl rfl | exact y_nePnil rfl rfl rfl | exact y_convS rfl | exact y_eqB rfl rfl rfl | exact y_neB rfl rfl rfl) ?_ | refine dl_pass (by kernel_rfl) rfl rfl ?_)
            refine dl_end (by kernel_rfl) ?_
            have hO := hO.drew
            repeat (first | (with_reducible first | refine K0 ?_ | refine K1 ?_ | refine K2 ?_ | refine K3 ?_ | refine K4 ?_ | refine K5 ?_ | refine K6 ?_ | refine K7 ?_ | refine K8 ?_ | refine K9 ?_ | refine L0 ?_ | refine L1 ?_ | refine L2 ?_ | refine L3 ?_ | refine L4 ?_ | refine L5 ?_ | refine L6 ?_) | refine Y0 hO rfl ?_ | refine Y1 hO rfl rfl (fun w hO => ?_) | refine L7 ?_ | refine L8 ?_ | refine L9 ?_ | refine M0 ?_ | refine M1 ?_ | refine M2 ?_ | refine M3 ?_ | refine M4 ?_ | refine M5 ?_ | refine M6 ?_ | refine M7 ?_ | refine M8 ?_ | refine M9 ?_ | refine N0 ?_ | refine N1 ?_ | refine N2 ?_ | refine N3 ?_ | refine N4 ?_ | refine N5 ?_ | refine N6 ?_ | refine N7 ?_ | refine N8 ?_ | refine N9 ?_ | refine R0 ?_ | refine R1 ?_ | refine R2 ?_ | refine R3 ?_ | refine R4 ?_ | refine R5 ?_ | refine R6 ?_ | refine R7 ?_ | refine R8 ?_ | refine R9 ?_ | refine S0 ?_)
            refine q_next (q + 1, 0, out, v') ⟨rfl, rfl, rfl, rfl, rfl, rfl, rfl, trivial⟩ ⟨hO, by simp only; omega, .inl ⟨rfl, rfl, fun j g hj hg => ?_⟩⟩ (by simp only; omega)
            by_cases hjq : j = q
            · subst hjq; rw [hf] at hg; cases hg; exact hp
            · exact hno j g (by simp only at hj; omega) hg
        · repeat (first | refine dl_y (by kernel_rfl) rfl rfl (fun w ⟨m, hw⟩ => by first | exact y_move rfl | exact y_assign rfl | exact y_nilCheck rfl rfl | exact y_fieldAddr_row rfl | exact y_fieldAddr rfl | exact y_lenL rfl | exact y_lenS rfl | exact y_extract rfl rfl | exact y_pick_t rfl rfl | exact y_pick_f rfl rfl | exact D5 hw rfl | exact D4 | exact D0 | exact D1 | exact D2 | exact D3 | exact D6 | exact D7 | exact y_index rfl rfl (by omega) (by omega) | exact y_not rfl rfl | exact y_eqPnil rfl rfl rfl | exact y_nePnil rfl rfl rfl | exact y_convS rfl | exact y_eqB rfl rfl rfl | exact y_neB rfl rfl rfl) ?_ | refine dl_pass (by kernel_rfl) rfl rfl ?_)
          refine dl_end (by kernel_rfl) ?_
          have hO := hO.drew
          repeat (first | (with_reducible first | refine K0 ?_ | refine K1 ?_ | refine K2 ?_ | refine K3 ?_ | refine K4 ?_ | refine K5 ?_ | refine K6 ?_ | refine K7 ?_ | refine K8 ?_ | refine K9 ?_ | refine L0 ?_ | refine L1 ?_ | refine L2 ?_ | refine L3 ?_ | refine L4 ?_ | refine L5 ?_ | refine L6 ?_) | refine Y0 hO rfl ?_ | refine Y1 hO rfl rfl (fun w hO => ?_) | refine L7 ?_ | refine L8 ?_ | refine L9 ?_ | refine M0 ?_ | refine M1 ?_ | refine M2 ?_ | refine M3 ?_ | refine M4 ?_ | refine M5 ?_ | refine M6 ?_ | refine M7 ?_ | refine M8 ?_ | refine M9 ?_ | refine N0 ?_ | refine N1 ?_ | refine N2 ?_ | refine N3 ?_ | refine N4 ?_ | refine N5 ?_ | refine N6 ?_ | refine N7 ?_ | refine N8 ?_ | refine N9 ?_ | refine R0 ?_ | refine R1 ?_ | refine R2 ?_ | refine R3 ?_ | refine R4 ?_ | refine R5 ?_ | refine R6 ?_ | refine R7 ?_ | refine R8 ?_ | refine R9 ?_ | refine S0 ?_)
          refine q_next (q + 1, 0, out, v') ⟨rfl, rfl, rfl, rfl, rfl, rfl, rfl, trivial⟩ ⟨hO, by simp only; omega, .inl ⟨rfl, rfl, fun j g hj hg => ?_⟩⟩ (by simp only; omega)
          by_cases hjq : j = q
          · subst hjq; rw [hf] at hg; cases hg; rw [← hL]; exact pre_long x f.1 i hi (by omega)
          · exact hno j g (by simp only at hj; omega) hg
      · obtain rfl : q = 5 := by omega
        obtain ⟨c, t, hct, he⟩ := esc_plain (attr := attr) (l := l) (fun h0 => by rw [h0] at hLl; simp at hLl; omega) (fun j f hj => hno j f (List.getElem?_eq_some_iff.1 hj).1 hj)
        rw [he] at hL
        have hc := drop_at hL
        have ht := drop_tail (x := [c]) hL
        simp only [List.length_cons, List.length_nil] at ht
        have hlt' : l.length = t.length + 1 := by rw [hct]; rfl
        repeat (first | (with_reducible first | refine K0 ?_ | refine K1 ?_ | refine K2 ?_ | refine K3 ?_ | refine K4 ?_ | refine K5 ?_ | refine K6 ?_ | refine K7 ?_ | refine K8 ?_ | refine K9 ?_ | refine L0 ?_ | refine L1 ?_ | refine L2 ?_ | refine L3 ?_ | refine L4 ?_ | refine L5 ?_ | refine L6 ?_) | refine Y0 hO rfl ?_ | refine Y1 hO rfl rfl (fun w hO => ?_) | refine L7 ?_ | refine L8 ?_ | refine L9 ?_ | refine M0 ?_ | refine M1 ?_ | refine M2 ?_ | refine M3 ?_ | refine M4 ?_ | refine M5 ?_ | refine M6 ?_ | refine M7 ?_ | refine M8 ?_ | refine M9 ?_ | refine N0 ?_ | refine N1 ?_ | refine N2 ?_ | refine N3 ?_ | refine N4 ?_ | refine N5 ?_ | refine N6 ?_ | refine N7 ?_ | refine N8 ?_ | refine N9 ?_ | refine R0 ?_ | refine R1 ?_ | refine R2 ?_ | refine R3 ?_ | refine R4 ?_ | refine R5 ?_ | refine R6 ?_ | refine R7 ?_ | refine R8 ?_ | refine R9 ?_ | refine S0 ?_)
        refine S1 hO (.hd _ _) rfl rfl rfl (fun _ => rfl) rfl (fun _ => rfl) rfl (by omega) (by omega) fun _ v'' w hO hgr => ?_
        repeat (first | (with_reducible first | refine K0 ?_ | refine K1 ?_ | refine K2 ?_ | refine K3 ?_ | refine K4 ?_ | refine K5 ?_ | refine K6 ?_ | refine K7 ?_ | refine K8 ?_ | refine K9 ?_ | refine L0 ?_ | refine L1 ?_ | refine L2 ?_ | refine L3 ?_ | refine L4 ?_ | refine L5 ?_ | refine L6 ?_) | refine Y0 hO rfl ?_ | refine Y1 hO rfl rfl (fun w hO => ?_) | refine L7 ?_ | refine L8 ?_ | refine L9 ?_ | refine M0 ?_ | refine M1 ?_ | refine M2 ?_ | refine M3 ?_ | refine M4 ?_ | refine M5 ?_ | refine M6 ?_ | refine M7 ?_ | refine M8 ?_ | refine M9 ?_ | refine N0 ?_ | refine N1 ?_ | refine N2 ?_ | refine N3 ?_ | refine N4 ?_ | refine N5 ?_ | refine N6 ?_ | refine N7 ?_ | refine N8 ?_ | refine N9 ?_ | refine R0 ?_ | refine R1 ?_ | refine R2 ?_ | refine R3 ?_ | refine R4 ?_ | refine R5 ?_ | refine R6 ?_ | refine R7 ?_ | refine R8 ?_ | refine R9 ?_ | refine S0 ?_)
        exact q_next (i + 1, t, out ++ [c], v'') ⟨rfl, rfl, rfl, rfl, rfl, trivial⟩ ⟨hO, by simp only; omega, by simpa using ht, by rw [← hl, hct]; simp⟩ (by simp only; omega)
    · obtain ⟨t, hlt', he⟩ := esc_ref hj hpre
      have hfl := refs_len j f hj
      rw [he] at hL
      have ht := drop_tail hL
      have hle := drop_le hi hL
      by_cases hq5 : q < 5
      · repeat (first | (with_reducible first | refine K0 ?_ | refine K1 ?_ | refine K2 ?_ | refine K3 ?_ | refine K4 ?_ | refine K5 ?_ | refine K6 ?_ | refine K7 ?_ | refine K8 ?_ | refine K9 ?_ | refine L0 ?_ | refine L1 ?_ | refine L2 ?_ | refine L3 ?_ | refine L4 ?_ | refine L5 ?_ | refine L6 ?_) | refine Y0 hO rfl ?_ | refine Y1 hO rfl rfl (fun w hO => ?_) | refine L7 ?_ | refine L8 ?_ | refine L9 ?_ | refine M0 ?_ | refine M1 ?_ | refine M2 ?_ | refine M3 ?_ | refine M4 ?_ | refine M5 ?_ | refine M6 ?_ | refine M7 ?_ | refine M8 ?_ | refine M9 ?_ | refine N0 ?_ | refine N1 ?_ | refine N2 ?_ | refine N3 ?_ | refine N4 ?_ | refine N5 ?_ | refine N6 ?_ | refine N7 ?_ | refine N8 ?_ | refine N9 ?_ | refine R0 ?_ | refine R1 ?_ | refine R2 ?_ | refine R3 ?_ | refine R4 ?_ | refine R5 ?_ | refine R6 ?_ | refine R7 ?_ | refine R8 ?_ | refine R9 ?_ | refine S0 ?_)
        exact q_next (i + f.1.length, t, out ++ f.2, v') ⟨rfl, rfl, rfl, rfl, rfl, trivial⟩ ⟨hO, by simp only; omega, by simpa using ht, by rw [← hl, hlt']; simp⟩ (by simp only; omega)
      · repeat (first | (with_reducible first | refine K0 ?_ | refine K1 ?_ | refine K2 ?_ | refine K3 ?_ | refine K4 ?_ | refine K5 ?_ | refine K6 ?_ | refine K7 ?_ | refine K8 ?_ | refine K9 ?_ | refine L0 ?_ | refine L1 ?_ | refine L2 ?_ | refine L3 ?_ | refine L4 ?_ | refine L5 ?_ | refine L6 ?_) | refine Y0 hO rfl ?_ | refine Y1 hO rfl rfl (fun w hO => ?_) | refine L7 ?_ | refine L8 ?_ | refine L9 ?_ | refine M0 ?_ | refine M1 ?_ | refine M2 ?_ | refine M3 ?_ | refine M4 ?_ | refine M5 ?_ | refine M6 ?_ | refine M7 ?_ | refine M8 ?_ | refine M9 ?_ | refine N0 ?_ | refine N1 ?_ | refine N2 ?_ | refine N3 ?_ | refine N4 ?_ | refine N5 ?_ | refine N6 ?_ | refine N7 ?_ | refine N8 ?_ | refine N9 ?_ | refine R0 ?_ | refine R1 ?_ | refine R2 ?_ | refine R3 ?_ | refine R4 ?_ | refine R5 ?_ | refine R6 ?_ | refine R7 ?_ | refine R8 ?_ | refine R9 ?_ | refine S0 ?_)
        exact q_next (i + f.1.length, t, out ++ f.2, v') ⟨rfl, rfl, rfl, rfl, rfl, trivial⟩ ⟨hO, by simp only; omega, by simpa using ht, by rw [← hl, hlt']; simp⟩ (by simp only; omega)
  · obtain rfl : i = x.size := by omega
    have hnil : l = [] := by
      rw [List.drop_of_length_le (by omega)] at hL
      cases view attr l with
      | nil e => exact e
      | ref j f t hj e he => obtain ⟨t', e'⟩ := refs_amp j f hj; rw [he, e'] at hL; simp at hL
      | plain c t e hc he => rw [he] at hL; simp at hL
    subst hnil
    rw [List.append_nil] at hl
    subst hl
    repeat (first | (with_reducible first | refine K0 ?_ | refine K1 ?_ | refine K2 ?_ | refine K3 ?_ | refine K4 ?_ | refine K5 ?_ | refine K6 ?_ | refine K7 ?_ | refine K8 ?_ | refine K9 ?_ | refine L0 ?_ | refine L1 ?_ | refine L2 ?_ | refine L3 ?_ | refine L4 ?_ | refine L5 ?_ | refine L6 ?_) | refine Y0 hO rfl ?_ | refine Y1 hO rfl rfl (fun w hO => ?_) | refine L7 ?_ | refine L8 ?_ | refine L9 ?_ | refine M0 ?_ | refine M1 ?_ | refine M2 ?_ | refine M3 ?_ | refine M4 ?_ | refine M5 ?_ | refine M6 ?_ | refine M7 ?_ | refine M8 ?_ | refine M9 ?_ | refine N0 ?_ | refine N1 ?_ | refine N2 ?_ | refine N3 ?_ | refine N4 ?_ | refine N5 ?_ | refine N6 ?_ | refine N7 ?_ | refine N8 ?_ | refine N9 ?_ | refine R0 ?_ | refine R1 ?_ | refine R2 ?_ | refine R3 ?_ | refine R4 ?_ | refine R5 ?_ | refine R6 ?_ | refine R7 ?_ | refine R8 ?_ | refine R9 ?_ | refine S0 ?_)
    refine l_y rfl rfl (y_bytesStr hO (.hd _ _) rfl) ?_
    repeat (first | (with_reducible first | refine K0 ?_ | refine K1 ?_ | refine K2 ?_ | refine K3 ?_ | refine K4 ?_ | refine K5 ?_ | refine K6 ?_ | refine K7 ?_ | refine K8 ?_ | refine K9 ?_ | refine L0 ?_ | refine L1 ?_ | refine L2 ?_ | refine L3 ?_ | refine L4 ?_ | refine L5 ?_ | refine L6 ?_) | refine Y0 hO rfl ?_ | refine Y1 hO rfl rfl (fun w hO => ?_) | refine L7 ?_ | refine L8 ?_ | refine L9 ?_ | refine M0 ?_ | refine M1 ?_ | refine M2 ?_ | refine M3 ?_ | refine M4 ?_ | refine M5 ?_ | refine M6 ?_ | refine M7 ?_ | refine M8 ?_ | refine M9 ?_ | refine N0 ?_ | refine N1 ?_ | refine N2 ?_ | refine N3 ?_ | refine N4 ?_ | refine N5 ?_ | refine N6 ?_ | refine N7 ?_ | refine N8 ?_ | refine N9 ?_ | refine R0 ?_ | refine R1 ?_ | refine R2 ?_ | refine R3 ?_ | refine R4 ?_ | refine R5 ?_ | refine R6 ?_ | refine R7 ?_ | refine R8 ?_ | refine R9 ?_ | refine S0 ?_)
    exact fin1 rfl rfl ⟨_, rfl, hO⟩
theorem WriteSafe_spec (k : Ctx) (w : World) (s : ByteArray) (hs : s.size ≤ 100000000) (hO : Own k w []) :
    Tri Try.prog 5 #[.string s] k w fun r m => r = .bool true := by
  refine enter (args := [.string s]) Try.func5 rfl rfl ?_
  have hsz : s.data.toList.length = s.size := Array.length_toList
  repeat (first | (with_reducible first | refine K0 ?_ | refine K1 ?_ | refine K2 ?_ | refine K3 ?_ | refine K4 ?_ | refine K5 ?_ | refine K6 ?_ | refine K7 ?_ | refine K8 ?_ | refine K9 ?_ | refine L0 ?_ | refine L1 ?_ | refine L2 ?_ | refine L3 ?_ | refine L4 ?_ | refine L5 ?_ | refine L6 ?_) | refine Y0 hO rfl ?_ | refine Y1 hO rfl rfl (fun w hO => ?_) | refine L7 ?_ | refine L8 ?_ | refine L9 ?_ | refine M0 ?_ | refine M1 ?_ | refine M2 ?_ | refine M3 ?_ | refine M4 ?_ | refine M5 ?_ | refine M6 ?_ | refine M7 ?_ | refine M8 ?_ | refine M9 ?_ | refine N0 ?_ | refine N1 ?_ | refine N2 ?_ | refine N3 ?_ | refine N4 ?_ | refine N5 ?_ | refine N6 ?_ | refine N7 ?_ | refine N8 ?_ | refine N9 ?_ | refine R0 ?_ | refine R1 ?_ | refine R2 ?_ | refine R3 ?_ | refine R4 ?_ | refine R5 ?_ | refine R6 ?_ | refine R7 ?_ | refine R8 ?_ | refine R9 ?_ | refine S0 ?_)
  refine s_callO hO (.nil _) rfl rfl rfl (fun k' hx hr hO => Escape_spec k' _ s false hs hO) ?_
  rintro _ _ w ⟨rfl, rfl⟩ hO
  repeat (first | (with_reducible first | refine K0 ?_ | refine K1 ?_ | refine K2 ?_ | refine K3 ?_ | refine K4 ?_ | refine K5 ?_ | refine K6 ?_ | refine K7 ?_ | refine K8 ?_ | refine K9 ?_ | refine L0 ?_ | refine L1 ?_ | refine L2 ?_ | refine L3 ?_ | refine L4 ?_ | refine L5 ?_ | refine L6 ?_) | refine Y0 hO rfl ?_ | refine Y1 hO rfl rfl (fun w hO => ?_) | refine L7 ?_ | refine L8 ?_ | refine L9 ?_ | refine M0 ?_ | refine M1 ?_ | refine M2 ?_ | refine M3 ?_ | refine M4 ?_ | refine M5 ?_ | refine M6 ?_ | refine M7 ?_ | refine M8 ?_ | refine M9 ?_ | refine N0 ?_ | refine N1 ?_ | refine N2 ?_ | refine N3 ?_ | refine N4 ?_ | refine N5 ?_ | refine N6 ?_ | refine N7 ?_ | refine N8 ?_ | refine N9 ?_ | refine R0 ?_ | refine R1 ?_ | refine R2 ?_ | refine R3 ?_ | refine R4 ?_ | refine R5 ?_ | refine R6 ?_ | refine R7 ?_ | refine R8 ?_ | refine R9 ?_ | refine S0 ?_)
  refine s_callO hO (.nil _) rfl rfl rfl (fun k' hx hr hO => Escape_spec k' _ s true hs hO) ?_
  rintro _ _ w ⟨rfl, rfl⟩ hO
  repeat (first | (with_reducible first | refine K0 ?_ | refine K1 ?_ | refine K2 ?_ | refine K3 ?_ | refine K4 ?_ | refine K5 ?_ | refine K6 ?_ | refine K7 ?_ | refine K8 ?_ | refine K9 ?_ | refine L0 ?_ | refine L1 ?_ | refine L2 ?_ | refine L3 ?_ | refine L4 ?_ | refine L5 ?_ | refine L6 ?_) | refine Y0 hO rfl ?_ | refine Y1 hO rfl rfl (fun w hO => ?_) | refine L7 ?_ | refine L8 ?_ | refine L9 ?_ | refine M0 ?_ | refine M1 ?_ | refine M2 ?_ | refine M3 ?_ | refine M4 ?_ | refine M5 ?_ | refine M6 ?_ | refine M7 ?_ | refine M8 ?_ | refine M9 ?_ | refine N0 ?_ | refine N1 ?_ | refine N2 ?_ | refine N3 ?_ | refine N4 ?_ | refine N5 ?_ | refine N6 ?_ | refine N7 ?_ | refine N8 ?_ | refine N9 ?_ | refine R0 ?_ | refine R1 ?_ | refine R2 ?_ | refine R3 ?_ | refine R4 ?_ | refine R5 ?_ | refine R6 ?_ | refine R7 ?_ | refine R8 ?_ | refine R9 ?_ | refine S0 ?_)
  have hxs : ∀ attr, (ByteArray.mk (esc attr s.data.toList).toArray).size = (esc attr s.data.toList).length := fun _ => List.size_toArray
  have hlen : ∀ attr, (esc attr s.data.toList).length ≤ 6 * s.size := fun attr => by rw [← hsz]; exact esc_len attr _ _ (Nat.le_refl _)
  have h1 := hlen false
  have h2 := hlen true
  have e1 := hxs false
  have e2 := hxs true
  refine c_rounds (X := Nat) (fun i => [(0, .string s), (3, .string ⟨(esc false s.data.toList).toArray⟩), (4, .string ⟨(esc true s.data.toList).toArray⟩), (5, .int .i64 (i : Nat))]) (fun i w => Own k w [] ∧ i ≤ (esc false s.data.toList).length) (fun i => (esc false s.data.toList).length - i) 0 ⟨rfl, rfl, rfl, rfl, trivial⟩ ⟨hO, by omega⟩ ?_
  intro i w m hm ⟨hO, hi⟩
  by_cases hlt : i < (esc false s.data.toList).length
  · have hc : (ByteArray.mk (esc false s.data.toList).toArray).data.toList[i]? = some (esc false s.data.toList)[i] := List.getElem?_eq_getElem hlt
    have hmem : (esc false s.data.toList)[i] ∈ esc false s.data.toList := List.getElem_mem hlt
    generalize (esc false s.data.toList)[i] = c at hc hmem
    have n1 : (c.toNat : Int) ≠ 60 := fun e => by
      have : c = 60 := u8_eq (by have : (60 : UInt8).toNat = 60 := rfl; omega)
      subst this
      exact esc_safe false 60 (by decide) (by intro c h e; subst e; simp [one1] at h) _ _ (Nat.le_refl _) hmem
    have n2 : (c.toNat : Int) ≠ 62 := fun e => by
      have : c = 62 := u8_eq (by have : (62 : UInt8).toNat = 62 := rfl; omega)
      subst this
      exact esc_safe false 62 (by decide) (by intro c h e; subst e; simp [one1] at h) _ _ (Nat.le_refl _) hmem
    repeat (first | (with_reducible first | refine K0 ?_ | refine K1 ?_ | refine K2 ?_ | refine K3 ?_ | refine K4 ?_ | refine K5 ?_ | refine K6 ?_ | refine K7 ?_ | refine K8 ?_ | refine K9 ?_ | refine L0 ?_ | refine L1 ?_ | refine L2 ?_ | refine L3 ?_ | refine L4 ?_ | refine L5 ?_ | refine L6 ?_) | refine Y0 hO rfl ?_ | refine Y1 hO rfl rfl (fun w hO => ?_) | refine L7 ?_ | refine L8 ?_ | refine L9 ?_ | refine M0 ?_ | refine M1 ?_ | refine M2 ?_ | refine M3 ?_ | refine M4 ?_ | refine M5 ?_ | refine M6 ?_ | refine M7 ?_ | refine M8 ?_ | refine M9 ?_ | refine N0 ?_ | refine N1 ?_ | refine N2 ?_ | refine N3 ?_ | refine N4 ?_ | refine N5 ?_ | refine N6 ?_ | refine N7 ?_ | refine N8 ?_ | refine N9 ?_ | refine R0 ?_ | refine R1 ?_ | refine R2 ?_ | refine R3 ?_ | refine R4 ?_ | refine R5 ?_ | refine R6 ?_ | refine R7 ?_ | refine R8 ?_ | refine R9 ?_ | refine S0 ?_)
    exact q_next (i + 1) ⟨rfl, rfl, rfl, rfl, trivial⟩ ⟨hO, hlt⟩ (by omega)
  · repeat (first | (with_reducible first | refine K0 ?_ | refine K1 ?_ | refine K2 ?_ | refine K3 ?_ | refine K4 ?_ | refine K5 ?_ | refine K6 ?_ | refine K7 ?_ | refine K8 ?_ | refine K9 ?_ | refine L0 ?_ | refine L1 ?_ | refine L2 ?_ | refine L3 ?_ | refine L4 ?_ | refine L5 ?_ | refine L6 ?_) | refine Y0 hO rfl ?_ | refine Y1 hO rfl rfl (fun w hO => ?_) | refine L7 ?_ | refine L8 ?_ | refine L9 ?_ | refine M0 ?_ | refine M1 ?_ | refine M2 ?_ | refine M3 ?_ | refine M4 ?_ | refine M5 ?_ | refine M6 ?_ | refine M7 ?_ | refine M8 ?_ | refine M9 ?_ | refine N0 ?_ | refine N1 ?_ | refine N2 ?_ | refine N3 ?_ | refine N4 ?_ | refine N5 ?_ | refine N6 ?_ | refine N7 ?_ | refine N8 ?_ | refine N9 ?_ | refine R0 ?_ | refine R1 ?_ | refine R2 ?_ | refine R3 ?_ | refine R4 ?_ | refine R5 ?_ | refine R6 ?_ | refine R7 ?_ | refine R8 ?_ | refine R9 ?_ | refine S0 ?_)
    refine c_rounds (X := Nat) (fun i => [(0, .string s), (3, .string ⟨(esc false s.data.toList).toArray⟩), (4, .string ⟨(esc true s.data.toList).toArray⟩), (6, .int .i64 (i : Nat))]) (fun i w => Own k w [] ∧ i ≤ (esc true s.data.toList).length) (fun i => (esc true s.data.toList).length - i) 0 ⟨rfl, rfl, rfl, rfl, trivial⟩ ⟨hO, by omega⟩ ?_
    intro i w m hm ⟨hO, hi⟩
    by_cases hlt : i < (esc true s.data.toList).length
    · have hc : (ByteArray.mk (esc true s.data.toList).toArray).data.toList[i]? = some (esc true s.data.toList)[i] := List.getElem?_eq_getElem hlt
      have hmem : (esc true s.data.toList)[i] ∈ esc true s.data.toList := List.getElem_mem hlt
      generalize (esc true s.data.toList)[i] = c at hc hmem
      have n1 : (c.toNat : Int) ≠ 34 := fun e => by
        have : c = 34 := u8_eq (by have : (34 : UInt8).toNat = 34 := rfl; omega)
        subst this
        exact esc_safe true 34 (by decide) (by intro c h e; subst e; simp [one1] at h) _ _ (Nat.le_refl _) hmem
      repeat (first | (with_reducible first | refine K0 ?_ | refine K1 ?_ | refine K2 ?_ | refine K3 ?_ | refine K4 ?_ | refine K5 ?_ | refine K6 ?_ | refine K7 ?_ | refine K8 ?_ | refine K9 ?_ | refine L0 ?_ | refine L1 ?_ | refine L2 ?_ | refine L3 ?_ | refine L4 ?_ | refine L5 ?_ | refine L6 ?_) | refine Y0 hO rfl ?_ | refine Y1 hO rfl rfl (fun w hO => ?_) | refine L7 ?_ | refine L8 ?_ | refine L9 ?_ | refine M0 ?_ | refine M1 ?_ | refine M2 ?_ | refine M3 ?_ | refine M4 ?_ | refine M5 ?_ | refine M6 ?_ | refine M7 ?_ | refine M8 ?_ | refine M9 ?_ | refine N0 ?_ | refine N1 ?_ | refine N2 ?_ | refine N3 ?_ | refine N4 ?_ | refine N5 ?_ | refine N6 ?_ | refine N7 ?_ | refine N8 ?_ | refine N9 ?_ | refine R0 ?_ | refine R1 ?_ | refine R2 ?_ | refine R3 ?_ | refine R4 ?_ | refine R5 ?_ | refine R6 ?_ | refine R7 ?_ | refine R8 ?_ | refine R9 ?_ | refine S0 ?_)
      exact q_next (i + 1) ⟨rfl, rfl, rfl, rfl, trivial⟩ ⟨hO, hlt⟩ (by omega)
    · repeat (first | (with_reducible first | refine K0 ?_ | refine K1 ?_ | refine K2 ?_ | refine K3 ?_ | refine K4 ?_ | refine K5 ?_ | refine K6 ?_ | refine K7 ?_ | refine K8 ?_ | refine K9 ?_ | refine L0 ?_ | refine L1 ?_ | refine L2 ?_ | refine L3 ?_ | refine L4 ?_ | refine L5 ?_ | refine L6 ?_) | refine Y0 hO rfl ?_ | refine Y1 hO rfl rfl (fun w hO => ?_) | refine L7 ?_ | refine L8 ?_ | refine L9 ?_ | refine M0 ?_ | refine M1 ?_ | refine M2 ?_ | refine M3 ?_ | refine M4 ?_ | refine M5 ?_ | refine M6 ?_ | refine M7 ?_ | refine M8 ?_ | refine M9 ?_ | refine N0 ?_ | refine N1 ?_ | refine N2 ?_ | refine N3 ?_ | refine N4 ?_ | refine N5 ?_ | refine N6 ?_ | refine N7 ?_ | refine N8 ?_ | refine N9 ?_ | refine R0 ?_ | refine R1 ?_ | refine R2 ?_ | refine R3 ?_ | refine R4 ?_ | refine R5 ?_ | refine R6 ?_ | refine R7 ?_ | refine R8 ?_ | refine R9 ?_ | refine S0 ?_)
      refine s_callO hO (.nil _) rfl rfl rfl (fun k' hx hr hO => undone_spec k' _ _ false s.data.toList rfl (by omega) (by omega) hO) ?_
      rintro _ _ w rfl hO
      repeat (first | (with_reducible first | refine K0 ?_ | refine K1 ?_ | refine K2 ?_ | refine K3 ?_ | refine K4 ?_ | refine K5 ?_ | refine K6 ?_ | refine K7 ?_ | refine K8 ?_ | refine K9 ?_ | refine L0 ?_ | refine L1 ?_ | refine L2 ?_ | refine L3 ?_ | refine L4 ?_ | refine L5 ?_ | refine L6 ?_) | refine Y0 hO rfl ?_ | refine Y1 hO rfl rfl (fun w hO => ?_) | refine L7 ?_ | refine L8 ?_ | refine L9 ?_ | refine M0 ?_ | refine M1 ?_ | refine M2 ?_ | refine M3 ?_ | refine M4 ?_ | refine M5 ?_ | refine M6 ?_ | refine M7 ?_ | refine M8 ?_ | refine M9 ?_ | refine N0 ?_ | refine N1 ?_ | refine N2 ?_ | refine N3 ?_ | refine N4 ?_ | refine N5 ?_ | refine N6 ?_ | refine N7 ?_ | refine N8 ?_ | refine N9 ?_ | refine R0 ?_ | refine R1 ?_ | refine R2 ?_ | refine R3 ?_ | refine R4 ?_ | refine R5 ?_ | refine R6 ?_ | refine R7 ?_ | refine R8 ?_ | refine R9 ?_ | refine S0 ?_)
      refine s_callO hO (As := []) (.nil _) rfl rfl rfl (fun k' hx hr hO => undone_spec k' _ _ true s.data.toList rfl (by omega) (by omega) hO) ?_
      rintro _ _ w rfl hO
      repeat (first | (with_reducible first | refine K0 ?_ | refine K1 ?_ | refine K2 ?_ | refine K3 ?_ | refine K4 ?_ | refine K5 ?_ | refine K6 ?_ | refine K7 ?_ | refine K8 ?_ | refine K9 ?_ | refine L0 ?_ | refine L1 ?_ | refine L2 ?_ | refine L3 ?_ | refine L4 ?_ | refine L5 ?_ | refine L6 ?_) | refine Y0 hO rfl ?_ | refine Y1 hO rfl rfl (fun w hO => ?_) | refine L7 ?_ | refine L8 ?_ | refine L9 ?_ | refine M0 ?_ | refine M1 ?_ | refine M2 ?_ | refine M3 ?_ | refine M4 ?_ | refine M5 ?_ | refine M6 ?_ | refine M7 ?_ | refine M8 ?_ | refine M9 ?_ | refine N0 ?_ | refine N1 ?_ | refine N2 ?_ | refine N3 ?_ | refine N4 ?_ | refine N5 ?_ | refine N6 ?_ | refine N7 ?_ | refine N8 ?_ | refine N9 ?_ | refine R0 ?_ | refine R1 ?_ | refine R2 ?_ | refine R3 ?_ | refine R4 ?_ | refine R5 ?_ | refine R6 ?_ | refine R7 ?_ | refine R8 ?_ | refine R9 ?_ | refine S0 ?_)
      refine s_call rfl rfl rfl (awake_spec k _ hO.none) ?_
      rintro _ w ⟨rfl, hO⟩
      repeat (first | (with_reducible first | refine K0 ?_ | refine K1 ?_ | refine K2 ?_ | refine K3 ?_ | refine K4 ?_ | refine K5 ?_ | refine K6 ?_ | refine K7 ?_ | refine K8 ?_ | refine K9 ?_ | refine L0 ?_ | refine L1 ?_ | refine L2 ?_ | refine L3 ?_ | refine L4 ?_ | refine L5 ?_ | refine L6 ?_) | refine Y0 hO rfl ?_ | refine Y1 hO rfl rfl (fun w hO => ?_) | refine L7 ?_ | refine L8 ?_ | refine L9 ?_ | refine M0 ?_ | refine M1 ?_ | refine M2 ?_ | refine M3 ?_ | refine M4 ?_ | refine M5 ?_ | refine M6 ?_ | refine M7 ?_ | refine M8 ?_ | refine M9 ?_ | refine N0 ?_ | refine N1 ?_ | refine N2 ?_ | refine N3 ?_ | refine N4 ?_ | refine N5 ?_ | refine N6 ?_ | refine N7 ?_ | refine N8 ?_ | refine N9 ?_ | refine R0 ?_ | refine R1 ?_ | refine R2 ?_ | refine R3 ?_ | refine R4 ?_ | refine R5 ?_ | refine R6 ?_ | refine R7 ?_ | refine R8 ?_ | refine R9 ?_ | refine S0 ?_)
      exact fin1 rfl rfl ⟨_, rfl, hO⟩
end Go.Proofs.Ytjhifjkkeeeaoaa
