/- The walks of the arena's changes of one node; no condition. -/
import Derived.Test.YtnolpajggmfpdaaNode2
set_option linter.unusedVariables false
set_option linter.unusedSimpArgs false
set_option maxRecDepth 100000
namespace Go.Proofs.Ytnolpajggmfpdaa
open Go Go.Hb Go.RowKit
theorem Len_spec {k : Ctx} {w : World} {a : Nat} {A : List Node_one} {p : Option Addr} {c : Nat} (hn : 0 < A.length) (hO : Own k w [arB a p A.length c, arS p c A]) :
    Tri Try.prog 17 #[.pointer (some ⟨a, 0, none⟩)] k w fun v m => v = .int .i64 (A.length : Int) ∧ m = [arB a p A.length c, arS p c A] := by
  refine enter (args := [.pointer (some ⟨a, 0, none⟩)]) Try.func17 rfl rfl ?_
  refine K0 (K1 ?_)
  refine l_y rfl rfl (y_assign rfl) ?_
  refine K2 (K3 (K0 (K0 (K1 ?_))))
  refine l_y rfl rfl (y_move rfl) ?_
  refine CK [.b a, .p p] hO rfl (fun k' hx hr hO' => none_spec (hO := hO')) ?_
  rintro _ _ w ⟨rfl, rfl⟩ hO
  simp only [List.cons_append, List.nil_append] at hO
  refine K2 (K3 (L9 (K5 (K3 (K0 (K1 ?_))))))
  refine l_y rfl rfl (y_move rfl) ?_
  refine l_y rfl rfl (y_nilCheck rfl rfl) ?_
  refine l_y rfl rfl (y_fldb (o' := 0) rfl) ?_
  refine l_y rfl rfl (D5 hO rfl) ?_
  refine l_y rfl rfl (y_lenL rfl) ?_
  refine l_y rfl rfl (y_assign rfl) ?_
  refine K2 (K3 (K6 ?_))
  exact fin1 rfl rfl ⟨_, ⟨rfl, rfl⟩, hO⟩
def hostL (A : List Node_one) (id : Int) : Int := if hasB A id = false then -1 else (at_ A id.toNat).host
theorem Host_spec {k : Ctx} {w : World} {a : Nat} {A : List Node_one} {p : Option Addr} {c : Nat} {id : Int} (hn : 0 < A.length) (hg : Gs p A.length) (hO : Own k w [arB a p A.length c, arS p c A]) :
    Tri Try.prog 18 #[.pointer (some ⟨a, 0, none⟩), .int .i64 id] k w fun v m => v = .int .i64 (hostL A id) ∧ m = [arB a p A.length c, arS p c A] := by
  refine enter (args := [.pointer (some ⟨a, 0, none⟩), .int .i64 id]) Try.func18 rfl rfl ?_
  refine K0 (K1 ?_)
  refine l_y rfl rfl (y_assign rfl) ?_
  refine K2 (K3 (K0 (K0 (K1 ?_))))
  refine l_y rfl rfl (y_move rfl) ?_
  refine CK [.b a, .p p] hO rfl (fun k' hx hr hO' => none_spec (hO := hO')) ?_
  rintro _ _ w ⟨rfl, rfl⟩ hO
  simp only [List.cons_append, List.nil_append] at hO
  refine l_y rfl rfl (y_move rfl) ?_
  refine l_y rfl rfl (y_move rfl) ?_
  refine l_y rfl rfl (y_move rfl) ?_
  refine CK [.b a, .p p] hO rfl (fun k' hx hr hO' => has_spec (hO := hO')) ?_
  rintro _ _ w ⟨rfl, rfl⟩ hO
  simp only [List.cons_append, List.nil_append] at hO
  refine l_y rfl rfl (y_not rfl rfl) ?_
  refine l_y rfl rfl (y_pick_f rfl rfl) ?_
  refine K2 (K3 ?_)
  refine c_split rfl (fun hc12 => ?_) (fun hc12 => ?_)
  · simp only [Bool.not_eq_true', Bool.not_eq_false'] at hc12
    refine K0 (K1 ?_)
    refine l_y rfl rfl (y_assign rfl) ?_
    refine K2 (K3 (K6 (K9 ?_)))
    exact fin1 rfl rfl ⟨_, ⟨by simp [hostL, hc12], rfl⟩, hO⟩
  · simp only [Bool.not_eq_true', Bool.not_eq_false'] at hc12
    refine K5 (K3 (K0 ?_))
    have hid := hasB_true hc12
    refine K1 ?_
    refine l_y rfl rfl (y_move rfl) ?_
    refine l_y rfl rfl (y_nilCheck rfl rfl) ?_
    refine l_y rfl rfl (y_fldb (o' := 0) rfl) ?_
    refine l_y rfl rfl (D5 hO rfl) ?_
    refine l_y rfl rfl (y_move rfl) ?_
    refine l_y rfl rfl (y_idx rfl rfl) ?_
    refine l_y rfl rfl (y_fld (j' := 12) rfl) ?_
    refine l_y rfl rfl (y_e1 (x0 := 12) hO rfl) ?_
    refine l_y rfl rfl (y_assign rfl) ?_
    refine K2 (K3 (K6 ?_))
    exact fin1 rfl rfl ⟨_, ⟨by simp [hostL, hc12], rfl⟩, hO⟩
/-- a node of some kinds -/
theorem at_spec {k : Ctx} {w : World} {a : Nat} {A : List Node_one} {p : Option Addr} {c : Nat} {id : Int} {ks : List Int} {kp : Option Addr} {kc : Nat} (hn : 0 < A.length) (hg : Gs p A.length) (hk : Sli (Ro k) (.slice kp ks.length kc) (ks.map (eI .i64))) (hkl : ks.length ≤ 1000000) (hO : Own k w [arB a p A.length c, arS p c A]) :
    Tri Try.prog 37 #[.pointer (some ⟨a, 0, none⟩), .int .i64 id, .slice kp ks.length kc] k w fun v m =>
      ((hasB A id = false ∧ v = .tuple #[.pointer none, .int .i64 6]) ∨ (hasB A id = true ∧ (∀ x ∈ ks, (at_ A id.toNat).Node.Kind ≠ x) ∧ v = .tuple #[.pointer none, .int .i64 10]) ∨ (hasB A id = true ∧ (at_ A id.toNat).Node.Kind ∈ ks ∧ v = .tuple #[.pointer (some (adr p (id.toNat * 13 + 0))), .int .i64 0])) ∧ m = [arB a p A.length c, arS p c A] := by
  refine enter (args := [.pointer (some ⟨a, 0, none⟩), .int .i64 id, .slice kp ks.length kc]) Try.func37 rfl rfl ?_
  have hgk := sli_gs hk
  refine K0 (K1 ?_)
  refine l_y rfl rfl (y_assign rfl) ?_
  refine l_y rfl rfl (y_assign rfl) ?_
  refine K2 (K3 (K0 (K4 (K0 (K1 ?_)))))
  refine l_y rfl rfl (y_move rfl) ?_
  refine CK [.b a, .p p] hO rfl (fun k' hx hr hO' => none_spec (hO := hO')) ?_
  rintro _ _ w ⟨rfl, rfl⟩ hO
  simp only [List.cons_append, List.nil_append] at hO
  refine l_y rfl rfl (y_assign rfl) ?_
  refine K2 (K3 (L9 (K0 (K1 ?_))))
  refine l_y rfl rfl (y_move rfl) ?_
  refine l_y rfl rfl (y_move rfl) ?_
  refine CK [.b a, .p p] hO rfl (fun k' hx hr hO' => has_spec (hO := hO')) ?_
  rintro _ _ w ⟨rfl, rfl⟩ hO
  simp only [List.cons_append, List.nil_append] at hO
  refine l_y rfl rfl (y_not rfl rfl) ?_
  refine l_y rfl rfl (y_assign rfl) ?_
  refine K2 (K3 ?_)
  refine c_split rfl (fun hc13 => ?_) (fun hc13 => ?_)
  · simp only [Bool.not_eq_true', Bool.not_eq_false'] at hc13
    refine K0 (K1 ?_)
    refine l_y rfl rfl (y_assign rfl) ?_
    refine l_y rfl rfl (y_assign rfl) ?_
    refine K2 (K3 (K6 (L0 (K9 ?_))))
    exact fin2 rfl rfl rfl ⟨_, ⟨.inl ⟨hc13, rfl⟩, rfl⟩, hO⟩
  · simp only [Bool.not_eq_true', Bool.not_eq_false'] at hc13
    refine K5 (K8 (K3 (K0 (K0 ?_))))
    have hid := hasB_true hc13
    refine K1 ?_
    refine l_y rfl rfl (y_move rfl) ?_
    refine l_y rfl rfl (y_lenL rfl) ?_
    refine l_y rfl rfl (y_move rfl) ?_
    refine K2 (K3 (K4 ?_))
    refine c_rounds (X := Nat) (fun i => [(0, .pointer (some ⟨a, 0, none⟩)), (1, .int .i64 id), (6, .pointer none), (7, .int .i64 0), (18, .slice kp ks.length kc), (19, .int .i64 ((ks.length : Nat) : Int)), (20, .int .i64 (i : Int))]) (fun i w => Own k w [arB a p A.length c, arS p c A] ∧ (i ≤ ks.length) ∧ (∀ j, j < i → (at_ A id.toNat).Node.Kind ≠ at_ ks j)) (fun i => ks.length - i) (0) ⟨rfl, rfl, rfl, rfl, rfl, rfl, rfl, trivial⟩ ⟨hO.only [.b a, .p p], Nat.zero_le _, fun j hj => absurd hj (Nat.not_lt_zero j)⟩ ?_
    rintro i w m hm ⟨hO, hi, hj⟩
    refine K0 (K1 ?_)
    refine Z0 (fun h6_0 => ?_) (fun h6_0 => ?_)
    · refine K2 (K3 (K0 (L8 (K5 (K3 (K0 (K4 (K0 (K1 ?_)))))))))
      refine l_y rfl rfl (y_idx rfl rfl) ?_
      refine l_y rfl rfl (y_r1 (x0 := 0) (enc := (eI .i64)) (xs := ks) hO rfl) ?_
      refine l_y rfl rfl (y_assign rfl) ?_
      refine K2 (K3 (K0 (K1 ?_)))
      refine l_y rfl rfl (y_move rfl) ?_
      refine l_y rfl rfl (y_nilCheck rfl rfl) ?_
      refine l_y rfl rfl (y_fldb (o' := 0) rfl) ?_
      refine l_y rfl rfl (D5 hO rfl) ?_
      refine l_y rfl rfl (y_move rfl) ?_
      refine l_y rfl rfl (y_idx rfl rfl) ?_
      refine l_y rfl rfl (y_fld (j' := 0) rfl) ?_
      refine l_y rfl rfl (y_fld (j' := 0) rfl) ?_
      refine l_y rfl rfl (y_e1 (x0 := 0) hO rfl) ?_
      refine l_y rfl rfl (y_move rfl) ?_
      refine Z0 (fun h8_10 => ?_) (fun h8_10 => ?_)
      · refine K2 (K3 (L8 (K0 (K1 ?_))))
        refine l_y rfl rfl (y_move rfl) ?_
        refine l_y rfl rfl (y_nilCheck rfl rfl) ?_
        refine l_y rfl rfl (y_fldb (o' := 0) rfl) ?_
        refine l_y rfl rfl (D5 hO rfl) ?_
        refine l_y rfl rfl (y_move rfl) ?_
        refine l_y rfl rfl (y_idx rfl rfl) ?_
        refine l_y rfl rfl (y_assign rfl) ?_
        refine l_y rfl rfl (y_assign rfl) ?_
        refine K2 (K3 (K6 (L0 (K9 (K9 (L0 (K9 ?_)))))))
        exact fin2 rfl rfl rfl ⟨_, ⟨.inr (.inr ⟨hc13, by rw [h8_10]; exact at_mem (by omega), rfl⟩), rfl⟩, hO⟩
      · refine K2 (K3 (L9 (K5 (K8 (K3 (K1 ?_))))))
        refine l_y rfl rfl (D4) ?_
        refine l_y rfl rfl (y_move rfl) ?_
        refine K2 ?_
        exact q_next (i + 1) ⟨rfl, rfl, rfl, rfl, rfl, rfl, rfl, trivial⟩ ⟨hO.only [.b a, .p p], by omega, fun j hj' => (by by_cases e : j = i; (subst e; exact h8_10); exact hj j (by omega))⟩ (by omega)
    · refine K2 (K3 (K0 (L9 (K7 (L1 (L1 (L2 (K3 (K0 (K1 ?_))))))))))
      refine l_y rfl rfl (y_assign rfl) ?_
      refine l_y rfl rfl (y_assign rfl) ?_
      refine K2 (K3 (K6 ?_))
      exact fin2 rfl rfl rfl ⟨_, ⟨.inr (.inl ⟨hc13, fun x hx => (by obtain ⟨j, hj1, rfl⟩ := mem_at hx; exact hj j (by omega)), rfl⟩), rfl⟩, hO⟩
def setData (A : List Node_one) (i : Int) (s : ByteArray) : List Node_one := A.set i.toNat { at_ A i.toNat with Node := { (at_ A i.toNat).Node with Data := s } }
def setDataL (A : List Node_one) (id : Int) (s : ByteArray) : Int × List Node_one :=
  if hasB A id = false then (6, A) else if (at_ A id.toNat).Node.Kind ≠ 2 ∧ (at_ A id.toNat).Node.Kind ≠ 3 then (10, A) else if 1048576 < s.size then (2, A) else (0, setData A id s)
theorem SetData_spec {k : Ctx} {w : World} {a : Nat} {A : List Node_one} {p : Option Addr} {c : Nat} {id : Int} {s : ByteArray} (hn : 0 < A.length) (hg : Gs p A.length) (hO : Own k w [arB a p A.length c, arS p c A]) :
    Tri Try.prog 29 #[.pointer (some ⟨a, 0, none⟩), .int .i64 id, .string s] k w fun v m => v = .int .i64 (setDataL A id s).1 ∧ m = [arB a p A.length c, arS p c (setDataL A id s).2] := by
  refine enter (args := [.pointer (some ⟨a, 0, none⟩), .int .i64 id, .string s]) Try.func29 rfl rfl ?_
  refine K0 (K1 ?_)
  refine l_y rfl rfl (y_assign rfl) ?_
  refine K2 (K3 (K0 (K1 ?_)))
  refine l_y rfl rfl (y_move rfl) ?_
  refine l_y rfl rfl (y_move rfl) ?_
  refine s_lit (parts := [(0, .const (.int .i64 2)), (1, .const (.int .i64 3))]) (enc := (eI .i64)) [2, 3] [.int .i64 2, .int .i64 3] hO rfl (fun b12 w hO => ?_)
  refine CK [.b a, .p p] hO rfl (fun k' hx hr hO' => at_spec hn hg (sls_roK hr (sls_fct hO)) (by simp) (hO := hO')) ?_
  rintro _ _ w ⟨(⟨hat, rfl⟩ | ⟨hat, hat2, rfl⟩ | ⟨hat, hat2, rfl⟩), rfl⟩ hO
  · simp only [List.cons_append, List.nil_append] at hO
    refine l_y rfl rfl (y_move rfl) ?_
    refine l_y rfl rfl (y_extract rfl rfl) ?_
    refine l_y rfl rfl (y_extract rfl rfl) ?_
    refine l_y rfl rfl (y_assign rfl) ?_
    refine l_y rfl rfl (y_assign rfl) ?_
    refine K2 (K3 (K0 (K4 (K0 (K1 ?_)))))
    refine l_y rfl rfl (y_move rfl) ?_
    refine N5 ?_
    refine l_y rfl rfl (y_assign rfl) ?_
    refine K2 (K3 (L8 (K0 (K1 ?_))))
    refine l_y rfl rfl (y_move rfl) ?_
    refine l_y rfl rfl (y_assign rfl) ?_
    refine K2 (K3 (K6 (L0 (K9 ?_))))
    have e : setDataL A id s = (6, A) := by rw [setDataL, if_pos hat]
    exact fin1 rfl rfl ⟨_, ⟨by rw [e], by rw [e]⟩, hO.only [.b a, .p p]⟩
  · simp only [List.cons_append, List.nil_append] at hO
    refine l_y rfl rfl (y_move rfl) ?_
    refine l_y rfl rfl (y_extract rfl rfl) ?_
    refine l_y rfl rfl (y_extract rfl rfl) ?_
    refine l_y rfl rfl (y_assign rfl) ?_
    refine l_y rfl rfl (y_assign rfl) ?_
    refine K2 (K3 (K0 (K4 (K0 (K1 ?_)))))
    refine l_y rfl rfl (y_move rfl) ?_
    refine N5 ?_
    refine l_y rfl rfl (y_assign rfl) ?_
    refine K2 (K3 (L8 (K0 (K1 ?_))))
    refine l_y rfl rfl (y_move rfl) ?_
    refine l_y rfl rfl (y_assign rfl) ?_
    refine K2 (K3 (K6 (L0 (K9 ?_))))
    have e : setDataL A id s = (10, A) := by rw [setDataL, if_neg (by simp [hat]), if_pos (by simpa using hat2)]
    exact fin1 rfl rfl ⟨_, ⟨by rw [e], by rw [e]⟩, hO.only [.b a, .p p]⟩
  · simp only [List.cons_append, List.nil_append] at hO
    refine l_y rfl rfl (y_move rfl) ?_
    refine l_y rfl rfl (y_extract rfl rfl) ?_
    refine l_y rfl rfl (y_extract rfl rfl) ?_
    refine l_y rfl rfl (y_assign rfl) ?_
    refine l_y rfl rfl (y_assign rfl) ?_
    refine K2 (K3 (K0 (K4 (K0 (K1 ?_)))))
    refine l_y rfl rfl (y_move rfl) ?_
    refine N4 ?_
    refine l_y rfl rfl (y_assign rfl) ?_
    refine K2 (K3 (L9 (K0 (K1 ?_))))
    refine l_y rfl rfl (y_move rfl) ?_
    refine l_y rfl rfl (y_lenS rfl) ?_
    refine Z0 (fun h4_2 => ?_) (fun h4_2 => ?_)
    · refine l_y rfl rfl (y_assign rfl) ?_
      refine K2 (K3 (L8 (K0 (K1 ?_))))
      refine l_y rfl rfl (y_assign rfl) ?_
      refine K2 (K3 (K6 (L0 (K9 ?_))))
      have e : setDataL A id s = (2, A) := by rw [setDataL, if_neg (by simp [hat]), if_neg (by simp at hat2; omega), if_pos (by omega)]
      exact fin1 rfl rfl ⟨_, ⟨by rw [e], by rw [e]⟩, hO.only [.b a, .p p]⟩
    · refine l_y rfl rfl (y_assign rfl) ?_
      refine K2 (K3 (L9 (K5 (K8 (K3 (K0 ?_))))))
      have hid := hasB_true hat
      refine K1 ?_
      refine l_y rfl rfl (y_move rfl) ?_
      refine l_y rfl rfl (y_move rfl) ?_
      refine l_y rfl rfl (y_nilCheck rfl rfl) ?_
      refine l_y rfl rfl (y_fld (j' := 0) rfl) ?_
      refine l_y rfl rfl (y_fld (j' := 4) rfl) ?_
      refine s_e1 (x0 := 4) hO rfl rfl (fun w hO => ?_)
      refine K2 (K3 (K0 (K1 ?_)))
      refine l_y rfl rfl (y_assign rfl) ?_
      refine K2 (K3 (K6 ?_))
      have e : setDataL A id s = (0, setData A id s) := by rw [setDataL, if_neg (by simp [hat]), if_neg (by simp at hat2; omega), if_neg (by omega)]
      exact fin1 rfl rfl ⟨_, ⟨by rw [e], by rw [e]; rfl⟩, hO.only [.b a, .p p]⟩
def isA (space : Int) (name : ByteArray) (x : Api_attr) : Bool := decide (x.Space = space ∧ x.Name = name)
theorem find_spec {k : Ctx} {w : World} {A : List Node_one} {p : Option Addr} {c i : Nat} {space : Int} {name : ByteArray} (hi : i < A.length) (hga : Gs (at_ A i).Node.AttrsP (at_ A i).Node.Attrs.length) (hl : (at_ A i).Node.Attrs.length ≤ 1024) (hO : Own k w [arS p c A, atS (at_ A i)]) :
    Tri Try.prog 38 #[.pointer (some (adr p (i * 13 + 0))), .int .i64 space, .string name] k w fun v m => v = .int .i64 (idx (isA space name) (at_ A i).Node.Attrs) ∧ m = [arS p c A, atS (at_ A i)] := by
  refine enter (args := [.pointer (some (adr p (i * 13 + 0))), .int .i64 space, .string name]) Try.func38 rfl rfl ?_
  refine K0 (K1 ?_)
  refine l_y rfl rfl (y_assign rfl) ?_
  refine K2 (K3 (K0 (K0 (K1 ?_))))
  refine l_y rfl rfl (y_move rfl) ?_
  refine l_y rfl rfl (y_nilCheck rfl rfl) ?_
  refine l_y rfl rfl (y_fld (j' := 0) rfl) ?_
  refine l_y rfl rfl (y_fld (j' := 3) rfl) ?_
  refine l_y rfl rfl (y_e1 (x0 := 3) hO rfl) ?_
  refine l_y rfl rfl (y_lenL rfl) ?_
  refine l_y rfl rfl (y_move rfl) ?_
  refine K2 (K3 (K4 ?_))
  refine c_rounds (X := Nat) (fun j => [(1, .int .i64 space), (2, .string name), (6, .int .i64 0), (13, .slice (at_ A i).Node.AttrsP (at_ A i).Node.Attrs.length (at_ A i).Node.AttrsC), (14, .int .i64 (((at_ A i).Node.Attrs.length : Nat) : Int)), (15, .int .i64 (j : Int))]) (fun j w => Own k w [arS p c A, sls (at_ A i).Node.AttrsP (at_ A i).Node.AttrsC 24 4 Api_attr.cells (at_ A i).Node.Attrs] ∧ (j ≤ (at_ A i).Node.Attrs.length) ∧ (∀ q, q < j → isA space name (at_ (at_ A i).Node.Attrs q) = false)) (fun j => (at_ A i).Node.Attrs.length - j) (0) ⟨rfl, rfl, rfl, rfl, rfl, rfl, trivial⟩ ⟨hO.only [.p p, .p (at_ A i).Node.AttrsP], Nat.zero_le _, fun q hq => absurd hq (Nat.not_lt_zero q)⟩ ?_
  rintro j w m hm ⟨hO, hj, hn⟩
  refine K0 (K1 ?_)
  refine Z0 (fun h2_0 => ?_) (fun h2_0 => ?_)
  · refine K2 (K3 (K0 (L8 (K5 (K3 (K0 (K4 (K0 (K1 ?_)))))))))
    refine l_y rfl rfl (y_move rfl) ?_
    refine l_y rfl rfl (y_idx rfl rfl) ?_
    refine l_y rfl rfl (y_eA (x0 := 0) (cs := [.int .i64 (at_ (at_ A i).Node.Attrs ((j : Int) : Int).toNat).Space, .string (at_ (at_ A i).Node.Attrs ((j : Int) : Int).toNat).Prefix, .string (at_ (at_ A i).Node.Attrs ((j : Int) : Int).toNat).Name, .string (at_ (at_ A i).Node.Attrs ((j : Int) : Int).toNat).Value]) hO rfl) ?_
    refine s_alloc (vs := [.int .i64 0, .string ⟨#[]⟩, .string ⟨#[]⟩, .string ⟨#[]⟩]) hO rfl rfl rfl fun b8 w hO => ?_
    refine l_y rfl rfl (y_assign rfl) ?_
    refine Y3 hO rfl rfl (fun w hO => ?_)
    refine K2 (K3 (K0 (K1 ?_)))
    refine l_y rfl rfl (y_fldb (o' := 0) rfl) ?_
    refine l_y rfl rfl (D5 hO rfl) ?_
    refine l_y rfl rfl (y_move rfl) ?_
    refine Z0 (fun h4_3 => ?_) (fun h4_3 => ?_)
    · refine l_y rfl rfl (y_move rfl) ?_
      refine l_y rfl rfl (y_fldb (o' := 2) rfl) ?_
      refine l_y rfl rfl (D5 hO rfl) ?_
      refine l_y rfl rfl (y_move rfl) ?_
      refine Z2 (fun h4_8 => ?_) (fun h4_8 => ?_)
      · refine l_y rfl rfl (y_pick_t rfl rfl) ?_
        refine K2 (K3 (L8 (K0 (K1 ?_))))
        refine l_y rfl rfl (y_move rfl) ?_
        refine l_y rfl rfl (y_assign rfl) ?_
        refine K2 (K3 (K6 (L0 (K9 (K9 (L0 (K9 ?_)))))))
        rw [idx_at (i := j) (by omega) (by simp [isA]; exact ⟨h4_3, h4_8⟩) hn]
        exact fin1 rfl rfl ⟨_, ⟨rfl, rfl⟩, hO.only [.p p, .p (at_ A i).Node.AttrsP]⟩
      · refine l_y rfl rfl (y_pick_t rfl rfl) ?_
        refine K2 (K3 (L9 (K5 (K8 (K3 (K1 ?_))))))
        refine l_y rfl rfl (D4) ?_
        refine l_y rfl rfl (y_move rfl) ?_
        refine K2 ?_
        exact q_next (j + 1) ⟨rfl, rfl, rfl, rfl, rfl, rfl, trivial⟩ ⟨hO.only [.p p, .p (at_ A i).Node.AttrsP], by omega, fun q hq => (by by_cases e : q = j; (subst e; simp only [isA, decide_eq_false_iff_not]; intro h; simp_all); exact hn q (by omega))⟩ (by omega)
    · refine l_y rfl rfl (y_move rfl) ?_
      repeat refine M2 ?_
      refine l_y rfl rfl (y_pick_f rfl rfl) ?_
      refine K2 (K3 (L9 (K5 (K8 (K3 (K1 ?_))))))
      refine l_y rfl rfl (D4) ?_
      refine l_y rfl rfl (y_move rfl) ?_
      refine K2 ?_
      exact q_next (j + 1) ⟨rfl, rfl, rfl, rfl, rfl, rfl, trivial⟩ ⟨hO.only [.p p, .p (at_ A i).Node.AttrsP], by omega, fun q hq => (by by_cases e : q = j; (subst e; simp only [isA, decide_eq_false_iff_not]; intro h; simp_all); exact hn q (by omega))⟩ (by omega)
  · refine K2 (K3 (K0 (L9 (K7 (L1 (L1 (L2 (K3 (K0 (K1 ?_))))))))))
    refine l_y rfl rfl (y_assign rfl) ?_
    refine K2 (K3 (K6 ?_))
    rw [idx_none (fun q hq => hn q (by omega))]
    exact fin1 rfl rfl ⟨_, ⟨rfl, rfl⟩, hO.only [.p p, .p (at_ A i).Node.AttrsP]⟩
def AttrsOk (A : List Node_one) : Prop := ∀ i, i < A.length → (at_ A i).Node.Attrs.length ≤ 1024
def setAttrs (o : Node_one) (p : Option Addr) (l : List Api_attr) (c : Nat) : Node_one := { o with Node := { o.Node with AttrsP := p, Attrs := l, AttrsC := c } }
def longX (x : Api_attr) : Bool := decide (1048576 < x.Prefix.size) || decide (1048576 < x.Name.size) || decide (1048576 < x.Value.size)
/-- what SetAttr answers, and the attributes then -/
def setAttrV (A : List Node_one) (id : Int) (x : Api_attr) : Int × List Api_attr :=
  if hasB A id = false then (6, (at_ A id.toNat).Node.Attrs) else if (at_ A id.toNat).Node.Kind ≠ 1 then (10, (at_ A id.toNat).Node.Attrs)
  else if longX x = true then (2, (at_ A id.toNat).Node.Attrs)
  else if 0 ≤ idx (isA x.Space x.Name) (at_ A id.toNat).Node.Attrs then (0, (at_ A id.toNat).Node.Attrs.set (idx (isA x.Space x.Name) (at_ A id.toNat).Node.Attrs).toNat { at_ (at_ A id.toNat).Node.Attrs (idx (isA x.Space x.Name) (at_ A id.toNat).Node.Attrs).toNat with Value := x.Value })
  else if (at_ A id.toNat).Node.Attrs.length = 1024 then (2, (at_ A id.toNat).Node.Attrs) else (0, (at_ A id.toNat).Node.Attrs ++ [x])
theorem idx_lt {p : Api_attr → Bool} {xs : List Api_attr} : idx p xs < xs.length := by
  rcases idx_cases p xs with ⟨h, _⟩ | ⟨i, h, h2, _⟩ <;> omega
theorem cells_attrs {o : Node_one} {l : List Api_attr} (h : l.length = o.Node.Attrs.length) : Node_one.cells (setAttrs o o.Node.AttrsP l o.Node.AttrsC) = Node_one.cells o := by
  simp only [Node_one.cells, Api_node.cells, setAttrs, h]
set_option maxHeartbeats 2000000 in
theorem SetAttr_spec {k : Ctx} {w : World} {a : Nat} {A : List Node_one} {p : Option Addr} {c : Nat} {id : Int} {x : Api_attr} (hn : 0 < A.length) (hg : Gs p A.length) (ha : AttrsOk A) (hO : Own k w [arB a p A.length c, arS p c A, sep (A.map attrsP)]) :
    Tri Try.prog 14 #[.pointer (some ⟨a, 0, none⟩), .int .i64 id, .agg (Api_attr.cells x).toArray] k w fun v m => v = .int .i64 (setAttrV A id x).1 ∧ ∃ A', m = [arB a p A.length c, arS p c A', sep (A'.map attrsP)] ∧ ((hasB A id = false ∧ A' = A) ∨ (hasB A id = true ∧ ∃ q d, A' = A.set id.toNat (setAttrs (at_ A id.toNat) q (setAttrV A id x).2 d))) := by
  refine enter (args := [.pointer (some ⟨a, 0, none⟩), .int .i64 id, .agg (Api_attr.cells x).toArray]) Try.func14 rfl rfl ?_
  refine K0 (K1 ?_)
  refine s_box (vs := [.int .i64 x.Space, .string x.Prefix, .string x.Name, .string x.Value]) hO rfl rfl rfl (by rfl) fun b5 w hO => ?_
  refine l_y rfl rfl (y_assign rfl) ?_
  refine K2 (K3 (K0 (K1 ?_)))
  refine l_y rfl rfl (y_move rfl) ?_
  refine l_y rfl rfl (y_move rfl) ?_
  refine s_lit (parts := [(0, .const (.int .i64 1))]) (enc := (eI .i64)) [1] [.int .i64 1] hO rfl (fun b13 w hO => ?_)
  refine CK [.b a, .p p] hO rfl (fun k' hx hr hO' => at_spec hn hg (sls_roK hr (sls_fct hO)) (by simp) (hO := hO')) ?_
  rintro _ _ w ⟨(⟨hat, rfl⟩ | ⟨hat, hat2, rfl⟩ | ⟨hat, hat2, rfl⟩), rfl⟩ hO
  · simp only [List.cons_append, List.nil_append] at hO
    refine l_y rfl rfl (y_move rfl) ?_
    refine l_y rfl rfl (y_extract rfl rfl) ?_
    refine l_y rfl rfl (y_extract rfl rfl) ?_
    refine l_y rfl rfl (y_assign rfl) ?_
    refine l_y rfl rfl (y_assign rfl) ?_
    refine K2 (K3 (K0 (K0 (K1 ?_))))
    refine l_y rfl rfl (y_move rfl) ?_
    refine N5 ?_
    refine K2 (K3 (L8 (K0 (K1 ?_))))
    refine l_y rfl rfl (y_move rfl) ?_
    refine l_y rfl rfl (y_assign rfl) ?_
    refine K2 (K3 (K6 (K9 ?_)))
    have e : setAttrV A id x = (6, (at_ A id.toNat).Node.Attrs) := by rw [setAttrV, if_pos hat]
    exact fin1 rfl rfl ⟨_, ⟨by rw [e], A, rfl, .inl ⟨hat, rfl⟩⟩, hO.only [.b a, .p p, .s]⟩
  · simp only [List.cons_append, List.nil_append] at hO
    refine l_y rfl rfl (y_move rfl) ?_
    refine l_y rfl rfl (y_extract rfl rfl) ?_
    refine l_y rfl rfl (y_extract rfl rfl) ?_
    refine l_y rfl rfl (y_assign rfl) ?_
    refine l_y rfl rfl (y_assign rfl) ?_
    refine K2 (K3 (K0 (K0 (K1 ?_))))
    refine l_y rfl rfl (y_move rfl) ?_
    refine N5 ?_
    refine K2 (K3 (L8 (K0 (K1 ?_))))
    refine l_y rfl rfl (y_move rfl) ?_
    refine l_y rfl rfl (y_assign rfl) ?_
    refine K2 (K3 (K6 (K9 ?_)))
    have e : setAttrV A id x = (10, (at_ A id.toNat).Node.Attrs) := by rw [setAttrV, if_neg (by simp [hat]), if_pos (by simpa using hat2)]
    have hid := hasB_true hat
    exact fin1 rfl rfl ⟨_, ⟨by rw [e], A, rfl, .inr ⟨hat, (at_ A id.toNat).Node.AttrsP, (at_ A id.toNat).Node.AttrsC, by rw [e]; exact (set_at (by omega)).symm⟩⟩, hO.only [.b a, .p p, .s]⟩
  · simp only [List.cons_append, List.nil_append] at hO
    refine l_y rfl rfl (y_move rfl) ?_
    refine l_y rfl rfl (y_extract rfl rfl) ?_
    refine l_y rfl rfl (y_extract rfl rfl) ?_
    refine l_y rfl rfl (y_assign rfl) ?_
    refine l_y rfl rfl (y_assign rfl) ?_
    refine K2 (K3 (K0 (K0 (K1 ?_))))
    refine l_y rfl rfl (y_move rfl) ?_
    refine N4 ?_
    refine K2 (K3 (L9 (K5 (K3 (K0 ?_)))))
    have hid := hasB_true hat
    have hk : (at_ A id.toNat).Node.Kind = 1 := by simpa using hat2
    have hli := ha id.toNat (by omega)
    have hO := arena_pick (i := id.toNat) (by omega) (hO.ks [.s, .b a, .p p, .b b5])
    have hga := (sls_fct (p := (at_ A id.toNat).Node.AttrsP) hO).2
    have hix := idx_lt (p := isA x.Space x.Name) (xs := (at_ A id.toNat).Node.Attrs)
    refine K1 ?_
    refine l_y rfl rfl (y_move rfl) ?_
    refine l_y rfl rfl (y_fldb (o' := 0) rfl) ?_
    refine l_y rfl rfl (D5 hO rfl) ?_
    refine l_y rfl rfl (y_fldb (o' := 2) rfl) ?_
    refine l_y rfl rfl (D5 hO rfl) ?_
    refine CK [.p p, .p (at_ A id.toNat).Node.AttrsP] hO rfl (fun k' hx hr hO' => find_spec (by omega) hga (by omega) (hO := hO')) ?_
    rintro _ _ w ⟨rfl, rfl⟩ hO
    simp only [List.cons_append, List.nil_append] at hO
    refine l_y rfl rfl (y_assign rfl) ?_
    refine K2 (K3 (K0 (K4 (K0 (K1 ?_)))))
    refine l_y rfl rfl (y_fldb (o' := 1) rfl) ?_
    refine l_y rfl rfl (D5 hO rfl) ?_
    refine l_y rfl rfl (y_lenS rfl) ?_
    refine Z0 (fun h6_3 => ?_) (fun h6_3 => ?_)
    · refine l_y rfl rfl (y_move rfl) ?_
      repeat refine M2 ?_
      refine l_y rfl rfl (y_pick_t rfl rfl) ?_
      refine l_y rfl rfl (y_move rfl) ?_
      repeat refine M2 ?_
      refine l_y rfl rfl (y_pick_t rfl rfl) ?_
      refine l_y rfl rfl (y_assign rfl) ?_
      refine K2 (K3 (L8 (K0 (K1 ?_))))
      refine l_y rfl rfl (y_assign rfl) ?_
      refine K2 (K3 (K6 (L0 (K9 ?_))))
      have e : setAttrV A id x = (2, (at_ A id.toNat).Node.Attrs) := by rw [setAttrV, if_neg (by simp [hat]), if_neg (by simp [hk]), if_pos (by simp [longX]; omega)]
      have hO := arena_put (y := at_ A id.toNat) (by omega) (hO.ks [.p (at_ A id.toNat).Node.AttrsP, .s])
      rw [set_at (by omega)] at hO
      exact fin1 rfl rfl ⟨_, ⟨by rw [e], A, rfl, .inr ⟨hat, (at_ A id.toNat).Node.AttrsP, (at_ A id.toNat).Node.AttrsC, by rw [e]; exact (set_at (by omega)).symm⟩⟩, hO.only [.b a, .p p, .s]⟩
    · refine l_y rfl rfl (y_move rfl) ?_
      refine l_y rfl rfl (y_fldb (o' := 2) rfl) ?_
      refine l_y rfl rfl (D5 hO rfl) ?_
      refine l_y rfl rfl (y_lenS rfl) ?_
      refine Z0 (fun h6_8 => ?_) (fun h6_8 => ?_)
      · refine l_y rfl rfl (y_pick_f rfl rfl) ?_
        refine l_y rfl rfl (y_move rfl) ?_
        repeat refine M2 ?_
        refine l_y rfl rfl (y_pick_t rfl rfl) ?_
        refine l_y rfl rfl (y_assign rfl) ?_
        refine K2 (K3 (L8 (K0 (K1 ?_))))
        refine l_y rfl rfl (y_assign rfl) ?_
        refine K2 (K3 (K6 (L0 (K9 ?_))))
        have e : setAttrV A id x = (2, (at_ A id.toNat).Node.Attrs) := by rw [setAttrV, if_neg (by simp [hat]), if_neg (by simp [hk]), if_pos (by simp [longX]; omega)]
        have hO := arena_put (y := at_ A id.toNat) (by omega) (hO.ks [.p (at_ A id.toNat).Node.AttrsP, .s])
        rw [set_at (by omega)] at hO
        exact fin1 rfl rfl ⟨_, ⟨by rw [e], A, rfl, .inr ⟨hat, (at_ A id.toNat).Node.AttrsP, (at_ A id.toNat).Node.AttrsC, by rw [e]; exact (set_at (by omega)).symm⟩⟩, hO.only [.b a, .p p, .s]⟩
      · refine l_y rfl rfl (y_pick_f rfl rfl) ?_
        refine l_y rfl rfl (y_move rfl) ?_
        refine l_y rfl rfl (y_fldb (o' := 3) rfl) ?_
        refine l_y rfl rfl (D5 hO rfl) ?_
        refine l_y rfl rfl (y_lenS rfl) ?_
        refine Z0 (fun h6_14 => ?_) (fun h6_14 => ?_)
        · refine l_y rfl rfl (y_pick_f rfl rfl) ?_
          refine l_y rfl rfl (y_assign rfl) ?_
          refine K2 (K3 (L8 (K0 (K1 ?_))))
          refine l_y rfl rfl (y_assign rfl) ?_
          refine K2 (K3 (K6 (L0 (K9 ?_))))
          have e : setAttrV A id x = (2, (at_ A id.toNat).Node.Attrs) := by rw [setAttrV, if_neg (by simp [hat]), if_neg (by simp [hk]), if_pos (by simp [longX]; omega)]
          have hO := arena_put (y := at_ A id.toNat) (by omega) (hO.ks [.p (at_ A id.toNat).Node.AttrsP, .s])
          rw [set_at (by omega)] at hO
          exact fin1 rfl rfl ⟨_, ⟨by rw [e], A, rfl, .inr ⟨hat, (at_ A id.toNat).Node.AttrsP, (at_ A id.toNat).Node.AttrsC, by rw [e]; exact (set_at (by omega)).symm⟩⟩, hO.only [.b a, .p p, .s]⟩
        · refine l_y rfl rfl (y_pick_f rfl rfl) ?_
          refine l_y rfl rfl (y_assign rfl) ?_
          refine K2 (K3 (L9 (K0 (K1 ?_))))
          refine l_y rfl rfl (y_move rfl) ?_
          refine Z0 (fun h8_1 => ?_) (fun h8_1 => ?_)
          · refine l_y rfl rfl (y_assign rfl) ?_
            refine K2 (K3 (L8 ?_))
            refine da_region (by intro c a d v w h; cases d <;> exact h) ?_
            have hO := hO.drew
            refine da_phase _ [10] (SO.ks [.p p, .b b5] hO) ?_
            refine dx_u 0 (by kernel_rfl) rfl rfl rfl (fun w => y_move rfl) ?_
            refine dx_u 1 (by kernel_rfl) rfl rfl rfl (fun w => y_nilCheck rfl rfl) ?_
            refine dx_u 2 (by kernel_rfl) rfl rfl rfl (fun w => y_fld (j' := 0) rfl) ?_
            refine dx_u 3 (by kernel_rfl) rfl rfl rfl (fun w => y_fld (j' := 3) rfl) ?_
            refine dx_y 4 (by kernel_rfl) rfl rfl rfl (fun w ⟨m, hw⟩ => y_e1 (x0 := 3) hw rfl) ?_
            refine dx_u 5 (by kernel_rfl) rfl rfl rfl (fun w => y_move rfl) ?_
            refine dx_u 6 (by kernel_rfl) rfl rfl rfl (fun w => y_fldb (o' := 3) rfl) ?_
            refine dx_y 7 (by kernel_rfl) rfl rfl rfl (fun w ⟨m, hw⟩ => D5 hw rfl) ?_
            refine dx_u 8 (by kernel_rfl) rfl rfl rfl (fun w => y_idx rfl rfl) ?_
            refine dx_u 9 (by kernel_rfl) rfl rfl rfl (fun w => y_fld (j' := 3) rfl) ?_
            refine dx_close 10 (by kernel_rfl) rfl rfl ?_
            refine s_e1 (x0 := 3) hO rfl rfl (fun w hO => ?_)
            refine o_done ?_
            refine da_end (by kernel_rfl) ?_
            refine K8 (K3 (K0 ?_))
            skip
            refine K1 ?_
            refine l_y rfl rfl (y_assign rfl) ?_
            refine K2 (K3 (K6 ?_))
            have e : setAttrV A id x = (0, (at_ A id.toNat).Node.Attrs.set (idx (isA x.Space x.Name) (at_ A id.toNat).Node.Attrs).toNat { at_ (at_ A id.toNat).Node.Attrs (idx (isA x.Space x.Name) (at_ A id.toNat).Node.Attrs).toNat with Value := x.Value }) := by
              rw [setAttrV, if_neg (by simp [hat]), if_neg (by simp [hk]), if_neg (by simp [longX]; omega), if_pos (by omega)]
            have hO := hO.ks [.p (at_ A id.toNat).Node.AttrsP, .s]
            have hO := arena_put (A := A) (i := id.toNat) (y := setAttrs (at_ A id.toNat) (at_ A id.toNat).Node.AttrsP (setAttrV A id x).2 (at_ A id.toNat).Node.AttrsC) (by omega) (by rw [e]; exact hO)
            have hO := hO.ks [.p p]
            have es : arS p c A = arS p c (A.set id.toNat (setAttrs (at_ A id.toNat) (at_ A id.toNat).Node.AttrsP (setAttrV A id x).2 (at_ A id.toNat).Node.AttrsC)) := sls_same (map_set_same' (cells_attrs (by rw [e]; simp))).symm
            have hO : Own k w (arS p c A :: _) := hO
            rw [es] at hO
            exact fin1 rfl rfl ⟨_, ⟨by rw [e], _, rfl, .inr ⟨hat, _, _, rfl⟩⟩, hO.only [.b a, .p p, .s]⟩
          · refine l_y rfl rfl (y_assign rfl) ?_
            refine K2 (K3 (L9 (K0 (K1 ?_))))
            refine l_y rfl rfl (y_move rfl) ?_
            refine l_y rfl rfl (y_nilCheck rfl rfl) ?_
            refine l_y rfl rfl (y_fld (j' := 0) rfl) ?_
            refine l_y rfl rfl (y_fld (j' := 3) rfl) ?_
            refine l_y rfl rfl (y_e1 (x0 := 3) hO rfl) ?_
            refine l_y rfl rfl (y_lenL rfl) ?_
            refine Z0 (fun h10_6 => ?_) (fun h10_6 => ?_)
            · refine l_y rfl rfl (y_assign rfl) ?_
              refine K2 (K3 (L8 (K0 (K1 ?_))))
              refine l_y rfl rfl (y_assign rfl) ?_
              refine K2 (K3 (K6 (L0 (K9 ?_))))
              have e : setAttrV A id x = (2, (at_ A id.toNat).Node.Attrs) := by rw [setAttrV, if_neg (by simp [hat]), if_neg (by simp [hk]), if_neg (by simp [longX]; omega), if_neg h8_1, if_pos (by omega)]
              have hO := arena_put (y := at_ A id.toNat) (by omega) (hO.ks [.p (at_ A id.toNat).Node.AttrsP, .s])
              rw [set_at (by omega)] at hO
              exact fin1 rfl rfl ⟨_, ⟨by rw [e], A, rfl, .inr ⟨hat, (at_ A id.toNat).Node.AttrsP, (at_ A id.toNat).Node.AttrsC, by rw [e]; exact (set_at (by omega)).symm⟩⟩, hO.only [.b a, .p p, .s]⟩
            · refine l_y rfl rfl (y_assign rfl) ?_
              refine K2 (K3 (L9 ?_))
              refine da_region (by intro c a d v w h; cases d <;> exact h) ?_
              have hO := hO.drew
              refine da_phase _ [8] (SO.ks [.p p, .b b5] hO) ?_
              refine dx_u 0 (by kernel_rfl) rfl rfl rfl (fun w => y_move rfl) ?_
              refine dx_u 1 (by kernel_rfl) rfl rfl rfl (fun w => y_move rfl) ?_
              refine dx_u 2 (by kernel_rfl) rfl rfl rfl (fun w => y_nilCheck rfl rfl) ?_
              refine dx_u 3 (by kernel_rfl) rfl rfl rfl (fun w => y_fld (j' := 0) rfl) ?_
              refine dx_u 4 (by kernel_rfl) rfl rfl rfl (fun w => y_fld (j' := 3) rfl) ?_
              refine dx_y 5 (by kernel_rfl) rfl rfl rfl (fun w ⟨m, hw⟩ => y_e1 (x0 := 3) hw rfl) ?_
              refine dx_y 6 (by kernel_rfl) rfl rfl rfl (fun w ⟨m, hw⟩ => D8 (cs := [.int .i64 x.Space, .string x.Prefix, .string x.Name, .string x.Value]) hw rfl) ?_
              refine dx_only 7 (by kernel_rfl) rfl rfl ?_
              refine s_lit (parts := [(0, .tmp 32)]) (enc := Api_attr.cells) [x] [.agg [.int .i64 x.Space, .string x.Prefix, .string x.Name, .string x.Value].toArray] hO rfl (fun b33 w hO => ?_)
              refine o_done ?_
              refine ⟨SO.ks [.p p, .b b5] hO, ?_⟩
              refine dx_close 8 (by kernel_rfl) rfl rfl ?_
              refine s_app hO rfl rfl (src_own hO) (fun p34 c34 w hO gs34 => ?_)
              refine o_done ?_
              refine da_phase _ [12] (SO.ks [] hO) ?_
              refine dx_u 9 (by kernel_rfl) rfl rfl rfl (fun w => y_nilCheck rfl rfl) ?_
              refine dx_u 10 (by kernel_rfl) rfl rfl rfl (fun w => y_fld (j' := 0) rfl) ?_
              refine dx_u 11 (by kernel_rfl) rfl rfl rfl (fun w => y_fld (j' := 3) rfl) ?_
              refine dx_close 12 (by kernel_rfl) rfl rfl ?_
              refine s_e1 (x0 := 3) hO rfl rfl (fun w hO => ?_)
              refine o_done ?_
              refine da_end (by kernel_rfl) ?_
              refine K8 (K3 (K0 ?_))
              skip
              refine K1 ?_
              refine l_y rfl rfl (y_assign rfl) ?_
              refine K2 (K3 (K6 ?_))
              have e : setAttrV A id x = (0, (at_ A id.toNat).Node.Attrs ++ [x]) := by
                rw [setAttrV, if_neg (by simp [hat]), if_neg (by simp [hk]), if_neg (by simp [longX]; omega), if_neg h8_1, if_neg (by omega)]
              have hO := hO.ks [.p p34, .s]
              have hO := arena_put (A := A) (i := id.toNat) (y := setAttrs (at_ A id.toNat) p34 (setAttrV A id x).2 c34) (by omega) (by rw [e]; exact hO)
              have hO := hO.ks [.p p]
              have hO : Own k w (arS p c (A.set id.toNat (setAttrs (at_ A id.toNat) p34 ((at_ A id.toNat).Node.Attrs ++ [x]) c34)) :: _) := hO
              rw [← show (setAttrV A id x).2 = (at_ A id.toNat).Node.Attrs ++ [x] by rw [e]] at hO
              exact fin1 rfl rfl ⟨_, ⟨by rw [e], _, rfl, .inr ⟨hat, _, _, rfl⟩⟩, hO.only [.b a, .p p, .s]⟩
def delAttrV (A : List Node_one) (id space : Int) (name : ByteArray) : Int × List Api_attr :=
  if hasB A id = false then (6, (at_ A id.toNat).Node.Attrs) else if (at_ A id.toNat).Node.Kind ≠ 1 then (10, (at_ A id.toNat).Node.Attrs)
  else if idx (isA space name) (at_ A id.toNat).Node.Attrs < 0 then (1, (at_ A id.toNat).Node.Attrs)
  else (0, (at_ A id.toNat).Node.Attrs.eraseIdx (idx (isA space name) (at_ A id.toNat).Node.Attrs).toNat)
set_option maxHeartbeats 2000000 in
theorem DelAttr_spec {k : Ctx} {w : World} {a : Nat} {A : List Node_one} {p : Option Addr} {c : Nat} {id space : Int} {name : ByteArray} (hn : 0 < A.length) (hg : Gs p A.length) (ha : AttrsOk A) (hO : Own k w [arB a p A.length c, arS p c A, sep (A.map attrsP)]) :
    Tri Try.prog 16 #[.pointer (some ⟨a, 0, none⟩), .int .i64 id, .int .i64 space, .string name] k w fun v m => v = .int .i64 (delAttrV A id space name).1 ∧ ∃ A', m = [arB a p A.length c, arS p c A', sep (A'.map attrsP)] ∧ ((hasB A id = false ∧ A' = A) ∨ (hasB A id = true ∧ ∃ q d, A' = A.set id.toNat (setAttrs (at_ A id.toNat) q (delAttrV A id space name).2 d))) := by
  refine enter (args := [.pointer (some ⟨a, 0, none⟩), .int .i64 id, .int .i64 space, .string name]) Try.func16 rfl rfl ?_
  refine K0 (K1 ?_)
  refine l_y rfl rfl (y_assign rfl) ?_
  refine K2 (K3 (K0 (K1 ?_)))
  refine l_y rfl rfl (y_move rfl) ?_
  refine l_y rfl rfl (y_move rfl) ?_
  refine s_lit (parts := [(0, .const (.int .i64 1))]) (enc := (eI .i64)) [1] [.int .i64 1] hO rfl (fun b15 w hO => ?_)
  refine CK [.b a, .p p] hO rfl (fun k' hx hr hO' => at_spec hn hg (sls_roK hr (sls_fct hO)) (by simp) (hO := hO')) ?_
  rintro _ _ w ⟨(⟨hat, rfl⟩ | ⟨hat, hat2, rfl⟩ | ⟨hat, hat2, rfl⟩), rfl⟩ hO
  · simp only [List.cons_append, List.nil_append] at hO
    refine l_y rfl rfl (y_move rfl) ?_
    refine l_y rfl rfl (y_extract rfl rfl) ?_
    refine l_y rfl rfl (y_extract rfl rfl) ?_
    refine l_y rfl rfl (y_assign rfl) ?_
    refine l_y rfl rfl (y_assign rfl) ?_
    refine K2 (K3 (K0 (K0 (K1 ?_))))
    refine l_y rfl rfl (y_move rfl) ?_
    refine N5 ?_
    refine K2 (K3 (L8 (K0 (K1 ?_))))
    refine l_y rfl rfl (y_move rfl) ?_
    refine l_y rfl rfl (y_assign rfl) ?_
    refine K2 (K3 (K6 (K9 ?_)))
    have e : delAttrV A id space name = (6, (at_ A id.toNat).Node.Attrs) := by rw [delAttrV, if_pos hat]
    exact fin1 rfl rfl ⟨_, ⟨by rw [e], A, rfl, .inl ⟨hat, rfl⟩⟩, hO.only [.b a, .p p, .s]⟩
  · simp only [List.cons_append, List.nil_append] at hO
    refine l_y rfl rfl (y_move rfl) ?_
    refine l_y rfl rfl (y_extract rfl rfl) ?_
    refine l_y rfl rfl (y_extract rfl rfl) ?_
    refine l_y rfl rfl (y_assign rfl) ?_
    refine l_y rfl rfl (y_assign rfl) ?_
    refine K2 (K3 (K0 (K0 (K1 ?_))))
    refine l_y rfl rfl (y_move rfl) ?_
    refine N5 ?_
    refine K2 (K3 (L8 (K0 (K1 ?_))))
    refine l_y rfl rfl (y_move rfl) ?_
    refine l_y rfl rfl (y_assign rfl) ?_
    refine K2 (K3 (K6 (K9 ?_)))
    have e : delAttrV A id space name = (10, (at_ A id.toNat).Node.Attrs) := by rw [delAttrV, if_neg (by simp [hat]), if_pos (by simpa using hat2)]
    have hid := hasB_true hat
    exact fin1 rfl rfl ⟨_, ⟨by rw [e], A, rfl, .inr ⟨hat, (at_ A id.toNat).Node.AttrsP, (at_ A id.toNat).Node.AttrsC, by rw [e]; exact (set_at (by omega)).symm⟩⟩, hO.only [.b a, .p p, .s]⟩
  · simp only [List.cons_append, List.nil_append] at hO
    refine l_y rfl rfl (y_move rfl) ?_
    refine l_y rfl rfl (y_extract rfl rfl) ?_
    refine l_y rfl rfl (y_extract rfl rfl) ?_
    refine l_y rfl rfl (y_assign rfl) ?_
    refine l_y rfl rfl (y_assign rfl) ?_
    refine K2 (K3 (K0 (K0 (K1 ?_))))
    refine l_y rfl rfl (y_move rfl) ?_
    refine N4 ?_
    refine K2 (K3 (L9 (K5 (K3 (K0 ?_)))))
    have hid := hasB_true hat
    have hk : (at_ A id.toNat).Node.Kind = 1 := by simpa using hat2
    have hli := ha id.toNat (by omega)
    have hO := arena_pick (i := id.toNat) (by omega) (hO.ks [.s, .b a, .p p])
    have hga := (sls_fct (p := (at_ A id.toNat).Node.AttrsP) hO).2
    have hix := idx_lt (p := isA space name) (xs := (at_ A id.toNat).Node.Attrs)
    refine K1 ?_
    refine l_y rfl rfl (y_move rfl) ?_
    refine l_y rfl rfl (y_move rfl) ?_
    refine l_y rfl rfl (y_move rfl) ?_
    refine CK [.p p, .p (at_ A id.toNat).Node.AttrsP] hO rfl (fun k' hx hr hO' => find_spec (by omega) hga (by omega) (hO := hO')) ?_
    rintro _ _ w ⟨rfl, rfl⟩ hO
    simp only [List.cons_append, List.nil_append] at hO
    refine l_y rfl rfl (y_assign rfl) ?_
    refine K2 (K3 (K0 (K0 (K1 ?_))))
    refine l_y rfl rfl (y_move rfl) ?_
    refine Z0 (fun h5_1 => ?_) (fun h5_1 => ?_)
    · refine K2 (K3 (L8 (K0 (K1 ?_))))
      refine l_y rfl rfl (y_assign rfl) ?_
      refine K2 (K3 (K6 (K9 ?_)))
      have e : delAttrV A id space name = (1, (at_ A id.toNat).Node.Attrs) := by rw [delAttrV, if_neg (by simp [hat]), if_neg (by simp [hk]), if_pos (by omega)]
      have hO := arena_put (y := at_ A id.toNat) (by omega) (hO.ks [.p (at_ A id.toNat).Node.AttrsP, .s])
      rw [set_at (by omega)] at hO
      exact fin1 rfl rfl ⟨_, ⟨by rw [e], A, rfl, .inr ⟨hat, (at_ A id.toNat).Node.AttrsP, (at_ A id.toNat).Node.AttrsC, by rw [e]; exact (set_at (by omega)).symm⟩⟩, hO.only [.b a, .p p, .s]⟩
    · refine K2 (K3 (L9 (K5 (K3 (K0 ?_)))))
      have hcp := (sls_fct (p := (at_ A id.toNat).Node.AttrsP) hO).1
      refine da_region (by intro c a d v w h; cases d <;> exact h) ?_
      have hO := hO.drew
      refine da_phase _ [17] (SO.ks [.p p] hO) ?_
      refine dx_u 0 (by kernel_rfl) rfl rfl rfl (fun w => y_move rfl) ?_
      refine dx_u 1 (by kernel_rfl) rfl rfl rfl (fun w => y_move rfl) ?_
      refine dx_u 2 (by kernel_rfl) rfl rfl rfl (fun w => y_nilCheck rfl rfl) ?_
      refine dx_u 3 (by kernel_rfl) rfl rfl rfl (fun w => y_fld (j' := 0) rfl) ?_
      refine dx_u 4 (by kernel_rfl) rfl rfl rfl (fun w => y_fld (j' := 3) rfl) ?_
      refine dx_y 5 (by kernel_rfl) rfl rfl rfl (fun w ⟨m, hw⟩ => y_e1 (x0 := 3) hw rfl) ?_
      refine dx_u 6 (by kernel_rfl) rfl rfl rfl (fun w => y_move rfl) ?_
      refine dx_u 7 (by kernel_rfl) rfl rfl rfl (fun w => y_move rfl) ?_
      refine dx_u 8 (by kernel_rfl) rfl rfl rfl (fun w => y_hd3 ((idx (isA space name) (at_ A id.toNat).Node.Attrs) : Int).toNat ((idx (isA space name) (at_ A id.toNat).Node.Attrs) : Int).toNat rfl rfl rfl) ?_
      refine dx_u 9 (by kernel_rfl) rfl rfl rfl (fun w => y_move rfl) ?_
      refine dx_u 10 (by kernel_rfl) rfl rfl rfl (fun w => y_nilCheck rfl rfl) ?_
      refine dx_u 11 (by kernel_rfl) rfl rfl rfl (fun w => y_fld (j' := 0) rfl) ?_
      refine dx_u 12 (by kernel_rfl) rfl rfl rfl (fun w => y_fld (j' := 3) rfl) ?_
      refine dx_y 13 (by kernel_rfl) rfl rfl rfl (fun w ⟨m, hw⟩ => y_e1 (x0 := 3) hw rfl) ?_
      refine dx_u 14 (by kernel_rfl) rfl rfl rfl (fun w => y_move rfl) ?_
      refine dx_u 15 (by kernel_rfl) rfl rfl rfl (fun w => D4) ?_
      refine dx_u 16 (by kernel_rfl) rfl rfl rfl (fun w => y_tl (((idx (isA space name) (at_ A id.toNat).Node.Attrs) + 1) : Int).toNat rfl rfl) ?_
      refine dx_close 17 (by kernel_rfl) rfl rfl ?_
      have hv0 := sls_sli (p := (at_ A id.toNat).Node.AttrsP) hO
      have hv := sli_tl (cuts_holds w) hv0 ((idx (isA space name) (at_ A id.toNat).Node.Attrs + 1 : Int).toNat) (by omega)
      have hdl : ((at_ A id.toNat).Node.Attrs.drop (idx (isA space name) (at_ A id.toNat).Node.Attrs + 1 : Int).toNat).length ≤ 1024 := by simp; omega
      refine s_appCut hO rfl rfl (src_sli hv) (by omega) (fun p45 c45 w hO gs45 => ?_) rfl (by omega) (by omega)
      refine o_done ?_
      refine da_phase _ [21] (SO.ks [] hO) ?_
      refine dx_u 18 (by kernel_rfl) rfl rfl rfl (fun w => y_nilCheck rfl rfl) ?_
      refine dx_u 19 (by kernel_rfl) rfl rfl rfl (fun w => y_fld (j' := 0) rfl) ?_
      refine dx_u 20 (by kernel_rfl) rfl rfl rfl (fun w => y_fld (j' := 3) rfl) ?_
      refine dx_close 21 (by kernel_rfl) rfl rfl ?_
      refine s_e1 (x0 := 3) hO rfl rfl (fun w hO => ?_)
      refine o_done ?_
      refine da_end (by kernel_rfl) ?_
      refine K3 (K0 (K1 ?_))
      refine l_y rfl rfl (y_assign rfl) ?_
      refine K2 (K3 (K6 ?_))
      have e : delAttrV A id space name = (0, (at_ A id.toNat).Node.Attrs.take (idx (isA space name) (at_ A id.toNat).Node.Attrs).toNat ++ (at_ A id.toNat).Node.Attrs.drop (idx (isA space name) (at_ A id.toNat).Node.Attrs + 1 : Int).toNat) := by
        rw [delAttrV, if_neg (by simp [hat]), if_neg (by simp [hk]), if_neg h5_1, List.eraseIdx_eq_take_drop_succ]
        congr 3; omega
      have hO := hO.ks [.p p45, .s]
      have hO := arena_put (A := A) (i := id.toNat) (y := setAttrs (at_ A id.toNat) p45 (delAttrV A id space name).2 c45) (by omega) (by rw [e]; exact hO)
      have hO := hO.ks [.p p]
      have hO : Own k w (arS p c (A.set id.toNat (setAttrs (at_ A id.toNat) p45 ((at_ A id.toNat).Node.Attrs.take (idx (isA space name) (at_ A id.toNat).Node.Attrs).toNat ++ (at_ A id.toNat).Node.Attrs.drop (idx (isA space name) (at_ A id.toNat).Node.Attrs + 1 : Int).toNat) c45)) :: _) := hO
      rw [← show (delAttrV A id space name).2 = (at_ A id.toNat).Node.Attrs.take (idx (isA space name) (at_ A id.toNat).Node.Attrs).toNat ++ (at_ A id.toNat).Node.Attrs.drop (idx (isA space name) (at_ A id.toNat).Node.Attrs + 1 : Int).toNat by rw [e]] at hO
      exact fin1 rfl rfl ⟨_, ⟨by rw [e], _, rfl, .inr ⟨hat, _, _, rfl⟩⟩, hO.only [.b a, .p p, .s]⟩
end Go.Proofs.Ytnolpajggmfpdaa
