/- The walks of the arena's changes of one node; no condition. -/
import Derived.Test.YtbhicbpfdbnpfaaNode2
set_option linter.unusedVariables false
set_option linter.unusedSimpArgs false
set_option maxRecDepth 100000
namespace Go.Proofs.Ytbhicbpfdbnpfaa
open Go Go.Hb Go.RowKit
theorem Len_spec {k : Ctx} {w : World} {a : Nat} {A : List Node_one} {p : Option Addr} {c : Nat} (hn : 0 < A.length) (hO : Own k w [arB a p A.length c, arS p c A]) :
    Tri Try.prog 25 #[.pointer (some ⟨a, 0, none⟩)] k w fun v m => v = .int .i64 (A.length : Int) ∧ m = [arB a p A.length c, arS p c A] := by
  refine enter (args := [.pointer (some ⟨a, 0, none⟩)]) Try.func25 rfl rfl ?_
  refine K0 (K1 ?_)
  refine l_y rfl rfl (y_assign rfl) ?_
  refine K2 (K3 (K0 (K0 (K1 ?_))))
  refine l_y rfl rfl (y_move rfl) ?_
  refine CK [.b a, .p p] hO rfl (fun k' hx hr hO' => none_spec (hO := hO')) ?_
  rintro _ _ w ⟨rfl, rfl⟩ hO
  simp only [List.cons_append, List.nil_append] at hO
  refine K2 (K3 (L9 (K5 (K3 (K0 (K1 ?_))))))
  refine l_y rfl rfl (y_move rfl) ?_
  refine l_y rfl rfl (y_nilCheck rfl rfl) ?_
  refine l_y rfl rfl (y_fldb (o' := 0) rfl) ?_
  refine l_y rfl rfl (D5 hO rfl) ?_
  refine l_y rfl rfl (y_lenL rfl) ?_
  refine l_y rfl rfl (y_assign rfl) ?_
  refine K2 (K3 (K6 ?_))
  exact fin1 rfl rfl ⟨_, ⟨rfl, rfl⟩, hO⟩
def hostL (A : List Node_one) (id : Int) : Int := if hasB A id = false then -1 else (at_ A id.toNat).host
/-- a node of some kinds -/
theorem at_spec {k : Ctx} {w : World} {a : Nat} {A : List Node_one} {p : Option Addr} {c : Nat} {id : Int} {ks : List Int} {kp : Option Addr} {kc : Nat} (hn : 0 < A.length) (hg : Gs p A.length) (hk : Sli (Ro k) (.slice kp ks.length kc) (ks.map (eI .i64))) (hkl : ks.length ≤ 1000000) (hO : Own k w [arB a p A.length c, arS p c A]) :
    Tri Try.prog 167 #[.pointer (some ⟨a, 0, none⟩), .int .i64 id, .slice kp ks.length kc] k w fun v m =>
      ((hasB A id = false ∧ v = .tuple #[.pointer none, .int .i64 6]) ∨ (hasB A id = true ∧ (∀ x ∈ ks, (at_ A id.toNat).Node.Kind ≠ x) ∧ v = .tuple #[.pointer none, .int .i64 10]) ∨ (hasB A id = true ∧ (at_ A id.toNat).Node.Kind ∈ ks ∧ v = .tuple #[.pointer (some (adr p (id.toNat * 13 + 0))), .int .i64 0])) ∧ m = [arB a p A.length c, arS p c A] := by
  refine enter (args := [.pointer (some ⟨a, 0, none⟩), .int .i64 id, .slice kp ks.length kc]) Try.func167 rfl rfl ?_
  have hgk := sli_gs hk
  refine K0 (K1 ?_)
  refine l_y rfl rfl (y_assign rfl) ?_
  refine l_y rfl rfl (y_assign rfl) ?_
  refine K2 (K3 (K0 (K4 (K0 (K1 ?_)))))
  refine l_y rfl rfl (y_move rfl) ?_
  refine CK [.b a, .p p] hO rfl (fun k' hx hr hO' => none_spec (hO := hO')) ?_
  rintro _ _ w ⟨rfl, rfl⟩ hO
  simp only [List.cons_append, List.nil_append] at hO
  refine l_y rfl rfl (y_assign rfl) ?_
  refine K2 (K3 (L9 (K0 (K1 ?_))))
  refine l_y rfl rfl (y_move rfl) ?_
  refine l_y rfl rfl (y_move rfl) ?_
  refine CK [.b a, .p p] hO rfl (fun k' hx hr hO' => has_spec (hO := hO')) ?_
  rintro _ _ w ⟨rfl, rfl⟩ hO
  simp only [List.cons_append, List.nil_append] at hO
  refine l_y rfl rfl (y_not rfl rfl) ?_
  refine l_y rfl rfl (y_assign rfl) ?_
  refine K2 (K3 ?_)
  refine c_split rfl (fun hc13 => ?_) (fun hc13 => ?_)
  · simp only [Bool.not_eq_true', Bool.not_eq_false'] at hc13
    refine K0 (K1 ?_)
    refine l_y rfl rfl (y_assign rfl) ?_
    refine l_y rfl rfl (y_assign rfl) ?_
    refine K2 (K3 (K6 (L0 (K9 ?_))))
    exact fin2 rfl rfl rfl ⟨_, ⟨.inl ⟨hc13, rfl⟩, rfl⟩, hO⟩
  · simp only [Bool.not_eq_true', Bool.not_eq_false'] at hc13
    refine K5 (K8 (K3 (K0 (K0 ?_))))
    have hid := hasB_true hc13
    refine K1 ?_
    refine l_y rfl rfl (y_move rfl) ?_
    refine l_y rfl rfl (y_lenL rfl) ?_
    refine l_y rfl rfl (y_move rfl) ?_
    refine K2 (K3 (K4 ?_))
    refine c_rounds (X := Nat) (fun i => [(0, .pointer (some ⟨a, 0, none⟩)), (1, .int .i64 id), (6, .pointer none), (7, .int .i64 0), (18, .slice kp ks.length kc), (19, .int .i64 ((ks.length : Nat) : Int)), (20, .int .i64 (i : Int))]) (fun i w => Own k w [arB a p A.length c, arS p c A] ∧ (i ≤ ks.length) ∧ (∀ j, j < i → (at_ A id.toNat).Node.Kind ≠ at_ ks j)) (fun i => ks.length - i) (0) ⟨rfl, rfl, rfl, rfl, rfl, rfl, rfl, trivial⟩ ⟨hO.only [.b a, .p p], Nat.zero_le _, fun j hj => absurd hj (Nat.not_lt_zero j)⟩ ?_
    rintro i w m hm ⟨hO, hi, hj⟩
    refine K0 (K1 ?_)
    refine Z0 (fun h6_0 => ?_) (fun h6_0 => ?_)
    · refine K2 (K3 (K0 (L8 (K5 (K3 (K0 (K4 (K0 (K1 ?_)))))))))
      refine l_y rfl rfl (y_idx rfl rfl) ?_
      refine l_y rfl rfl (y_r1 (x0 := 0) (enc := (eI .i64)) (xs := ks) hO rfl) ?_
      refine l_y rfl rfl (y_assign rfl) ?_
      refine K2 (K3 (K0 (K1 ?_)))
      refine l_y rfl rfl (y_move rfl) ?_
      refine l_y rfl rfl (y_nilCheck rfl rfl) ?_
      refine l_y rfl rfl (y_fldb (o' := 0) rfl) ?_
      refine l_y rfl rfl (D5 hO rfl) ?_
      refine l_y rfl rfl (y_move rfl) ?_
      refine l_y rfl rfl (y_idx rfl rfl) ?_
      refine l_y rfl rfl (y_fld (j' := 0) rfl) ?_
      refine l_y rfl rfl (y_fld (j' := 0) rfl) ?_
      refine l_y rfl rfl (y_e1 (x0 := 0) hO rfl) ?_
      refine l_y rfl rfl (y_move rfl) ?_
      refine Z0 (fun h8_10 => ?_) (fun h8_10 => ?_)
      · refine K2 (K3 (L8 (K0 (K1 ?_))))
        refine l_y rfl rfl (y_move rfl) ?_
        refine l_y rfl rfl (y_nilCheck rfl rfl) ?_
        refine l_y rfl rfl (y_fldb (o' := 0) rfl) ?_
        refine l_y rfl rfl (D5 hO rfl) ?_
        refine l_y rfl rfl (y_move rfl) ?_
        refine l_y rfl rfl (y_idx rfl rfl) ?_
        refine l_y rfl rfl (y_assign rfl) ?_
        refine l_y rfl rfl (y_assign rfl) ?_
        refine K2 (K3 (K6 (L0 (K9 (K9 (L0 (K9 ?_)))))))
        exact fin2 rfl rfl rfl ⟨_, ⟨.inr (.inr ⟨hc13, by rw [h8_10]; exact at_mem (by omega), rfl⟩), rfl⟩, hO⟩
      · refine K2 (K3 (L9 (K5 (K8 (K3 (K1 ?_))))))
        refine l_y rfl rfl (D4) ?_
        refine l_y rfl rfl (y_move rfl) ?_
        refine K2 ?_
        exact q_next (i + 1) ⟨rfl, rfl, rfl, rfl, rfl, rfl, rfl, trivial⟩ ⟨hO.only [.b a, .p p], by omega, fun j hj' => (by by_cases e : j = i; (subst e; exact h8_10); exact hj j (by omega))⟩ (by omega)
    · refine K2 (K3 (K0 (L9 (K7 (L1 (L1 (L2 (K3 (K0 (K1 ?_))))))))))
      refine l_y rfl rfl (y_assign rfl) ?_
      refine l_y rfl rfl (y_assign rfl) ?_
      refine K2 (K3 (K6 ?_))
      exact fin2 rfl rfl rfl ⟨_, ⟨.inr (.inl ⟨hc13, fun x hx => (by obtain ⟨j, hj1, rfl⟩ := mem_at hx; exact hj j (by omega)), rfl⟩), rfl⟩, hO⟩
def setData (A : List Node_one) (i : Int) (s : ByteArray) : List Node_one := A.set i.toNat { at_ A i.toNat with Node := { (at_ A i.toNat).Node with Data := s } }
def setDataL (A : List Node_one) (id : Int) (s : ByteArray) : Int × List Node_one :=
  if hasB A id = false then (6, A) else if (at_ A id.toNat).Node.Kind ≠ 2 ∧ (at_ A id.toNat).Node.Kind ≠ 3 then (10, A) else if 1048576 < s.size then (2, A) else (0, setData A id s)
theorem SetData_spec {k : Ctx} {w : World} {a : Nat} {A : List Node_one} {p : Option Addr} {c : Nat} {id : Int} {s : ByteArray} (hn : 0 < A.length) (hg : Gs p A.length) (hO : Own k w [arB a p A.length c, arS p c A]) :
    Tri Try.prog 123 #[.pointer (some ⟨a, 0, none⟩), .int .i64 id, .string s] k w fun v m => v = .int .i64 (setDataL A id s).1 ∧ m = [arB a p A.length c, arS p c (setDataL A id s).2] := by
  refine enter (args := [.pointer (some ⟨a, 0, none⟩), .int .i64 id, .string s]) Try.func123 rfl rfl ?_
  refine K0 (K1 ?_)
  refine l_y rfl rfl (y_assign rfl) ?_
  refine K2 (K3 (K0 (K1 ?_)))
  refine l_y rfl rfl (y_move rfl) ?_
  refine l_y rfl rfl (y_move rfl) ?_
  refine s_lit (parts := [(0, .const (.int .i64 2)), (1, .const (.int .i64 3))]) (enc := (eI .i64)) [2, 3] [.int .i64 2, .int .i64 3] hO rfl (fun b12 w hO => ?_)
  refine CK [.b a, .p p] hO rfl (fun k' hx hr hO' => at_spec hn hg (sls_roK hr (sls_fct hO)) (by simp) (hO := hO')) ?_
  rintro _ _ w ⟨(⟨hat, rfl⟩ | ⟨hat, hat2, rfl⟩ | ⟨hat, hat2, rfl⟩), rfl⟩ hO
  · simp only [List.cons_append, List.nil_append] at hO
    refine l_y rfl rfl (y_move rfl) ?_
    refine l_y rfl rfl (y_extract rfl rfl) ?_
    refine l_y rfl rfl (y_extract rfl rfl) ?_
    refine l_y rfl rfl (y_assign rfl) ?_
    refine l_y rfl rfl (y_assign rfl) ?_
    refine K2 (K3 (K0 (K4 (K0 (K1 ?_)))))
    refine l_y rfl rfl (y_move rfl) ?_
    refine N5 ?_
    refine l_y rfl rfl (y_assign rfl) ?_
    refine K2 (K3 (L8 (K0 (K1 ?_))))
    refine l_y rfl rfl (y_move rfl) ?_
    refine l_y rfl rfl (y_assign rfl) ?_
    refine K2 (K3 (K6 (L0 (K9 ?_))))
    have e : setDataL A id s = (6, A) := by rw [setDataL, if_pos hat]
    exact fin1 rfl rfl ⟨_, ⟨by rw [e], by rw [e]⟩, hO.only [.b a, .p p]⟩
  · simp only [List.cons_append, List.nil_append] at hO
    refine l_y rfl rfl (y_move rfl) ?_
    refine l_y rfl rfl (y_extract rfl rfl) ?_
    refine l_y rfl rfl (y_extract rfl rfl) ?_
    refine l_y rfl rfl (y_assign rfl) ?_
    refine l_y rfl rfl (y_assign rfl) ?_
    refine K2 (K3 (K0 (K4 (K0 (K1 ?_)))))
    refine l_y rfl rfl (y_move rfl) ?_
    refine N5 ?_
    refine l_y rfl rfl (y_assign rfl) ?_
    refine K2 (K3 (L8 (K0 (K1 ?_))))
    refine l_y rfl rfl (y_move rfl) ?_
    refine l_y rfl rfl (y_assign rfl) ?_
    refine K2 (K3 (K6 (L0 (K9 ?_))))
    have e : setDataL A id s = (10, A) := by rw [setDataL, if_neg (by simp [hat]), if_pos (by simpa using hat2)]
    exact fin1 rfl rfl ⟨_, ⟨by rw [e], by rw [e]⟩, hO.only [.b a, .p p]⟩
  · simp only [List.cons_append, List.nil_append] at hO
    refine l_y rfl rfl (y_move rfl) ?_
    refine l_y rfl rfl (y_extract rfl rfl) ?_
    refine l_y rfl rfl (y_extract rfl rfl) ?_
    refine l_y rfl rfl (y_assign rfl) ?_
    refine l_y rfl rfl (y_assign rfl) ?_
    refine K2 (K3 (K0 (K4 (K0 (K1 ?_)))))
    refine l_y rfl rfl (y_move rfl) ?_
    refine N4 ?_
    refine l_y rfl rfl (y_assign rfl) ?_
    refine K2 (K3 (L9 (K0 (K1 ?_))))
    refine l_y rfl rfl (y_move rfl) ?_
    refine l_y rfl rfl (y_lenS rfl) ?_
    refine Z0 (fun h4_2 => ?_) (fun h4_2 => ?_)
    · refine l_y rfl rfl (y_assign rfl) ?_
      refine K2 (K3 (L8 (K0 (K1 ?_))))
      refine l_y rfl rfl (y_assign rfl) ?_
      refine K2 (K3 (K6 (L0 (K9 ?_))))
      have e : setDataL A id s = (2, A) := by rw [setDataL, if_neg (by simp [hat]), if_neg (by simp at hat2; omega), if_pos (by omega)]
      exact fin1 rfl rfl ⟨_, ⟨by rw [e], by rw [e]⟩, hO.only [.b a, .p p]⟩
    · refine l_y rfl rfl (y_assign rfl) ?_
      refine K2 (K3 (L9 (K5 (K8 (K3 (K0 ?_))))))
      have hid := hasB_true hat
      refine K1 ?_
      refine l_y rfl rfl (y_move rfl) ?_
      refine l_y rfl rfl (y_move rfl) ?_
      refine l_y rfl rfl (y_nilCheck rfl rfl) ?_
      refine l_y rfl rfl (y_fld (j' := 0) rfl) ?_
      refine l_y rfl rfl (y_fld (j' := 4) rfl) ?_
      refine s_e1 (x0 := 4) hO rfl rfl (fun w hO => ?_)
      refine K2 (K3 (K0 (K1 ?_)))
      refine l_y rfl rfl (y_assign rfl) ?_
      refine K2 (K3 (K6 ?_))
      have e : setDataL A id s = (0, setData A id s) := by rw [setDataL, if_neg (by simp [hat]), if_neg (by simp at hat2; omega), if_neg (by omega)]
      exact fin1 rfl rfl ⟨_, ⟨by rw [e], by rw [e]; rfl⟩, hO.only [.b a, .p p]⟩
def isA (space : Int) (name : ByteArray) (x : Api_attr) : Bool := decide (x.Space = space ∧ x.Name = name)
def AttrsOk (A : List Node_one) : Prop := ∀ i, i < A.length → (at_ A i).Node.Attrs.length ≤ 1024
def setAttrs (o : Node_one) (p : Option Addr) (l : List Api_attr) (c : Nat) : Node_one := { o with Node := { o.Node with AttrsP := p, Attrs := l, AttrsC := c } }
def longX (x : Api_attr) : Bool := decide (1048576 < x.Prefix.size) || decide (1048576 < x.Name.size) || decide (1048576 < x.Value.size)
/-- what SetAttr answers, and the attributes then -/
def setAttrV (A : List Node_one) (id : Int) (x : Api_attr) : Int × List Api_attr :=
  if hasB A id = false then (6, (at_ A id.toNat).Node.Attrs) else if (at_ A id.toNat).Node.Kind ≠ 1 then (10, (at_ A id.toNat).Node.Attrs)
  else if longX x = true then (2, (at_ A id.toNat).Node.Attrs)
  else if 0 ≤ idx (isA x.Space x.Name) (at_ A id.toNat).Node.Attrs then (0, (at_ A id.toNat).Node.Attrs.set (idx (isA x.Space x.Name) (at_ A id.toNat).Node.Attrs).toNat { at_ (at_ A id.toNat).Node.Attrs (idx (isA x.Space x.Name) (at_ A id.toNat).Node.Attrs).toNat with Value := x.Value })
  else if (at_ A id.toNat).Node.Attrs.length = 1024 then (2, (at_ A id.toNat).Node.Attrs) else (0, (at_ A id.toNat).Node.Attrs ++ [x])
theorem idx_lt {p : Api_attr → Bool} {xs : List Api_attr} : idx p xs < xs.length := by
  rcases idx_cases p xs with ⟨h, _⟩ | ⟨i, h, h2, _⟩ <;> omega
theorem cells_attrs {o : Node_one} {l : List Api_attr} (h : l.length = o.Node.Attrs.length) : Node_one.cells (setAttrs o o.Node.AttrsP l o.Node.AttrsC) = Node_one.cells o := by
  simp only [Node_one.cells, Api_node.cells, setAttrs, h]
def delAttrV (A : List Node_one) (id space : Int) (name : ByteArray) : Int × List Api_attr :=
  if hasB A id = false then (6, (at_ A id.toNat).Node.Attrs) else if (at_ A id.toNat).Node.Kind ≠ 1 then (10, (at_ A id.toNat).Node.Attrs)
  else if idx (isA space name) (at_ A id.toNat).Node.Attrs < 0 then (1, (at_ A id.toNat).Node.Attrs)
  else (0, (at_ A id.toNat).Node.Attrs.eraseIdx (idx (isA space name) (at_ A id.toNat).Node.Attrs).toNat)
end Go.Proofs.Ytbhicbpfdbnpfaa
