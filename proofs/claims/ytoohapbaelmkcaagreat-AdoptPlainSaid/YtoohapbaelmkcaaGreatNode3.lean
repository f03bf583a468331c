/- The walks of the arena's changes of one node; no condition. -/
import Derived.Test.YtoohapbaelmkcaaGreatNode2
set_option linter.unusedVariables false
set_option linter.unusedSimpArgs false
set_option maxRecDepth 100000
namespace Go.Proofs.YtoohapbaelmkcaaGreat
open Go Go.Hb Go.RowKit
theorem Len_spec {k : Ctx} {w : World} {a : Nat} {A : List Node_one} {p : Option Addr} {c : Nat} (hn : 0 < A.length) (hO : Own k w [arB a p A.length c, arS p c A]) :
    Tri Tryz.prog 12 #[.pointer (some ⟨a, 0, none⟩)] k w fun v m => v = .int .i64 (A.length : Int) ∧ m = [arB a p A.length c, arS p c A] := by
  refine enter (args := [.pointer (some ⟨a, 0, none⟩)]) Tryz.func12 rfl rfl ?_
  refine K0 (K1 ?_)
  refine l_y rfl rfl (y_assign rfl) ?_
  refine K2 (K3 (K0 (K0 (K1 ?_))))
  refine l_y rfl rfl (y_move rfl) ?_
  refine CK [.b a, .p p] hO rfl (fun k' hx hr hO' => none_spec (hO := hO')) ?_
  rintro _ _ w ⟨rfl, rfl⟩ hO
  simp only [List.cons_append, List.nil_append] at hO
  refine K2 (K3 (L9 (K5 (K3 (K0 (K1 ?_))))))
  refine l_y rfl rfl (y_move rfl) ?_
  refine l_y rfl rfl (y_nilCheck rfl rfl) ?_
  refine l_y rfl rfl (y_fldb (o' := 0) rfl) ?_
  refine l_y rfl rfl (D5 hO rfl) ?_
  refine l_y rfl rfl (y_lenL rfl) ?_
  refine l_y rfl rfl (y_assign rfl) ?_
  refine K2 (K3 (K6 ?_))
  exact fin1 rfl rfl ⟨_, ⟨rfl, rfl⟩, hO⟩
def hostL (A : List Node_one) (id : Int) : Int := if hasB A id = false then -1 else (at_ A id.toNat).host
def setData (A : List Node_one) (i : Int) (s : ByteArray) : List Node_one := A.set i.toNat { at_ A i.toNat with Node := { (at_ A i.toNat).Node with Data := s } }
def setDataL (A : List Node_one) (id : Int) (s : ByteArray) : Int × List Node_one :=
  if hasB A id = false then (6, A) else if (at_ A id.toNat).Node.Kind ≠ 2 ∧ (at_ A id.toNat).Node.Kind ≠ 3 then (10, A) else if 1048576 < s.size then (2, A) else (0, setData A id s)
def isA (space : Int) (name : ByteArray) (x : Api_attr) : Bool := decide (x.Space = space ∧ x.Name = name)
def AttrsOk (A : List Node_one) : Prop := ∀ i, i < A.length → (at_ A i).Node.Attrs.length ≤ 1024
def setAttrs (o : Node_one) (p : Option Addr) (l : List Api_attr) (c : Nat) : Node_one := { o with Node := { o.Node with AttrsP := p, Attrs := l, AttrsC := c } }
def longX (x : Api_attr) : Bool := decide (1048576 < x.Prefix.size) || decide (1048576 < x.Name.size) || decide (1048576 < x.Value.size)
/-- what SetAttr answers, and the attributes then -/
def setAttrV (A : List Node_one) (id : Int) (x : Api_attr) : Int × List Api_attr :=
  if hasB A id = false then (6, (at_ A id.toNat).Node.Attrs) else if (at_ A id.toNat).Node.Kind ≠ 1 then (10, (at_ A id.toNat).Node.Attrs)
  else if longX x = true then (2, (at_ A id.toNat).Node.Attrs)
  else if 0 ≤ idx (isA x.Space x.Name) (at_ A id.toNat).Node.Attrs then (0, (at_ A id.toNat).Node.Attrs.set (idx (isA x.Space x.Name) (at_ A id.toNat).Node.Attrs).toNat { at_ (at_ A id.toNat).Node.Attrs (idx (isA x.Space x.Name) (at_ A id.toNat).Node.Attrs).toNat with Value := x.Value })
  else if (at_ A id.toNat).Node.Attrs.length = 1024 then (2, (at_ A id.toNat).Node.Attrs) else (0, (at_ A id.toNat).Node.Attrs ++ [x])
theorem idx_lt {p : Api_attr → Bool} {xs : List Api_attr} : idx p xs < xs.length := by
  rcases idx_cases p xs with ⟨h, _⟩ | ⟨i, h, h2, _⟩ <;> omega
theorem cells_attrs {o : Node_one} {l : List Api_attr} (h : l.length = o.Node.Attrs.length) : Node_one.cells (setAttrs o o.Node.AttrsP l o.Node.AttrsC) = Node_one.cells o := by
  simp only [Node_one.cells, Api_node.cells, setAttrs, h]
def delAttrV (A : List Node_one) (id space : Int) (name : ByteArray) : Int × List Api_attr :=
  if hasB A id = false then (6, (at_ A id.toNat).Node.Attrs) else if (at_ A id.toNat).Node.Kind ≠ 1 then (10, (at_ A id.toNat).Node.Attrs)
  else if idx (isA space name) (at_ A id.toNat).Node.Attrs < 0 then (1, (at_ A id.toNat).Node.Attrs)
  else (0, (at_ A id.toNat).Node.Attrs.eraseIdx (idx (isA space name) (at_ A id.toNat).Node.Attrs).toNat)
end Go.Proofs.YtoohapbaelmkcaaGreat
