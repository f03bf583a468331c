/- The walks of what is written of a tree. -/
import Derived.Test.YthkmnohghpdjhaaWrt2
import Derived.Test.YthkmnohghpdjhaaWtx1
import Derived.Test.YthkmnohghpdjhaaOrder2
set_option linter.unusedVariables false
set_option linter.unusedSimpArgs false
set_option maxRecDepth 100000
namespace Go.Proofs.Ythkmnohghpdjhaa
open Go Go.Hb Go.RowKit
/-- what Node tells of a node that is there -/
def NI (A : List Node_one) (id : Int) (n : Api_node) : Prop := ∃ q d, n = ownN (nodeA A id) q d
theorem NI.kind {A : List Node_one} {id : Int} {n : Api_node} (h : NI A id n) : n.Kind = (nodeA A id).Kind := by obtain ⟨q, d, rfl⟩ := h; rfl
theorem NI.space {A : List Node_one} {id : Int} {n : Api_node} (h : NI A id n) : n.Space = (nodeA A id).Space := by obtain ⟨q, d, rfl⟩ := h; rfl
theorem NI.name {A : List Node_one} {id : Int} {n : Api_node} (h : NI A id n) : n.Name = (nodeA A id).Name := by obtain ⟨q, d, rfl⟩ := h; rfl
theorem NI.data {A : List Node_one} {id : Int} {n : Api_node} (h : NI A id n) : n.Data = (nodeA A id).Data := by obtain ⟨q, d, rfl⟩ := h; rfl
theorem NI.system {A : List Node_one} {id : Int} {n : Api_node} (h : NI A id n) : n.System = (nodeA A id).System := by obtain ⟨q, d, rfl⟩ := h; rfl
theorem NI.inner {A : List Node_one} {id : Int} {n : Api_node} (h : NI A id n) : n.Inner = (nodeA A id).Inner := by obtain ⟨q, d, rfl⟩ := h; rfl
theorem NI.attrs {A : List Node_one} {id : Int} {n : Api_node} (h : NI A id n) : n.Attrs = (nodeA A id).Attrs := by obtain ⟨q, d, rfl⟩ := h; rfl
theorem NodeI_spec {k : Ctx} {w : World} {a : Nat} {A : List Node_one} {id : Int} (hi : InA A id) (ha : AttrsOk A) (hO : Own k w [arenaL a A]) :
    Tri Try.prog 34 #[.pointer (some ⟨a, 0, none⟩), .int .i64 id] k w fun v m => ∃ n, NI A id n ∧ v = .tuple #[.agg (Api_node.cells n).toArray, .int .i64 0] ∧ m = [arenaL a A, sls n.AttrsP n.AttrsC 63 4 Api_attr.cells n.Attrs] := by
  have h0 : 0 < A.length := by have := hi.1; have := hi.2; omega
  refine (Node_spec h0 ha hO).mono ?_
  rintro v m (⟨h, _⟩ | ⟨_, q, d, rfl, rfl⟩)
  · rw [hi.b] at h; cases h
  · exact ⟨_, ⟨q, d, rfl⟩, rfl, rfl⟩
theorem htmlB_eq {n m : Api_node} (h1 : n.Kind = m.Kind) (h2 : n.Space = m.Space) (h3 : n.Name = m.Name) (f : ByteArray → Bool) : htmlB n f = htmlB m f := by rw [htmlB, htmlB, h1, h2, h3]
theorem NI.html {A : List Node_one} {id : Int} {n : Api_node} (h : NI A id n) (f : ByteArray → Bool) : htmlB n f = htmlB (nodeA A id) f := htmlB_eq h.kind h.space h.name f
/-- the bytes of a writer -/
def wrtS (b : Nat) (v : Value) (bs : List UInt8) : HP := sl v 5 1 (by1 bs)
instance (priority := high) AtK.hwrs (b : Nat) (v : Value) (bs : List UInt8) (l : List HP) : AtK (wrtS b v bs :: l) (.o b) (wrtS b v bs) l := ⟨.hd _ l⟩
abbrev wrtB (b : Nat) (p : Option Addr) (v : Value) (a : Option Addr) (sc : Bool) : HP := blk b 78 [.pointer p, v, .pointer a, .bool sc]
theorem wrtO {k : Ctx} {w : World} {l : List HP} {b : Nat} {a : Option Addr} {sc : Bool} {bs : List UInt8} (h : Own k w (wrtL b a sc bs :: l)) : ∃ p v, BldrW b bs p v ∧ Own k w (wrtB b p v a sc :: wrtS b v bs :: l) := wrtL_open h
theorem wrtC {k : Ctx} {w : World} {l : List HP} {b : Nat} {a : Option Addr} {sc : Bool} {bs : List UInt8} {p : Option Addr} {v : Value} (hp : BldrW b bs p v) (h : Own k w (wrtB b p v a sc :: wrtS b v bs :: l)) : Own k w (wrtL b a sc bs :: l) := wrtL_shut hp h
section
variable {k : Ctx} {w : World}
theorem html0_spec {n : Api_node} {f : FuncId} [hf : Fun Try.prog f] {is : ByteArray → Bool} (hcall : ∀ k' w', Own k' w' [] → Tri Try.prog f #[Value.string n.Name] k' w' fun v m => v = .bool (is n.Name) ∧ m = []) (hO : Own k w []) :
    Tri Try.prog 69 #[.agg (Api_node.cells n).toArray, .func (.func f) #[] #[]] k w fun v m => v = .bool (htmlB n is) ∧ m = [] := by
  refine Ret.mono (html_spec (caps := []) (C := []) (is := is) (fun k' w' h => Ret.mono (hcall k' w' h.open) ?_) (Own.shut (l := []) hO)) ?_
  · rintro v w' ⟨m, ⟨h1, rfl⟩, h⟩; exact ⟨_, ⟨h1, rfl⟩, Own.shut (l := []) h⟩
  · rintro v w' ⟨m, ⟨h1, rfl⟩, h⟩; exact ⟨_, ⟨h1, rfl⟩, h.open⟩
theorem rawf_spec {b : Nat} {a : Option Addr} {sc : Bool} {bs : List UInt8} {bw : Nat} {s : ByteArray} (hO : Own k w [sep [blk bw 73 [.pointer (some ⟨b, 0, none⟩)], wrtL b a sc bs]]) :
    Tri Try.prog 70 #[.string s, .pointer (some ⟨bw, 0, none⟩)] k w fun v m => v = .bool (plainB s sc) ∧ m = [sep [blk bw 73 [.pointer (some ⟨b, 0, none⟩)], wrtL b a sc bs]] := by
  refine enter (args := [.string s, .pointer (some ⟨bw, 0, none⟩)]) Try.func70 rfl rfl ?_
  have hO := hO.open
  obtain ⟨p, v, hp, hO⟩ := wrtO (hO.ks [.o b, .b bw])
  refine K0 (K1 ?_)
  refine l_y rfl rfl (y_assign rfl) ?_
  refine K2 (K3 (K0 (K1 ?_)))
  refine l_y rfl rfl (y_move rfl) ?_
  refine l_y rfl rfl (D5 hO rfl) ?_
  refine l_y rfl rfl (y_nilCheck rfl rfl) ?_
  refine l_y rfl rfl (y_fldb (o' := 3) rfl) ?_
  refine l_y rfl rfl (D5 hO rfl) ?_
  refine CK [] hO rfl (fun k' hx hr hO' => wPlain_spec (hO := hO')) ?_
  rintro _ _ w ⟨rfl, rfl⟩ hO
  simp only [List.cons_append, List.nil_append] at hO
  refine l_y rfl rfl (y_assign rfl) ?_
  refine K2 (K3 (K6 ?_))
  have hO := wrtC hp hO
  exact fin1 rfl rfl ⟨_, ⟨rfl, rfl⟩, Own.shut (l := [_, _]) (hO.ks [.b bw, .o b])⟩
end
end Go.Proofs.Ythkmnohghpdjhaa
