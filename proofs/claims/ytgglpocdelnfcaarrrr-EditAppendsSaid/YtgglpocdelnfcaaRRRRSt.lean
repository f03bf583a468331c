/- The records of this seat's types: what their cells are. -/
import Derived.Test.YtgglpocdelnfcaaRRRRHc
import Derived.Test.YtgglpocdelnfcaaRRRRTy
set_option linter.unusedVariables false
namespace Go.Proofs.YtgglpocdelnfcaaRRRR
open Go Go.Hb
@[ext] structure Api_attr where
  Space : Int
  Prefix : ByteArray
  Name : ByteArray
  Value : ByteArray
instance : Inhabited Api_attr := ⟨⟨0, ⟨#[]⟩, ⟨#[]⟩, ⟨#[]⟩⟩⟩
def Api_attr.cells (a : Api_attr) : List Go.Value := [.int .i64 a.Space, .string a.Prefix, .string a.Name, .string a.Value]
instance : OneC Api_attr.cells 4 := ⟨fun _ => rfl, fun a v hv => by
  have h : (Api_attr.cells a).all (·.oneCell') = true := rfl
  exact List.all_eq_true.1 h v hv⟩
instance (n : Int) : FUpd Api_attr.cells 0 (.int .i64 n) (fun a => { a with Space := n }) := ⟨fun _ => rfl, fun _ => by show _ < 4; decide⟩
instance (s : ByteArray) : FUpd Api_attr.cells 1 (.string s) (fun a => { a with Prefix := s }) := ⟨fun _ => rfl, fun _ => by show _ < 4; decide⟩
instance (s : ByteArray) : FUpd Api_attr.cells 2 (.string s) (fun a => { a with Name := s }) := ⟨fun _ => rfl, fun _ => by show _ < 4; decide⟩
instance (s : ByteArray) : FUpd Api_attr.cells 3 (.string s) (fun a => { a with Value := s }) := ⟨fun _ => rfl, fun _ => by show _ < 4; decide⟩
@[ext] structure Api_node where
  Kind : Int
  Space : Int
  Name : ByteArray
  AttrsP : Option Addr
  Attrs : List Api_attr
  AttrsC : Nat
  Data : ByteArray
  System : ByteArray
  Parent : Int
  First : Int
  Last : Int
  Prev : Int
  Next : Int
  Inner : Int
instance : Inhabited Api_node := ⟨⟨0, 0, ⟨#[]⟩, none, [], 0, ⟨#[]⟩, ⟨#[]⟩, 0, 0, 0, 0, 0, 0⟩⟩
def Api_node.cells (a : Api_node) : List Go.Value := [.int .i64 a.Kind, .int .i64 a.Space, .string a.Name, .slice a.AttrsP a.Attrs.length a.AttrsC, .string a.Data, .string a.System, .int .i64 a.Parent, .int .i64 a.First, .int .i64 a.Last, .int .i64 a.Prev, .int .i64 a.Next, .int .i64 a.Inner]
instance : OneC Api_node.cells 12 := ⟨fun _ => rfl, fun a v hv => by
  have h : (Api_node.cells a).all (·.oneCell') = true := rfl
  exact List.all_eq_true.1 h v hv⟩
instance (n : Int) : FUpd Api_node.cells 0 (.int .i64 n) (fun a => { a with Kind := n }) := ⟨fun _ => rfl, fun _ => by show _ < 12; decide⟩
instance (n : Int) : FUpd Api_node.cells 1 (.int .i64 n) (fun a => { a with Space := n }) := ⟨fun _ => rfl, fun _ => by show _ < 12; decide⟩
instance (s : ByteArray) : FUpd Api_node.cells 2 (.string s) (fun a => { a with Name := s }) := ⟨fun _ => rfl, fun _ => by show _ < 12; decide⟩
instance (p : Option Addr) (l : List Api_attr) (c : Nat) : FUpd Api_node.cells 3 (.slice p l.length c) (fun a => { a with AttrsP := p, Attrs := l, AttrsC := c }) := ⟨fun _ => rfl, fun _ => by show _ < 12; decide⟩
instance (s : ByteArray) : FUpd Api_node.cells 4 (.string s) (fun a => { a with Data := s }) := ⟨fun _ => rfl, fun _ => by show _ < 12; decide⟩
instance (s : ByteArray) : FUpd Api_node.cells 5 (.string s) (fun a => { a with System := s }) := ⟨fun _ => rfl, fun _ => by show _ < 12; decide⟩
instance (n : Int) : FUpd Api_node.cells 6 (.int .i64 n) (fun a => { a with Parent := n }) := ⟨fun _ => rfl, fun _ => by show _ < 12; decide⟩
instance (n : Int) : FUpd Api_node.cells 7 (.int .i64 n) (fun a => { a with First := n }) := ⟨fun _ => rfl, fun _ => by show _ < 12; decide⟩
instance (n : Int) : FUpd Api_node.cells 8 (.int .i64 n) (fun a => { a with Last := n }) := ⟨fun _ => rfl, fun _ => by show _ < 12; decide⟩
instance (n : Int) : FUpd Api_node.cells 9 (.int .i64 n) (fun a => { a with Prev := n }) := ⟨fun _ => rfl, fun _ => by show _ < 12; decide⟩
instance (n : Int) : FUpd Api_node.cells 10 (.int .i64 n) (fun a => { a with Next := n }) := ⟨fun _ => rfl, fun _ => by show _ < 12; decide⟩
instance (n : Int) : FUpd Api_node.cells 11 (.int .i64 n) (fun a => { a with Inner := n }) := ⟨fun _ => rfl, fun _ => by show _ < 12; decide⟩
@[ext] structure Node_one where
  Node : Api_node
  host : Int
instance : Inhabited Node_one := ⟨⟨default, 0⟩⟩
def Node_one.cells (a : Node_one) : List Go.Value := Api_node.cells a.Node ++ [.int .i64 a.host]
instance : OneC Node_one.cells 13 := ⟨fun _ => rfl, fun a v hv => by
  have h : (Node_one.cells a).all (·.oneCell') = true := rfl
  exact List.all_eq_true.1 h v hv⟩
instance (n : Int) : FUpd Node_one.cells 0 (.int .i64 n) (fun a => { a with Node := { a.Node with Kind := n } }) := ⟨fun _ => rfl, fun _ => by show _ < 13; decide⟩
instance (n : Int) : FUpd Node_one.cells 1 (.int .i64 n) (fun a => { a with Node := { a.Node with Space := n } }) := ⟨fun _ => rfl, fun _ => by show _ < 13; decide⟩
instance (s : ByteArray) : FUpd Node_one.cells 2 (.string s) (fun a => { a with Node := { a.Node with Name := s } }) := ⟨fun _ => rfl, fun _ => by show _ < 13; decide⟩
instance (p : Option Addr) (l : List Api_attr) (c : Nat) : FUpd Node_one.cells 3 (.slice p l.length c) (fun a => { a with Node := { a.Node with AttrsP := p, Attrs := l, AttrsC := c } }) := ⟨fun _ => rfl, fun _ => by show _ < 13; decide⟩
instance (s : ByteArray) : FUpd Node_one.cells 4 (.string s) (fun a => { a with Node := { a.Node with Data := s } }) := ⟨fun _ => rfl, fun _ => by show _ < 13; decide⟩
instance (s : ByteArray) : FUpd Node_one.cells 5 (.string s) (fun a => { a with Node := { a.Node with System := s } }) := ⟨fun _ => rfl, fun _ => by show _ < 13; decide⟩
instance (n : Int) : FUpd Node_one.cells 6 (.int .i64 n) (fun a => { a with Node := { a.Node with Parent := n } }) := ⟨fun _ => rfl, fun _ => by show _ < 13; decide⟩
instance (n : Int) : FUpd Node_one.cells 7 (.int .i64 n) (fun a => { a with Node := { a.Node with First := n } }) := ⟨fun _ => rfl, fun _ => by show _ < 13; decide⟩
instance (n : Int) : FUpd Node_one.cells 8 (.int .i64 n) (fun a => { a with Node := { a.Node with Last := n } }) := ⟨fun _ => rfl, fun _ => by show _ < 13; decide⟩
instance (n : Int) : FUpd Node_one.cells 9 (.int .i64 n) (fun a => { a with Node := { a.Node with Prev := n } }) := ⟨fun _ => rfl, fun _ => by show _ < 13; decide⟩
instance (n : Int) : FUpd Node_one.cells 10 (.int .i64 n) (fun a => { a with Node := { a.Node with Next := n } }) := ⟨fun _ => rfl, fun _ => by show _ < 13; decide⟩
instance (n : Int) : FUpd Node_one.cells 11 (.int .i64 n) (fun a => { a with Node := { a.Node with Inner := n } }) := ⟨fun _ => rfl, fun _ => by show _ < 13; decide⟩
instance (n : Int) : FUpd Node_one.cells 12 (.int .i64 n) (fun a => { a with host := n }) := ⟨fun _ => rfl, fun _ => by show _ < 13; decide⟩
@[ext] structure Node_arena where
  lP : Option Addr
  l : List Node_one
  lC : Nat
instance : Inhabited Node_arena := ⟨⟨none, [], 0⟩⟩
def Node_arena.cells (a : Node_arena) : List Go.Value := [.slice a.lP a.l.length a.lC]
instance : OneC Node_arena.cells 1 := ⟨fun _ => rfl, fun a v hv => by
  have h : (Node_arena.cells a).all (·.oneCell') = true := rfl
  exact List.all_eq_true.1 h v hv⟩
instance (p : Option Addr) (l : List Node_one) (c : Nat) : FUpd Node_arena.cells 0 (.slice p l.length c) (fun a => { a with lP := p, l := l, lC := c }) := ⟨fun _ => rfl, fun _ => by show _ < 1; decide⟩
@[ext] structure Edit_door where
  elements : Int
  doctypes : Int
  doctypesBehind : Int
  elementsAhead : Int
instance : Inhabited Edit_door := ⟨⟨0, 0, 0, 0⟩⟩
def Edit_door.cells (a : Edit_door) : List Go.Value := [.int .i64 a.elements, .int .i64 a.doctypes, .int .i64 a.doctypesBehind, .int .i64 a.elementsAhead]
instance : OneC Edit_door.cells 4 := ⟨fun _ => rfl, fun a v hv => by
  have h : (Edit_door.cells a).all (·.oneCell') = true := rfl
  exact List.all_eq_true.1 h v hv⟩
instance (n : Int) : FUpd Edit_door.cells 0 (.int .i64 n) (fun a => { a with elements := n }) := ⟨fun _ => rfl, fun _ => by show _ < 4; decide⟩
instance (n : Int) : FUpd Edit_door.cells 1 (.int .i64 n) (fun a => { a with doctypes := n }) := ⟨fun _ => rfl, fun _ => by show _ < 4; decide⟩
instance (n : Int) : FUpd Edit_door.cells 2 (.int .i64 n) (fun a => { a with doctypesBehind := n }) := ⟨fun _ => rfl, fun _ => by show _ < 4; decide⟩
instance (n : Int) : FUpd Edit_door.cells 3 (.int .i64 n) (fun a => { a with elementsAhead := n }) := ⟨fun _ => rfl, fun _ => by show _ < 4; decide⟩
end Go.Proofs.YtgglpocdelnfcaaRRRR
