/- The records of this seat's types: what their cells are. -/
import Derived.Test.YthkmnohghpdjhaaHc
import Derived.Test.YthkmnohghpdjhaaTy
set_option linter.unusedVariables false
namespace Go.Proofs.Ythkmnohghpdjhaa
open Go Go.Hb
@[ext] structure Api_attr where
  Space : Int
  Prefix : ByteArray
  Name : ByteArray
  Value : ByteArray
instance : Inhabited Api_attr := ⟨⟨0, ⟨#[]⟩, ⟨#[]⟩, ⟨#[]⟩⟩⟩
def Api_attr.cells (a : Api_attr) : List Go.Value := [.int .i64 a.Space, .string a.Prefix, .string a.Name, .string a.Value]
instance : OneC Api_attr.cells 4 := ⟨fun _ => rfl, fun a v hv => by
  have h : (Api_attr.cells a).all (·.oneCell') = true := rfl
  exact List.all_eq_true.1 h v hv⟩
instance (n : Int) : FUpd Api_attr.cells 0 (.int .i64 n) (fun a => { a with Space := n }) := ⟨fun _ => rfl, fun _ => by show _ < 4; decide⟩
instance (s : ByteArray) : FUpd Api_attr.cells 1 (.string s) (fun a => { a with Prefix := s }) := ⟨fun _ => rfl, fun _ => by show _ < 4; decide⟩
instance (s : ByteArray) : FUpd Api_attr.cells 2 (.string s) (fun a => { a with Name := s }) := ⟨fun _ => rfl, fun _ => by show _ < 4; decide⟩
instance (s : ByteArray) : FUpd Api_attr.cells 3 (.string s) (fun a => { a with Value := s }) := ⟨fun _ => rfl, fun _ => by show _ < 4; decide⟩
@[ext] structure Api_node where
  Kind : Int
  Space : Int
  Name : ByteArray
  AttrsP : Option Addr
  Attrs : List Api_attr
  AttrsC : Nat
  Data : ByteArray
  System : ByteArray
  Parent : Int
  First : Int
  Last : Int
  Prev : Int
  Next : Int
  Inner : Int
instance : Inhabited Api_node := ⟨⟨0, 0, ⟨#[]⟩, none, [], 0, ⟨#[]⟩, ⟨#[]⟩, 0, 0, 0, 0, 0, 0⟩⟩
def Api_node.cells (a : Api_node) : List Go.Value := [.int .i64 a.Kind, .int .i64 a.Space, .string a.Name, .slice a.AttrsP a.Attrs.length a.AttrsC, .string a.Data, .string a.System, .int .i64 a.Parent, .int .i64 a.First, .int .i64 a.Last, .int .i64 a.Prev, .int .i64 a.Next, .int .i64 a.Inner]
instance : OneC Api_node.cells 12 := ⟨fun _ => rfl, fun a v hv => by
  have h : (Api_node.cells a).all (·.oneCell') = true := rfl
  exact List.all_eq_true.1 h v hv⟩
instance (n : Int) : FUpd Api_node.cells 0 (.int .i64 n) (fun a => { a with Kind := n }) := ⟨fun _ => rfl, fun _ => by show _ < 12; decide⟩
instance (n : Int) : FUpd Api_node.cells 1 (.int .i64 n) (fun a => { a with Space := n }) := ⟨fun _ => rfl, fun _ => by show _ < 12; decide⟩
instance (s : ByteArray) : FUpd Api_node.cells 2 (.string s) (fun a => { a with Name := s }) := ⟨fun _ => rfl, fun _ => by show _ < 12; decide⟩
instance (p : Option Addr) (l : List Api_attr) (c : Nat) : FUpd Api_node.cells 3 (.slice p l.length c) (fun a => { a with AttrsP := p, Attrs := l, AttrsC := c }) := ⟨fun _ => rfl, fun _ => by show _ < 12; decide⟩
instance (s : ByteArray) : FUpd Api_node.cells 4 (.string s) (fun a => { a with Data := s }) := ⟨fun _ => rfl, fun _ => by show _ < 12; decide⟩
instance (s : ByteArray) : FUpd Api_node.cells 5 (.string s) (fun a => { a with System := s }) := ⟨fun _ => rfl, fun _ => by show _ < 12; decide⟩
instance (n : Int) : FUpd Api_node.cells 6 (.int .i64 n) (fun a => { a with Parent := n }) := ⟨fun _ => rfl, fun _ => by show _ < 12; decide⟩
instance (n : Int) : FUpd Api_node.cells 7 (.int .i64 n) (fun a => { a with First := n }) := ⟨fun _ => rfl, fun _ => by show _ < 12; decide⟩
instance (n : Int) : FUpd Api_node.cells 8 (.int .i64 n) (fun a => { a with Last := n }) := ⟨fun _ => rfl, fun _ => by show _ < 12; decide⟩
instance (n : Int) : FUpd Api_node.cells 9 (.int .i64 n) (fun a => { a with Prev := n }) := ⟨fun _ => rfl, fun _ => by show _ < 12; decide⟩
instance (n : Int) : FUpd Api_node.cells 10 (.int .i64 n) (fun a => { a with Next := n }) := ⟨fun _ => rfl, fun _ => by show _ < 12; decide⟩
instance (n : Int) : FUpd Api_node.cells 11 (.int .i64 n) (fun a => { a with Inner := n }) := ⟨fun _ => rfl, fun _ => by show _ < 12; decide⟩
@[ext] structure Node_one where
  Node : Api_node
  host : Int
instance : Inhabited Node_one := ⟨⟨default, 0⟩⟩
def Node_one.cells (a : Node_one) : List Go.Value := Api_node.cells a.Node ++ [.int .i64 a.host]
instance : OneC Node_one.cells 13 := ⟨fun _ => rfl, fun a v hv => by
  have h : (Node_one.cells a).all (·.oneCell') = true := rfl
  exact List.all_eq_true.1 h v hv⟩
instance (n : Int) : FUpd Node_one.cells 0 (.int .i64 n) (fun a => { a with Node := { a.Node with Kind := n } }) := ⟨fun _ => rfl, fun _ => by show _ < 13; decide⟩
instance (n : Int) : FUpd Node_one.cells 1 (.int .i64 n) (fun a => { a with Node := { a.Node with Space := n } }) := ⟨fun _ => rfl, fun _ => by show _ < 13; decide⟩
instance (s : ByteArray) : FUpd Node_one.cells 2 (.string s) (fun a => { a with Node := { a.Node with Name := s } }) := ⟨fun _ => rfl, fun _ => by show _ < 13; decide⟩
instance (p : Option Addr) (l : List Api_attr) (c : Nat) : FUpd Node_one.cells 3 (.slice p l.length c) (fun a => { a with Node := { a.Node with AttrsP := p, Attrs := l, AttrsC := c } }) := ⟨fun _ => rfl, fun _ => by show _ < 13; decide⟩
instance (s : ByteArray) : FUpd Node_one.cells 4 (.string s) (fun a => { a with Node := { a.Node with Data := s } }) := ⟨fun _ => rfl, fun _ => by show _ < 13; decide⟩
instance (s : ByteArray) : FUpd Node_one.cells 5 (.string s) (fun a => { a with Node := { a.Node with System := s } }) := ⟨fun _ => rfl, fun _ => by show _ < 13; decide⟩
instance (n : Int) : FUpd Node_one.cells 6 (.int .i64 n) (fun a => { a with Node := { a.Node with Parent := n } }) := ⟨fun _ => rfl, fun _ => by show _ < 13; decide⟩
instance (n : Int) : FUpd Node_one.cells 7 (.int .i64 n) (fun a => { a with Node := { a.Node with First := n } }) := ⟨fun _ => rfl, fun _ => by show _ < 13; decide⟩
instance (n : Int) : FUpd Node_one.cells 8 (.int .i64 n) (fun a => { a with Node := { a.Node with Last := n } }) := ⟨fun _ => rfl, fun _ => by show _ < 13; decide⟩
instance (n : Int) : FUpd Node_one.cells 9 (.int .i64 n) (fun a => { a with Node := { a.Node with Prev := n } }) := ⟨fun _ => rfl, fun _ => by show _ < 13; decide⟩
instance (n : Int) : FUpd Node_one.cells 10 (.int .i64 n) (fun a => { a with Node := { a.Node with Next := n } }) := ⟨fun _ => rfl, fun _ => by show _ < 13; decide⟩
instance (n : Int) : FUpd Node_one.cells 11 (.int .i64 n) (fun a => { a with Node := { a.Node with Inner := n } }) := ⟨fun _ => rfl, fun _ => by show _ < 13; decide⟩
instance (n : Int) : FUpd Node_one.cells 12 (.int .i64 n) (fun a => { a with host := n }) := ⟨fun _ => rfl, fun _ => by show _ < 13; decide⟩
@[ext] structure Node_arena where
  lP : Option Addr
  l : List Node_one
  lC : Nat
instance : Inhabited Node_arena := ⟨⟨none, [], 0⟩⟩
def Node_arena.cells (a : Node_arena) : List Go.Value := [.slice a.lP a.l.length a.lC]
instance : OneC Node_arena.cells 1 := ⟨fun _ => rfl, fun a v hv => by
  have h : (Node_arena.cells a).all (·.oneCell') = true := rfl
  exact List.all_eq_true.1 h v hv⟩
instance (p : Option Addr) (l : List Node_one) (c : Nat) : FUpd Node_arena.cells 0 (.slice p l.length c) (fun a => { a with lP := p, l := l, lC := c }) := ⟨fun _ => rfl, fun _ => by show _ < 1; decide⟩
@[ext] structure Strings_builder where
  addr : Option Addr
  bufP : Option Addr
  buf : List Int
  bufC : Nat
instance : Inhabited Strings_builder := ⟨⟨none, none, [], 0⟩⟩
def Strings_builder.cells (a : Strings_builder) : List Go.Value := [.pointer a.addr, .slice a.bufP a.buf.length a.bufC]
instance : OneC Strings_builder.cells 2 := ⟨fun _ => rfl, fun a v hv => by
  have h : (Strings_builder.cells a).all (·.oneCell') = true := rfl
  exact List.all_eq_true.1 h v hv⟩
instance (p : Option Addr) : FUpd Strings_builder.cells 0 (.pointer p) (fun a => { a with addr := p }) := ⟨fun _ => rfl, fun _ => by show _ < 2; decide⟩
instance (p : Option Addr) (l : List Int) (c : Nat) : FUpd Strings_builder.cells 1 (.slice p l.length c) (fun a => { a with bufP := p, buf := l, bufC := c }) := ⟨fun _ => rfl, fun _ => by show _ < 2; decide⟩
@[ext] structure Write_writer where
  Builder : Strings_builder
  a : Option Addr
  scripts : Bool
instance : Inhabited Write_writer := ⟨⟨default, none, false⟩⟩
def Write_writer.cells (a : Write_writer) : List Go.Value := Strings_builder.cells a.Builder ++ [.pointer a.a, .bool a.scripts]
instance : OneC Write_writer.cells 4 := ⟨fun _ => rfl, fun a v hv => by
  have h : (Write_writer.cells a).all (·.oneCell') = true := rfl
  exact List.all_eq_true.1 h v hv⟩
instance (p : Option Addr) : FUpd Write_writer.cells 0 (.pointer p) (fun a => { a with Builder := { a.Builder with addr := p } }) := ⟨fun _ => rfl, fun _ => by show _ < 4; decide⟩
instance (p : Option Addr) (l : List Int) (c : Nat) : FUpd Write_writer.cells 1 (.slice p l.length c) (fun a => { a with Builder := { a.Builder with bufP := p, buf := l, bufC := c } }) := ⟨fun _ => rfl, fun _ => by show _ < 4; decide⟩
instance (p : Option Addr) : FUpd Write_writer.cells 2 (.pointer p) (fun a => { a with a := p }) := ⟨fun _ => rfl, fun _ => by show _ < 4; decide⟩
instance (b : Bool) : FUpd Write_writer.cells 3 (.bool b) (fun a => { a with scripts := b }) := ⟨fun _ => rfl, fun _ => by show _ < 4; decide⟩
@[ext] structure Law17_elem where
  What : Int
  Up : Int
  N : Int
  Text : ByteArray
  LP : Option Addr
  L : List Api_attr
  LC : Nat
instance : Inhabited Law17_elem := ⟨⟨0, 0, 0, ⟨#[]⟩, none, [], 0⟩⟩
def Law17_elem.cells (a : Law17_elem) : List Go.Value := [.int .i64 a.What, .int .i64 a.Up, .int .i64 a.N, .string a.Text, .slice a.LP a.L.length a.LC]
instance : OneC Law17_elem.cells 5 := ⟨fun _ => rfl, fun a v hv => by
  have h : (Law17_elem.cells a).all (·.oneCell') = true := rfl
  exact List.all_eq_true.1 h v hv⟩
instance (n : Int) : FUpd Law17_elem.cells 0 (.int .i64 n) (fun a => { a with What := n }) := ⟨fun _ => rfl, fun _ => by show _ < 5; decide⟩
instance (n : Int) : FUpd Law17_elem.cells 1 (.int .i64 n) (fun a => { a with Up := n }) := ⟨fun _ => rfl, fun _ => by show _ < 5; decide⟩
instance (n : Int) : FUpd Law17_elem.cells 2 (.int .i64 n) (fun a => { a with N := n }) := ⟨fun _ => rfl, fun _ => by show _ < 5; decide⟩
instance (s : ByteArray) : FUpd Law17_elem.cells 3 (.string s) (fun a => { a with Text := s }) := ⟨fun _ => rfl, fun _ => by show _ < 5; decide⟩
instance (p : Option Addr) (l : List Api_attr) (c : Nat) : FUpd Law17_elem.cells 4 (.slice p l.length c) (fun a => { a with LP := p, L := l, LC := c }) := ⟨fun _ => rfl, fun _ => by show _ < 5; decide⟩
@[ext] structure Show_item where
  id : Int
  depth : Int
  line : ByteArray
instance : Inhabited Show_item := ⟨⟨0, 0, ⟨#[]⟩⟩⟩
def Show_item.cells (a : Show_item) : List Go.Value := [.int .i64 a.id, .int .i64 a.depth, .string a.line]
instance : OneC Show_item.cells 3 := ⟨fun _ => rfl, fun a v hv => by
  have h : (Show_item.cells a).all (·.oneCell') = true := rfl
  exact List.all_eq_true.1 h v hv⟩
instance (n : Int) : FUpd Show_item.cells 0 (.int .i64 n) (fun a => { a with id := n }) := ⟨fun _ => rfl, fun _ => by show _ < 3; decide⟩
instance (n : Int) : FUpd Show_item.cells 1 (.int .i64 n) (fun a => { a with depth := n }) := ⟨fun _ => rfl, fun _ => by show _ < 3; decide⟩
instance (s : ByteArray) : FUpd Show_item.cells 2 (.string s) (fun a => { a with line := s }) := ⟨fun _ => rfl, fun _ => by show _ < 3; decide⟩
@[ext] structure Show_pile_hornbeam_show_item_ where
  lP : Option Addr
  l : List Show_item
  lC : Nat
instance : Inhabited Show_pile_hornbeam_show_item_ := ⟨⟨none, [], 0⟩⟩
def Show_pile_hornbeam_show_item_.cells (a : Show_pile_hornbeam_show_item_) : List Go.Value := [.slice a.lP a.l.length a.lC]
instance : OneC Show_pile_hornbeam_show_item_.cells 1 := ⟨fun _ => rfl, fun a v hv => by
  have h : (Show_pile_hornbeam_show_item_.cells a).all (·.oneCell') = true := rfl
  exact List.all_eq_true.1 h v hv⟩
instance (p : Option Addr) (l : List Show_item) (c : Nat) : FUpd Show_pile_hornbeam_show_item_.cells 0 (.slice p l.length c) (fun a => { a with lP := p, l := l, lC := c }) := ⟨fun _ => rfl, fun _ => by show _ < 1; decide⟩
@[ext] structure Law03_op where
  What : Int
  A : Int
  B : Int
  C : Int
  N : Int
  Text : ByteArray
  LP : Option Addr
  L : List Api_attr
  LC : Nat
instance : Inhabited Law03_op := ⟨⟨0, 0, 0, 0, 0, ⟨#[]⟩, none, [], 0⟩⟩
def Law03_op.cells (a : Law03_op) : List Go.Value := [.int .i64 a.What, .int .i64 a.A, .int .i64 a.B, .int .i64 a.C, .int .i64 a.N, .string a.Text, .slice a.LP a.L.length a.LC]
instance : OneC Law03_op.cells 7 := ⟨fun _ => rfl, fun a v hv => by
  have h : (Law03_op.cells a).all (·.oneCell') = true := rfl
  exact List.all_eq_true.1 h v hv⟩
instance (n : Int) : FUpd Law03_op.cells 0 (.int .i64 n) (fun a => { a with What := n }) := ⟨fun _ => rfl, fun _ => by show _ < 7; decide⟩
instance (n : Int) : FUpd Law03_op.cells 1 (.int .i64 n) (fun a => { a with A := n }) := ⟨fun _ => rfl, fun _ => by show _ < 7; decide⟩
instance (n : Int) : FUpd Law03_op.cells 2 (.int .i64 n) (fun a => { a with B := n }) := ⟨fun _ => rfl, fun _ => by show _ < 7; decide⟩
instance (n : Int) : FUpd Law03_op.cells 3 (.int .i64 n) (fun a => { a with C := n }) := ⟨fun _ => rfl, fun _ => by show _ < 7; decide⟩
instance (n : Int) : FUpd Law03_op.cells 4 (.int .i64 n) (fun a => { a with N := n }) := ⟨fun _ => rfl, fun _ => by show _ < 7; decide⟩
instance (s : ByteArray) : FUpd Law03_op.cells 5 (.string s) (fun a => { a with Text := s }) := ⟨fun _ => rfl, fun _ => by show _ < 7; decide⟩
instance (p : Option Addr) (l : List Api_attr) (c : Nat) : FUpd Law03_op.cells 6 (.slice p l.length c) (fun a => { a with LP := p, L := l, LC := c }) := ⟨fun _ => rfl, fun _ => by show _ < 7; decide⟩
@[ext] structure Show_twin where
  x : Int
  y : Int
instance : Inhabited Show_twin := ⟨⟨0, 0⟩⟩
def Show_twin.cells (a : Show_twin) : List Go.Value := [.int .i64 a.x, .int .i64 a.y]
instance : OneC Show_twin.cells 2 := ⟨fun _ => rfl, fun a v hv => by
  have h : (Show_twin.cells a).all (·.oneCell') = true := rfl
  exact List.all_eq_true.1 h v hv⟩
instance (n : Int) : FUpd Show_twin.cells 0 (.int .i64 n) (fun a => { a with x := n }) := ⟨fun _ => rfl, fun _ => by show _ < 2; decide⟩
instance (n : Int) : FUpd Show_twin.cells 1 (.int .i64 n) (fun a => { a with y := n }) := ⟨fun _ => rfl, fun _ => by show _ < 2; decide⟩
@[ext] structure Show_pile_hornbeam_show_twin_ where
  lP : Option Addr
  l : List Show_twin
  lC : Nat
instance : Inhabited Show_pile_hornbeam_show_twin_ := ⟨⟨none, [], 0⟩⟩
def Show_pile_hornbeam_show_twin_.cells (a : Show_pile_hornbeam_show_twin_) : List Go.Value := [.slice a.lP a.l.length a.lC]
instance : OneC Show_pile_hornbeam_show_twin_.cells 1 := ⟨fun _ => rfl, fun a v hv => by
  have h : (Show_pile_hornbeam_show_twin_.cells a).all (·.oneCell') = true := rfl
  exact List.all_eq_true.1 h v hv⟩
instance (p : Option Addr) (l : List Show_twin) (c : Nat) : FUpd Show_pile_hornbeam_show_twin_.cells 0 (.slice p l.length c) (fun a => { a with lP := p, l := l, lC := c }) := ⟨fun _ => rfl, fun _ => by show _ < 1; decide⟩
@[ext] structure Ref01_one where
  Kind : Int
  Space : Int
  Name : ByteArray
  AttrsP : Option Addr
  Attrs : List Api_attr
  AttrsC : Nat
  Data : ByteArray
  System : ByteArray
  Inner : Int
  Host : Int
  Up : Int
  KidsP : Option Addr
  Kids : List Int
  KidsC : Nat
instance : Inhabited Ref01_one := ⟨⟨0, 0, ⟨#[]⟩, none, [], 0, ⟨#[]⟩, ⟨#[]⟩, 0, 0, 0, none, [], 0⟩⟩
def Ref01_one.cells (a : Ref01_one) : List Go.Value := [.int .i64 a.Kind, .int .i64 a.Space, .string a.Name, .slice a.AttrsP a.Attrs.length a.AttrsC, .string a.Data, .string a.System, .int .i64 a.Inner, .int .i64 a.Host, .int .i64 a.Up, .slice a.KidsP a.Kids.length a.KidsC]
instance : OneC Ref01_one.cells 10 := ⟨fun _ => rfl, fun a v hv => by
  have h : (Ref01_one.cells a).all (·.oneCell') = true := rfl
  exact List.all_eq_true.1 h v hv⟩
instance (n : Int) : FUpd Ref01_one.cells 0 (.int .i64 n) (fun a => { a with Kind := n }) := ⟨fun _ => rfl, fun _ => by show _ < 10; decide⟩
instance (n : Int) : FUpd Ref01_one.cells 1 (.int .i64 n) (fun a => { a with Space := n }) := ⟨fun _ => rfl, fun _ => by show _ < 10; decide⟩
instance (s : ByteArray) : FUpd Ref01_one.cells 2 (.string s) (fun a => { a with Name := s }) := ⟨fun _ => rfl, fun _ => by show _ < 10; decide⟩
instance (p : Option Addr) (l : List Api_attr) (c : Nat) : FUpd Ref01_one.cells 3 (.slice p l.length c) (fun a => { a with AttrsP := p, Attrs := l, AttrsC := c }) := ⟨fun _ => rfl, fun _ => by show _ < 10; decide⟩
instance (s : ByteArray) : FUpd Ref01_one.cells 4 (.string s) (fun a => { a with Data := s }) := ⟨fun _ => rfl, fun _ => by show _ < 10; decide⟩
instance (s : ByteArray) : FUpd Ref01_one.cells 5 (.string s) (fun a => { a with System := s }) := ⟨fun _ => rfl, fun _ => by show _ < 10; decide⟩
instance (n : Int) : FUpd Ref01_one.cells 6 (.int .i64 n) (fun a => { a with Inner := n }) := ⟨fun _ => rfl, fun _ => by show _ < 10; decide⟩
instance (n : Int) : FUpd Ref01_one.cells 7 (.int .i64 n) (fun a => { a with Host := n }) := ⟨fun _ => rfl, fun _ => by show _ < 10; decide⟩
instance (n : Int) : FUpd Ref01_one.cells 8 (.int .i64 n) (fun a => { a with Up := n }) := ⟨fun _ => rfl, fun _ => by show _ < 10; decide⟩
instance (p : Option Addr) (l : List Int) (c : Nat) : FUpd Ref01_one.cells 9 (.slice p l.length c) (fun a => { a with KidsP := p, Kids := l, KidsC := c }) := ⟨fun _ => rfl, fun _ => by show _ < 10; decide⟩
@[ext] structure Ref01_arena where
  LP : Option Addr
  L : List Ref01_one
  LC : Nat
instance : Inhabited Ref01_arena := ⟨⟨none, [], 0⟩⟩
def Ref01_arena.cells (a : Ref01_arena) : List Go.Value := [.slice a.LP a.L.length a.LC]
instance : OneC Ref01_arena.cells 1 := ⟨fun _ => rfl, fun a v hv => by
  have h : (Ref01_arena.cells a).all (·.oneCell') = true := rfl
  exact List.all_eq_true.1 h v hv⟩
instance (p : Option Addr) (l : List Ref01_one) (c : Nat) : FUpd Ref01_arena.cells 0 (.slice p l.length c) (fun a => { a with LP := p, L := l, LC := c }) := ⟨fun _ => rfl, fun _ => by show _ < 1; decide⟩
end Go.Proofs.Ythkmnohghpdjhaa
