/- The records of this seat's types: what their cells are. -/
import Derived.Test.YtoohapbaelmkcaaGreatHc
import Derived.Test.YtoohapbaelmkcaaGreatTy
set_option linter.unusedVariables false
namespace Go.Proofs.YtoohapbaelmkcaaGreat
open Go Go.Hb
@[ext] structure Law15_world where
  a : Option Addr
  s : Option Addr
  l : Option Addr
instance : Inhabited Law15_world := ⟨⟨none, none, none⟩⟩
def Law15_world.cells (a : Law15_world) : List Go.Value := [.pointer a.a, .pointer a.s, .pointer a.l]
instance : OneC Law15_world.cells 3 := ⟨fun _ => rfl, fun a v hv => by
  have h : (Law15_world.cells a).all (·.oneCell') = true := rfl
  exact List.all_eq_true.1 h v hv⟩
instance (p : Option Addr) : FUpd Law15_world.cells 0 (.pointer p) (fun a => { a with a := p }) := ⟨fun _ => rfl, fun _ => by show _ < 3; decide⟩
instance (p : Option Addr) : FUpd Law15_world.cells 1 (.pointer p) (fun a => { a with s := p }) := ⟨fun _ => rfl, fun _ => by show _ < 3; decide⟩
instance (p : Option Addr) : FUpd Law15_world.cells 2 (.pointer p) (fun a => { a with l := p }) := ⟨fun _ => rfl, fun _ => by show _ < 3; decide⟩
@[ext] structure Law15_mirror where
  a : Option Addr
  s : Option Addr
  l : Option Addr
instance : Inhabited Law15_mirror := ⟨⟨none, none, none⟩⟩
def Law15_mirror.cells (a : Law15_mirror) : List Go.Value := [.pointer a.a, .pointer a.s, .pointer a.l]
instance : OneC Law15_mirror.cells 3 := ⟨fun _ => rfl, fun a v hv => by
  have h : (Law15_mirror.cells a).all (·.oneCell') = true := rfl
  exact List.all_eq_true.1 h v hv⟩
instance (p : Option Addr) : FUpd Law15_mirror.cells 0 (.pointer p) (fun a => { a with a := p }) := ⟨fun _ => rfl, fun _ => by show _ < 3; decide⟩
instance (p : Option Addr) : FUpd Law15_mirror.cells 1 (.pointer p) (fun a => { a with s := p }) := ⟨fun _ => rfl, fun _ => by show _ < 3; decide⟩
instance (p : Option Addr) : FUpd Law15_mirror.cells 2 (.pointer p) (fun a => { a with l := p }) := ⟨fun _ => rfl, fun _ => by show _ < 3; decide⟩
@[ext] structure Api_attr where
  Space : Int
  Prefix : ByteArray
  Name : ByteArray
  Value : ByteArray
instance : Inhabited Api_attr := ⟨⟨0, ⟨#[]⟩, ⟨#[]⟩, ⟨#[]⟩⟩⟩
def Api_attr.cells (a : Api_attr) : List Go.Value := [.int .i64 a.Space, .string a.Prefix, .string a.Name, .string a.Value]
instance : OneC Api_attr.cells 4 := ⟨fun _ => rfl, fun a v hv => by
  have h : (Api_attr.cells a).all (·.oneCell') = true := rfl
  exact List.all_eq_true.1 h v hv⟩
instance (n : Int) : FUpd Api_attr.cells 0 (.int .i64 n) (fun a => { a with Space := n }) := ⟨fun _ => rfl, fun _ => by show _ < 4; decide⟩
instance (s : ByteArray) : FUpd Api_attr.cells 1 (.string s) (fun a => { a with Prefix := s }) := ⟨fun _ => rfl, fun _ => by show _ < 4; decide⟩
instance (s : ByteArray) : FUpd Api_attr.cells 2 (.string s) (fun a => { a with Name := s }) := ⟨fun _ => rfl, fun _ => by show _ < 4; decide⟩
instance (s : ByteArray) : FUpd Api_attr.cells 3 (.string s) (fun a => { a with Value := s }) := ⟨fun _ => rfl, fun _ => by show _ < 4; decide⟩
@[ext] structure Api_node where
  Kind : Int
  Space : Int
  Name : ByteArray
  AttrsP : Option Addr
  Attrs : List Api_attr
  AttrsC : Nat
  Data : ByteArray
  System : ByteArray
  Parent : Int
  First : Int
  Last : Int
  Prev : Int
  Next : Int
  Inner : Int
instance : Inhabited Api_node := ⟨⟨0, 0, ⟨#[]⟩, none, [], 0, ⟨#[]⟩, ⟨#[]⟩, 0, 0, 0, 0, 0, 0⟩⟩
def Api_node.cells (a : Api_node) : List Go.Value := [.int .i64 a.Kind, .int .i64 a.Space, .string a.Name, .slice a.AttrsP a.Attrs.length a.AttrsC, .string a.Data, .string a.System, .int .i64 a.Parent, .int .i64 a.First, .int .i64 a.Last, .int .i64 a.Prev, .int .i64 a.Next, .int .i64 a.Inner]
instance : OneC Api_node.cells 12 := ⟨fun _ => rfl, fun a v hv => by
  have h : (Api_node.cells a).all (·.oneCell') = true := rfl
  exact List.all_eq_true.1 h v hv⟩
instance (n : Int) : FUpd Api_node.cells 0 (.int .i64 n) (fun a => { a with Kind := n }) := ⟨fun _ => rfl, fun _ => by show _ < 12; decide⟩
instance (n : Int) : FUpd Api_node.cells 1 (.int .i64 n) (fun a => { a with Space := n }) := ⟨fun _ => rfl, fun _ => by show _ < 12; decide⟩
instance (s : ByteArray) : FUpd Api_node.cells 2 (.string s) (fun a => { a with Name := s }) := ⟨fun _ => rfl, fun _ => by show _ < 12; decide⟩
instance (p : Option Addr) (l : List Api_attr) (c : Nat) : FUpd Api_node.cells 3 (.slice p l.length c) (fun a => { a with AttrsP := p, Attrs := l, AttrsC := c }) := ⟨fun _ => rfl, fun _ => by show _ < 12; decide⟩
instance (s : ByteArray) : FUpd Api_node.cells 4 (.string s) (fun a => { a with Data := s }) := ⟨fun _ => rfl, fun _ => by show _ < 12; decide⟩
instance (s : ByteArray) : FUpd Api_node.cells 5 (.string s) (fun a => { a with System := s }) := ⟨fun _ => rfl, fun _ => by show _ < 12; decide⟩
instance (n : Int) : FUpd Api_node.cells 6 (.int .i64 n) (fun a => { a with Parent := n }) := ⟨fun _ => rfl, fun _ => by show _ < 12; decide⟩
instance (n : Int) : FUpd Api_node.cells 7 (.int .i64 n) (fun a => { a with First := n }) := ⟨fun _ => rfl, fun _ => by show _ < 12; decide⟩
instance (n : Int) : FUpd Api_node.cells 8 (.int .i64 n) (fun a => { a with Last := n }) := ⟨fun _ => rfl, fun _ => by show _ < 12; decide⟩
instance (n : Int) : FUpd Api_node.cells 9 (.int .i64 n) (fun a => { a with Prev := n }) := ⟨fun _ => rfl, fun _ => by show _ < 12; decide⟩
instance (n : Int) : FUpd Api_node.cells 10 (.int .i64 n) (fun a => { a with Next := n }) := ⟨fun _ => rfl, fun _ => by show _ < 12; decide⟩
instance (n : Int) : FUpd Api_node.cells 11 (.int .i64 n) (fun a => { a with Inner := n }) := ⟨fun _ => rfl, fun _ => by show _ < 12; decide⟩
@[ext] structure Api_token where
  Kind : Int
  Name : ByteArray
  Data : ByteArray
  System : ByteArray
  Has : Int
  Quirks : Bool
  Char : Int
  Self : Bool
  AttrsP : Option Addr
  Attrs : List Api_attr
  AttrsC : Nat
instance : Inhabited Api_token := ⟨⟨0, ⟨#[]⟩, ⟨#[]⟩, ⟨#[]⟩, 0, false, 0, false, none, [], 0⟩⟩
def Api_token.cells (a : Api_token) : List Go.Value := [.int .i64 a.Kind, .string a.Name, .string a.Data, .string a.System, .int .i64 a.Has, .bool a.Quirks, .int .i32 a.Char, .bool a.Self, .slice a.AttrsP a.Attrs.length a.AttrsC]
instance : OneC Api_token.cells 9 := ⟨fun _ => rfl, fun a v hv => by
  have h : (Api_token.cells a).all (·.oneCell') = true := rfl
  exact List.all_eq_true.1 h v hv⟩
instance (n : Int) : FUpd Api_token.cells 0 (.int .i64 n) (fun a => { a with Kind := n }) := ⟨fun _ => rfl, fun _ => by show _ < 9; decide⟩
instance (s : ByteArray) : FUpd Api_token.cells 1 (.string s) (fun a => { a with Name := s }) := ⟨fun _ => rfl, fun _ => by show _ < 9; decide⟩
instance (s : ByteArray) : FUpd Api_token.cells 2 (.string s) (fun a => { a with Data := s }) := ⟨fun _ => rfl, fun _ => by show _ < 9; decide⟩
instance (s : ByteArray) : FUpd Api_token.cells 3 (.string s) (fun a => { a with System := s }) := ⟨fun _ => rfl, fun _ => by show _ < 9; decide⟩
instance (n : Int) : FUpd Api_token.cells 4 (.int .i64 n) (fun a => { a with Has := n }) := ⟨fun _ => rfl, fun _ => by show _ < 9; decide⟩
instance (b : Bool) : FUpd Api_token.cells 5 (.bool b) (fun a => { a with Quirks := b }) := ⟨fun _ => rfl, fun _ => by show _ < 9; decide⟩
instance (n : Int) : FUpd Api_token.cells 6 (.int .i32 n) (fun a => { a with Char := n }) := ⟨fun _ => rfl, fun _ => by show _ < 9; decide⟩
instance (b : Bool) : FUpd Api_token.cells 7 (.bool b) (fun a => { a with Self := b }) := ⟨fun _ => rfl, fun _ => by show _ < 9; decide⟩
instance (p : Option Addr) (l : List Api_attr) (c : Nat) : FUpd Api_token.cells 8 (.slice p l.length c) (fun a => { a with AttrsP := p, Attrs := l, AttrsC := c }) := ⟨fun _ => rfl, fun _ => by show _ < 9; decide⟩
@[ext] structure Api_entry where
  Node : Int
  Token : Api_token
instance : Inhabited Api_entry := ⟨⟨0, default⟩⟩
def Api_entry.cells (a : Api_entry) : List Go.Value := [.int .i64 a.Node] ++ Api_token.cells a.Token
instance : OneC Api_entry.cells 10 := ⟨fun _ => rfl, fun a v hv => by
  have h : (Api_entry.cells a).all (·.oneCell') = true := rfl
  exact List.all_eq_true.1 h v hv⟩
instance (n : Int) : FUpd Api_entry.cells 0 (.int .i64 n) (fun a => { a with Node := n }) := ⟨fun _ => rfl, fun _ => by show _ < 10; decide⟩
instance (n : Int) : FUpd Api_entry.cells 1 (.int .i64 n) (fun a => { a with Token := { a.Token with Kind := n } }) := ⟨fun _ => rfl, fun _ => by show _ < 10; decide⟩
instance (s : ByteArray) : FUpd Api_entry.cells 2 (.string s) (fun a => { a with Token := { a.Token with Name := s } }) := ⟨fun _ => rfl, fun _ => by show _ < 10; decide⟩
instance (s : ByteArray) : FUpd Api_entry.cells 3 (.string s) (fun a => { a with Token := { a.Token with Data := s } }) := ⟨fun _ => rfl, fun _ => by show _ < 10; decide⟩
instance (s : ByteArray) : FUpd Api_entry.cells 4 (.string s) (fun a => { a with Token := { a.Token with System := s } }) := ⟨fun _ => rfl, fun _ => by show _ < 10; decide⟩
instance (n : Int) : FUpd Api_entry.cells 5 (.int .i64 n) (fun a => { a with Token := { a.Token with Has := n } }) := ⟨fun _ => rfl, fun _ => by show _ < 10; decide⟩
instance (b : Bool) : FUpd Api_entry.cells 6 (.bool b) (fun a => { a with Token := { a.Token with Quirks := b } }) := ⟨fun _ => rfl, fun _ => by show _ < 10; decide⟩
instance (n : Int) : FUpd Api_entry.cells 7 (.int .i32 n) (fun a => { a with Token := { a.Token with Char := n } }) := ⟨fun _ => rfl, fun _ => by show _ < 10; decide⟩
instance (b : Bool) : FUpd Api_entry.cells 8 (.bool b) (fun a => { a with Token := { a.Token with Self := b } }) := ⟨fun _ => rfl, fun _ => by show _ < 10; decide⟩
instance (p : Option Addr) (l : List Api_attr) (c : Nat) : FUpd Api_entry.cells 9 (.slice p l.length c) (fun a => { a with Token := { a.Token with AttrsP := p, Attrs := l, AttrsC := c } }) := ⟨fun _ => rfl, fun _ => by show _ < 10; decide⟩
@[ext] structure Law15_act where
  Text : ByteArray
  Up : Int
  Open : Bool
  Active : Bool
  Mark : Bool
instance : Inhabited Law15_act := ⟨⟨⟨#[]⟩, 0, false, false, false⟩⟩
def Law15_act.cells (a : Law15_act) : List Go.Value := [.string a.Text, .int .i64 a.Up, .bool a.Open, .bool a.Active, .bool a.Mark]
instance : OneC Law15_act.cells 5 := ⟨fun _ => rfl, fun a v hv => by
  have h : (Law15_act.cells a).all (·.oneCell') = true := rfl
  exact List.all_eq_true.1 h v hv⟩
instance (s : ByteArray) : FUpd Law15_act.cells 0 (.string s) (fun a => { a with Text := s }) := ⟨fun _ => rfl, fun _ => by show _ < 5; decide⟩
instance (n : Int) : FUpd Law15_act.cells 1 (.int .i64 n) (fun a => { a with Up := n }) := ⟨fun _ => rfl, fun _ => by show _ < 5; decide⟩
instance (b : Bool) : FUpd Law15_act.cells 2 (.bool b) (fun a => { a with Open := b }) := ⟨fun _ => rfl, fun _ => by show _ < 5; decide⟩
instance (b : Bool) : FUpd Law15_act.cells 3 (.bool b) (fun a => { a with Active := b }) := ⟨fun _ => rfl, fun _ => by show _ < 5; decide⟩
instance (b : Bool) : FUpd Law15_act.cells 4 (.bool b) (fun a => { a with Mark := b }) := ⟨fun _ => rfl, fun _ => by show _ < 5; decide⟩
@[ext] structure Adopt_agency where
  a : Option Addr
  s : Option Addr
  l : Option Addr
  name : ByteArray
  foster : Bool
  errs : Int
  mark : Int
instance : Inhabited Adopt_agency := ⟨⟨none, none, none, ⟨#[]⟩, false, 0, 0⟩⟩
def Adopt_agency.cells (a : Adopt_agency) : List Go.Value := [.pointer a.a, .pointer a.s, .pointer a.l, .string a.name, .bool a.foster, .int .i64 a.errs, .int .i64 a.mark]
instance : OneC Adopt_agency.cells 7 := ⟨fun _ => rfl, fun a v hv => by
  have h : (Adopt_agency.cells a).all (·.oneCell') = true := rfl
  exact List.all_eq_true.1 h v hv⟩
instance (p : Option Addr) : FUpd Adopt_agency.cells 0 (.pointer p) (fun a => { a with a := p }) := ⟨fun _ => rfl, fun _ => by show _ < 7; decide⟩
instance (p : Option Addr) : FUpd Adopt_agency.cells 1 (.pointer p) (fun a => { a with s := p }) := ⟨fun _ => rfl, fun _ => by show _ < 7; decide⟩
instance (p : Option Addr) : FUpd Adopt_agency.cells 2 (.pointer p) (fun a => { a with l := p }) := ⟨fun _ => rfl, fun _ => by show _ < 7; decide⟩
instance (s : ByteArray) : FUpd Adopt_agency.cells 3 (.string s) (fun a => { a with name := s }) := ⟨fun _ => rfl, fun _ => by show _ < 7; decide⟩
instance (b : Bool) : FUpd Adopt_agency.cells 4 (.bool b) (fun a => { a with foster := b }) := ⟨fun _ => rfl, fun _ => by show _ < 7; decide⟩
instance (n : Int) : FUpd Adopt_agency.cells 5 (.int .i64 n) (fun a => { a with errs := n }) := ⟨fun _ => rfl, fun _ => by show _ < 7; decide⟩
instance (n : Int) : FUpd Adopt_agency.cells 6 (.int .i64 n) (fun a => { a with mark := n }) := ⟨fun _ => rfl, fun _ => by show _ < 7; decide⟩
@[ext] structure Ref01_one where
  Kind : Int
  Space : Int
  Name : ByteArray
  AttrsP : Option Addr
  Attrs : List Api_attr
  AttrsC : Nat
  Data : ByteArray
  System : ByteArray
  Inner : Int
  Host : Int
  Up : Int
  KidsP : Option Addr
  Kids : List Int
  KidsC : Nat
instance : Inhabited Ref01_one := ⟨⟨0, 0, ⟨#[]⟩, none, [], 0, ⟨#[]⟩, ⟨#[]⟩, 0, 0, 0, none, [], 0⟩⟩
def Ref01_one.cells (a : Ref01_one) : List Go.Value := [.int .i64 a.Kind, .int .i64 a.Space, .string a.Name, .slice a.AttrsP a.Attrs.length a.AttrsC, .string a.Data, .string a.System, .int .i64 a.Inner, .int .i64 a.Host, .int .i64 a.Up, .slice a.KidsP a.Kids.length a.KidsC]
instance : OneC Ref01_one.cells 10 := ⟨fun _ => rfl, fun a v hv => by
  have h : (Ref01_one.cells a).all (·.oneCell') = true := rfl
  exact List.all_eq_true.1 h v hv⟩
instance (n : Int) : FUpd Ref01_one.cells 0 (.int .i64 n) (fun a => { a with Kind := n }) := ⟨fun _ => rfl, fun _ => by show _ < 10; decide⟩
instance (n : Int) : FUpd Ref01_one.cells 1 (.int .i64 n) (fun a => { a with Space := n }) := ⟨fun _ => rfl, fun _ => by show _ < 10; decide⟩
instance (s : ByteArray) : FUpd Ref01_one.cells 2 (.string s) (fun a => { a with Name := s }) := ⟨fun _ => rfl, fun _ => by show _ < 10; decide⟩
instance (p : Option Addr) (l : List Api_attr) (c : Nat) : FUpd Ref01_one.cells 3 (.slice p l.length c) (fun a => { a with AttrsP := p, Attrs := l, AttrsC := c }) := ⟨fun _ => rfl, fun _ => by show _ < 10; decide⟩
instance (s : ByteArray) : FUpd Ref01_one.cells 4 (.string s) (fun a => { a with Data := s }) := ⟨fun _ => rfl, fun _ => by show _ < 10; decide⟩
instance (s : ByteArray) : FUpd Ref01_one.cells 5 (.string s) (fun a => { a with System := s }) := ⟨fun _ => rfl, fun _ => by show _ < 10; decide⟩
instance (n : Int) : FUpd Ref01_one.cells 6 (.int .i64 n) (fun a => { a with Inner := n }) := ⟨fun _ => rfl, fun _ => by show _ < 10; decide⟩
instance (n : Int) : FUpd Ref01_one.cells 7 (.int .i64 n) (fun a => { a with Host := n }) := ⟨fun _ => rfl, fun _ => by show _ < 10; decide⟩
instance (n : Int) : FUpd Ref01_one.cells 8 (.int .i64 n) (fun a => { a with Up := n }) := ⟨fun _ => rfl, fun _ => by show _ < 10; decide⟩
instance (p : Option Addr) (l : List Int) (c : Nat) : FUpd Ref01_one.cells 9 (.slice p l.length c) (fun a => { a with KidsP := p, Kids := l, KidsC := c }) := ⟨fun _ => rfl, fun _ => by show _ < 10; decide⟩
@[ext] structure Ref01_arena where
  LP : Option Addr
  L : List Ref01_one
  LC : Nat
instance : Inhabited Ref01_arena := ⟨⟨none, [], 0⟩⟩
def Ref01_arena.cells (a : Ref01_arena) : List Go.Value := [.slice a.LP a.L.length a.LC]
instance : OneC Ref01_arena.cells 1 := ⟨fun _ => rfl, fun a v hv => by
  have h : (Ref01_arena.cells a).all (·.oneCell') = true := rfl
  exact List.all_eq_true.1 h v hv⟩
instance (p : Option Addr) (l : List Ref01_one) (c : Nat) : FUpd Ref01_arena.cells 0 (.slice p l.length c) (fun a => { a with LP := p, L := l, LC := c }) := ⟨fun _ => rfl, fun _ => by show _ < 1; decide⟩
@[ext] structure Ref15_agency where
  a : Option Addr
  s : Option Addr
  l : Option Addr
  foster : Bool
  errs : Int
instance : Inhabited Ref15_agency := ⟨⟨none, none, none, false, 0⟩⟩
def Ref15_agency.cells (a : Ref15_agency) : List Go.Value := [.pointer a.a, .pointer a.s, .pointer a.l, .bool a.foster, .int .i64 a.errs]
instance : OneC Ref15_agency.cells 5 := ⟨fun _ => rfl, fun a v hv => by
  have h : (Ref15_agency.cells a).all (·.oneCell') = true := rfl
  exact List.all_eq_true.1 h v hv⟩
instance (p : Option Addr) : FUpd Ref15_agency.cells 0 (.pointer p) (fun a => { a with a := p }) := ⟨fun _ => rfl, fun _ => by show _ < 5; decide⟩
instance (p : Option Addr) : FUpd Ref15_agency.cells 1 (.pointer p) (fun a => { a with s := p }) := ⟨fun _ => rfl, fun _ => by show _ < 5; decide⟩
instance (p : Option Addr) : FUpd Ref15_agency.cells 2 (.pointer p) (fun a => { a with l := p }) := ⟨fun _ => rfl, fun _ => by show _ < 5; decide⟩
instance (b : Bool) : FUpd Ref15_agency.cells 3 (.bool b) (fun a => { a with foster := b }) := ⟨fun _ => rfl, fun _ => by show _ < 5; decide⟩
instance (n : Int) : FUpd Ref15_agency.cells 4 (.int .i64 n) (fun a => { a with errs := n }) := ⟨fun _ => rfl, fun _ => by show _ < 5; decide⟩
@[ext] structure Ref12_stack where
  A : Option Addr
  LP : Option Addr
  L : List Int
  LC : Nat
instance : Inhabited Ref12_stack := ⟨⟨none, none, [], 0⟩⟩
def Ref12_stack.cells (a : Ref12_stack) : List Go.Value := [.pointer a.A, .slice a.LP a.L.length a.LC]
instance : OneC Ref12_stack.cells 2 := ⟨fun _ => rfl, fun a v hv => by
  have h : (Ref12_stack.cells a).all (·.oneCell') = true := rfl
  exact List.all_eq_true.1 h v hv⟩
instance (p : Option Addr) : FUpd Ref12_stack.cells 0 (.pointer p) (fun a => { a with A := p }) := ⟨fun _ => rfl, fun _ => by show _ < 2; decide⟩
instance (p : Option Addr) (l : List Int) (c : Nat) : FUpd Ref12_stack.cells 1 (.slice p l.length c) (fun a => { a with LP := p, L := l, LC := c }) := ⟨fun _ => rfl, fun _ => by show _ < 2; decide⟩
@[ext] structure Ref13_list where
  A : Option Addr
  LP : Option Addr
  L : List Api_entry
  LC : Nat
instance : Inhabited Ref13_list := ⟨⟨none, none, [], 0⟩⟩
def Ref13_list.cells (a : Ref13_list) : List Go.Value := [.pointer a.A, .slice a.LP a.L.length a.LC]
instance : OneC Ref13_list.cells 2 := ⟨fun _ => rfl, fun a v hv => by
  have h : (Ref13_list.cells a).all (·.oneCell') = true := rfl
  exact List.all_eq_true.1 h v hv⟩
instance (p : Option Addr) : FUpd Ref13_list.cells 0 (.pointer p) (fun a => { a with A := p }) := ⟨fun _ => rfl, fun _ => by show _ < 2; decide⟩
instance (p : Option Addr) (l : List Api_entry) (c : Nat) : FUpd Ref13_list.cells 1 (.slice p l.length c) (fun a => { a with LP := p, L := l, LC := c }) := ⟨fun _ => rfl, fun _ => by show _ < 2; decide⟩
@[ext] structure Node_one where
  Node : Api_node
  host : Int
instance : Inhabited Node_one := ⟨⟨default, 0⟩⟩
def Node_one.cells (a : Node_one) : List Go.Value := Api_node.cells a.Node ++ [.int .i64 a.host]
instance : OneC Node_one.cells 13 := ⟨fun _ => rfl, fun a v hv => by
  have h : (Node_one.cells a).all (·.oneCell') = true := rfl
  exact List.all_eq_true.1 h v hv⟩
instance (n : Int) : FUpd Node_one.cells 0 (.int .i64 n) (fun a => { a with Node := { a.Node with Kind := n } }) := ⟨fun _ => rfl, fun _ => by show _ < 13; decide⟩
instance (n : Int) : FUpd Node_one.cells 1 (.int .i64 n) (fun a => { a with Node := { a.Node with Space := n } }) := ⟨fun _ => rfl, fun _ => by show _ < 13; decide⟩
instance (s : ByteArray) : FUpd Node_one.cells 2 (.string s) (fun a => { a with Node := { a.Node with Name := s } }) := ⟨fun _ => rfl, fun _ => by show _ < 13; decide⟩
instance (p : Option Addr) (l : List Api_attr) (c : Nat) : FUpd Node_one.cells 3 (.slice p l.length c) (fun a => { a with Node := { a.Node with AttrsP := p, Attrs := l, AttrsC := c } }) := ⟨fun _ => rfl, fun _ => by show _ < 13; decide⟩
instance (s : ByteArray) : FUpd Node_one.cells 4 (.string s) (fun a => { a with Node := { a.Node with Data := s } }) := ⟨fun _ => rfl, fun _ => by show _ < 13; decide⟩
instance (s : ByteArray) : FUpd Node_one.cells 5 (.string s) (fun a => { a with Node := { a.Node with System := s } }) := ⟨fun _ => rfl, fun _ => by show _ < 13; decide⟩
instance (n : Int) : FUpd Node_one.cells 6 (.int .i64 n) (fun a => { a with Node := { a.Node with Parent := n } }) := ⟨fun _ => rfl, fun _ => by show _ < 13; decide⟩
instance (n : Int) : FUpd Node_one.cells 7 (.int .i64 n) (fun a => { a with Node := { a.Node with First := n } }) := ⟨fun _ => rfl, fun _ => by show _ < 13; decide⟩
instance (n : Int) : FUpd Node_one.cells 8 (.int .i64 n) (fun a => { a with Node := { a.Node with Last := n } }) := ⟨fun _ => rfl, fun _ => by show _ < 13; decide⟩
instance (n : Int) : FUpd Node_one.cells 9 (.int .i64 n) (fun a => { a with Node := { a.Node with Prev := n } }) := ⟨fun _ => rfl, fun _ => by show _ < 13; decide⟩
instance (n : Int) : FUpd Node_one.cells 10 (.int .i64 n) (fun a => { a with Node := { a.Node with Next := n } }) := ⟨fun _ => rfl, fun _ => by show _ < 13; decide⟩
instance (n : Int) : FUpd Node_one.cells 11 (.int .i64 n) (fun a => { a with Node := { a.Node with Inner := n } }) := ⟨fun _ => rfl, fun _ => by show _ < 13; decide⟩
instance (n : Int) : FUpd Node_one.cells 12 (.int .i64 n) (fun a => { a with host := n }) := ⟨fun _ => rfl, fun _ => by show _ < 13; decide⟩
@[ext] structure Node_arena where
  lP : Option Addr
  l : List Node_one
  lC : Nat
instance : Inhabited Node_arena := ⟨⟨none, [], 0⟩⟩
def Node_arena.cells (a : Node_arena) : List Go.Value := [.slice a.lP a.l.length a.lC]
instance : OneC Node_arena.cells 1 := ⟨fun _ => rfl, fun a v hv => by
  have h : (Node_arena.cells a).all (·.oneCell') = true := rfl
  exact List.all_eq_true.1 h v hv⟩
instance (p : Option Addr) (l : List Node_one) (c : Nat) : FUpd Node_arena.cells 0 (.slice p l.length c) (fun a => { a with lP := p, l := l, lC := c }) := ⟨fun _ => rfl, fun _ => by show _ < 1; decide⟩
@[ext] structure Stack_row_int_ where
  lP : Option Addr
  l : List Int
  lC : Nat
instance : Inhabited Stack_row_int_ := ⟨⟨none, [], 0⟩⟩
def Stack_row_int_.cells (a : Stack_row_int_) : List Go.Value := [.slice a.lP a.l.length a.lC]
instance : OneC Stack_row_int_.cells 1 := ⟨fun _ => rfl, fun a v hv => by
  have h : (Stack_row_int_.cells a).all (·.oneCell') = true := rfl
  exact List.all_eq_true.1 h v hv⟩
instance (p : Option Addr) (l : List Int) (c : Nat) : FUpd Stack_row_int_.cells 0 (.slice p l.length c) (fun a => { a with lP := p, l := l, lC := c }) := ⟨fun _ => rfl, fun _ => by show _ < 1; decide⟩
@[ext] structure Stack_stack where
  a : Option Addr
  row : Stack_row_int_
instance : Inhabited Stack_stack := ⟨⟨none, default⟩⟩
def Stack_stack.cells (a : Stack_stack) : List Go.Value := [.pointer a.a] ++ Stack_row_int_.cells a.row
instance : OneC Stack_stack.cells 2 := ⟨fun _ => rfl, fun a v hv => by
  have h : (Stack_stack.cells a).all (·.oneCell') = true := rfl
  exact List.all_eq_true.1 h v hv⟩
instance (p : Option Addr) : FUpd Stack_stack.cells 0 (.pointer p) (fun a => { a with a := p }) := ⟨fun _ => rfl, fun _ => by show _ < 2; decide⟩
instance (p : Option Addr) (l : List Int) (c : Nat) : FUpd Stack_stack.cells 1 (.slice p l.length c) (fun a => { a with row := { a.row with lP := p, l := l, lC := c } }) := ⟨fun _ => rfl, fun _ => by show _ < 2; decide⟩
@[ext] structure Active_list where
  a : Option Addr
  lP : Option Addr
  l : List Api_entry
  lC : Nat
instance : Inhabited Active_list := ⟨⟨none, none, [], 0⟩⟩
def Active_list.cells (a : Active_list) : List Go.Value := [.pointer a.a, .slice a.lP a.l.length a.lC]
instance : OneC Active_list.cells 2 := ⟨fun _ => rfl, fun a v hv => by
  have h : (Active_list.cells a).all (·.oneCell') = true := rfl
  exact List.all_eq_true.1 h v hv⟩
instance (p : Option Addr) : FUpd Active_list.cells 0 (.pointer p) (fun a => { a with a := p }) := ⟨fun _ => rfl, fun _ => by show _ < 2; decide⟩
instance (p : Option Addr) (l : List Api_entry) (c : Nat) : FUpd Active_list.cells 1 (.slice p l.length c) (fun a => { a with lP := p, l := l, lC := c }) := ⟨fun _ => rfl, fun _ => by show _ < 2; decide⟩
@[ext] structure Api_spot where
  Parent : Int
  Before : Int
instance : Inhabited Api_spot := ⟨⟨0, 0⟩⟩
def Api_spot.cells (a : Api_spot) : List Go.Value := [.int .i64 a.Parent, .int .i64 a.Before]
instance : OneC Api_spot.cells 2 := ⟨fun _ => rfl, fun a v hv => by
  have h : (Api_spot.cells a).all (·.oneCell') = true := rfl
  exact List.all_eq_true.1 h v hv⟩
instance (n : Int) : FUpd Api_spot.cells 0 (.int .i64 n) (fun a => { a with Parent := n }) := ⟨fun _ => rfl, fun _ => by show _ < 2; decide⟩
instance (n : Int) : FUpd Api_spot.cells 1 (.int .i64 n) (fun a => { a with Before := n }) := ⟨fun _ => rfl, fun _ => by show _ < 2; decide⟩
end Go.Proofs.YtoohapbaelmkcaaGreat
