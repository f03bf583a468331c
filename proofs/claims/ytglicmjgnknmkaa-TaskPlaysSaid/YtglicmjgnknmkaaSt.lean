/- The records of this seat's types: what their cells are. -/
import Derived.Test.YtglicmjgnknmkaaHc
import Derived.Test.YtglicmjgnknmkaaTy
set_option linter.unusedVariables false
namespace Go.Proofs.Ytglicmjgnknmkaa
open Go Go.Hb
@[ext] structure Law20_op where
  What : Int
  Source : Int
  N : Int
instance : Inhabited Law20_op := ⟨⟨0, 0, 0⟩⟩
def Law20_op.cells (a : Law20_op) : List Go.Value := [.int .i64 a.What, .int .i64 a.Source, .int .i64 a.N]
instance : OneC Law20_op.cells 3 := ⟨fun _ => rfl, fun a v hv => by
  have h : (Law20_op.cells a).all (·.oneCell') = true := rfl
  exact List.all_eq_true.1 h v hv⟩
instance (n : Int) : FUpd Law20_op.cells 0 (.int .i64 n) (fun a => { a with What := n }) := ⟨fun _ => rfl, fun _ => by show _ < 3; decide⟩
instance (n : Int) : FUpd Law20_op.cells 1 (.int .i64 n) (fun a => { a with Source := n }) := ⟨fun _ => rfl, fun _ => by show _ < 3; decide⟩
instance (n : Int) : FUpd Law20_op.cells 2 (.int .i64 n) (fun a => { a with N := n }) := ⟨fun _ => rfl, fun _ => by show _ < 3; decide⟩
@[ext] structure Api_act where
  What : Int
  A : Int
  B : Int
  C : Int
  Text : ByteArray
  More : ByteArray
instance : Inhabited Api_act := ⟨⟨0, 0, 0, 0, ⟨#[]⟩, ⟨#[]⟩⟩⟩
def Api_act.cells (a : Api_act) : List Go.Value := [.int .i64 a.What, .int .i64 a.A, .int .i64 a.B, .int .i64 a.C, .string a.Text, .string a.More]
instance : OneC Api_act.cells 6 := ⟨fun _ => rfl, fun a v hv => by
  have h : (Api_act.cells a).all (·.oneCell') = true := rfl
  exact List.all_eq_true.1 h v hv⟩
instance (n : Int) : FUpd Api_act.cells 0 (.int .i64 n) (fun a => { a with What := n }) := ⟨fun _ => rfl, fun _ => by show _ < 6; decide⟩
instance (n : Int) : FUpd Api_act.cells 1 (.int .i64 n) (fun a => { a with A := n }) := ⟨fun _ => rfl, fun _ => by show _ < 6; decide⟩
instance (n : Int) : FUpd Api_act.cells 2 (.int .i64 n) (fun a => { a with B := n }) := ⟨fun _ => rfl, fun _ => by show _ < 6; decide⟩
instance (n : Int) : FUpd Api_act.cells 3 (.int .i64 n) (fun a => { a with C := n }) := ⟨fun _ => rfl, fun _ => by show _ < 6; decide⟩
instance (s : ByteArray) : FUpd Api_act.cells 4 (.string s) (fun a => { a with Text := s }) := ⟨fun _ => rfl, fun _ => by show _ < 6; decide⟩
instance (s : ByteArray) : FUpd Api_act.cells 5 (.string s) (fun a => { a with More := s }) := ⟨fun _ => rfl, fun _ => by show _ < 6; decide⟩
@[ext] structure Api_task where
  What : Int
  BytesP : Option Addr
  Bytes : List Int
  BytesC : Nat
  ActsP : Option Addr
  Acts : List Api_act
  ActsC : Nat
instance : Inhabited Api_task := ⟨⟨0, none, [], 0, none, [], 0⟩⟩
def Api_task.cells (a : Api_task) : List Go.Value := [.int .i64 a.What, .slice a.BytesP a.Bytes.length a.BytesC, .slice a.ActsP a.Acts.length a.ActsC]
instance : OneC Api_task.cells 3 := ⟨fun _ => rfl, fun a v hv => by
  have h : (Api_task.cells a).all (·.oneCell') = true := rfl
  exact List.all_eq_true.1 h v hv⟩
instance (n : Int) : FUpd Api_task.cells 0 (.int .i64 n) (fun a => { a with What := n }) := ⟨fun _ => rfl, fun _ => by show _ < 3; decide⟩
instance (p : Option Addr) (l : List Int) (c : Nat) : FUpd Api_task.cells 1 (.slice p l.length c) (fun a => { a with BytesP := p, Bytes := l, BytesC := c }) := ⟨fun _ => rfl, fun _ => by show _ < 3; decide⟩
instance (p : Option Addr) (l : List Api_act) (c : Nat) : FUpd Api_task.cells 2 (.slice p l.length c) (fun a => { a with ActsP := p, Acts := l, ActsC := c }) := ⟨fun _ => rfl, fun _ => by show _ < 3; decide⟩
end Go.Proofs.Ytglicmjgnknmkaa
