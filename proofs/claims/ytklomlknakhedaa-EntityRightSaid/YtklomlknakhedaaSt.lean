/- The records of this seat's types: what their cells are. -/
import Derived.Test.YtklomlknakhedaaHc
import Derived.Test.YtklomlknakhedaaTy
set_option linter.unusedVariables false
namespace Go.Proofs.Ytklomlknakhedaa
open Go Go.Hb
@[ext] structure Entity_name where
  text : ByteArray
  r : Int
instance : Inhabited Entity_name := ⟨⟨⟨#[]⟩, 0⟩⟩
def Entity_name.cells (a : Entity_name) : List Go.Value := [.string a.text, .int .i32 a.r]
instance : OneC Entity_name.cells 2 := ⟨fun _ => rfl, fun a v hv => by
  have h : (Entity_name.cells a).all (·.oneCell') = true := rfl
  exact List.all_eq_true.1 h v hv⟩
instance (s : ByteArray) : FUpd Entity_name.cells 0 (.string s) (fun a => { a with text := s }) := ⟨fun _ => rfl, fun _ => by show _ < 2; decide⟩
instance (n : Int) : FUpd Entity_name.cells 1 (.int .i32 n) (fun a => { a with r := n }) := ⟨fun _ => rfl, fun _ => by show _ < 2; decide⟩
@[ext] structure Ref08_row where
  Name : ByteArray
  Rune : Int
instance : Inhabited Ref08_row := ⟨⟨⟨#[]⟩, 0⟩⟩
def Ref08_row.cells (a : Ref08_row) : List Go.Value := [.string a.Name, .int .i32 a.Rune]
instance : OneC Ref08_row.cells 2 := ⟨fun _ => rfl, fun a v hv => by
  have h : (Ref08_row.cells a).all (·.oneCell') = true := rfl
  exact List.all_eq_true.1 h v hv⟩
instance (s : ByteArray) : FUpd Ref08_row.cells 0 (.string s) (fun a => { a with Name := s }) := ⟨fun _ => rfl, fun _ => by show _ < 2; decide⟩
instance (n : Int) : FUpd Ref08_row.cells 1 (.int .i32 n) (fun a => { a with Rune := n }) := ⟨fun _ => rfl, fun _ => by show _ < 2; decide⟩
end Go.Proofs.Ytklomlknakhedaa
