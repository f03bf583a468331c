/- The walks of the answer's arena beside the program's: Unlink, SetData; no condition. -/
import Derived.Test.YtbhicbpfdbnpfaaRef5
set_option linter.unusedVariables false
set_option linter.unusedSimpArgs false
set_option maxRecDepth 100000
namespace Go.Proofs.Ytbhicbpfdbnpfaa
open Go Go.Hb Go.RowKit
theorem Sim.unlink' {A : List Node_one} {K : Int → List Int} {R : List Ref01_one} (t : Tree A K) (s : Sim A K R) {id : Int} (h0 : (unlinkL A id).1 = 0) {p : Option Addr} {c : Nat} {l : List Int} (hl : l = (at_ R ((at_ A id.toNat).Node.Parent).toNat).Kids.filter (fun y => y ≠ id)) :
    Sim (unlinkL A id).2 (unlinkK K (at_ A id.toNat).Node.Parent id) (setUpR (setKidsR R (at_ A id.toNat).Node.Parent p l c) id (-1)) := by rw [hl]; exact Sim.unlink t s h0 p c
def setDataR (R : List Ref01_one) (i : Int) (v : ByteArray) : List Ref01_one := R.set i.toNat { at_ R i.toNat with Data := v }
theorem Sim.data {A : List Node_one} {K : Int → List Int} {R : List Ref01_one} (s : Sim A K R) {id : Int} (hid : InA A id) (v : ByteArray) : Sim (setData A id v) K (setDataR R id v) := by
  refine ⟨by simp [setData, setDataR, s.len], fun y hy => ?_⟩
  have hyA : InA A y := ⟨hy.1, by have := hy.2; simpa [setData] using this⟩
  rw [setData, setDataR, at_setI hid hy.1, at_setR (s.inR hid) hy.1]
  split
  · next e =>
    subst e
    have sy := s.one y hyA
    exact ⟨sy.kind, sy.space, sy.name, sy.attrs, rfl, sy.system, sy.inner, sy.host, sy.up, sy.kids⟩
  · exact s.one y hyA
end Go.Proofs.Ytbhicbpfdbnpfaa
