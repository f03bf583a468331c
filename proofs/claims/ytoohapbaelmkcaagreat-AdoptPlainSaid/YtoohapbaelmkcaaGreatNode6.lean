/- What the walks of the arena tell, of an arena as one part; no condition. -/
import Derived.Test.YtoohapbaelmkcaaGreatNode5
set_option linter.unusedVariables false
set_option linter.unusedSimpArgs false
set_option maxRecDepth 100000
namespace Go.Proofs.YtoohapbaelmkcaaGreat
open Go Go.Hb Go.RowKit
theorem lift2 {f : FuncId} {args : Array Value} {R : Value → Prop} {k : Ctx} {w : World} {a : Nat} {A A' : List Node_one} (hO : Own k w [arenaL a A]) (hl : A'.length = A.length) (ht : A'.map attrsP = A.map attrsP)
    (h : ∀ k' p c, Gs p A.length → Own k' w [arB a p A.length c, arS p c A] → Tri Tryz.prog f args k' w fun v m => R v ∧ m = [arB a p A.length c, arS p c A']) :
    Tri Tryz.prog f args k w fun v m => R v ∧ m = [arenaL a A'] := by
  obtain ⟨p, c, hg, hO⟩ := arenaL_open hO
  refine Ret.mono (Ret.framed hO (.cons (.hd _ _) (.cons (.hd _ _) (.nil _))) fun k' _ _ hO' => h k' p c hg hO') ?_
  rintro v w' ⟨m, ⟨hv, rfl⟩, hO⟩
  have hO : Own k w' [arB a p A.length c, arS p c A', sep (A.map attrsP)] := hO
  refine ⟨_, ⟨hv, rfl⟩, (arenaL_shut (hO.ks [.s, .b a, .p p]) ht.symm hl.symm).one⟩
theorem LenC_spec {k : Ctx} {w : World} {a : Nat} {A : List Node_one} (hn : 0 < A.length) (hO : Own k w [arenaL a A]) :
    Tri Tryz.prog 12 #[.pointer (some ⟨a, 0, none⟩)] k w fun v m => v = .int .i64 (A.length : Int) ∧ m = [arenaL a A] := lift2 hO rfl rfl fun k' p c hg hO => Len_spec hn hO
theorem AboveC_spec {k : Ctx} {w : World} {a : Nat} {A : List Node_one} {id other : Int} (hn : 0 < A.length) (hrk : Ranked A) (hO : Own k w [arenaL a A]) :
    Tri Tryz.prog 54 #[.pointer (some ⟨a, 0, none⟩), .int .i64 id, .int .i64 other] k w fun v m => v = .bool (aboveB A id other) ∧ m = [arenaL a A] := lift2 hO rfl rfl fun k' p c hg hO => Above_spec hn hg hrk hO
theorem setLinks_len {A : List Node_one} {id up p n : Int} : (setLinks A id up p n).length = A.length := by simp [setLinks]
theorem setLinks_attrs {A : List Node_one} {id up p n : Int} : (setLinks A id up p n).map attrsP = A.map attrsP := attrs_set rfl
theorem linkL_len {A : List Node_one} {up id before : Int} : (linkL A up id before).2.length = A.length := by unfold linkL; (repeat' split) <;> simp only [joinL_len, setLinks_len]
theorem linkL_attrs {A : List Node_one} {up id before : Int} : (linkL A up id before).2.map attrsP = A.map attrsP := by unfold linkL; (repeat' split) <;> simp only [joinL_attrs, setLinks_attrs]
theorem unlinkL_len {A : List Node_one} {id : Int} : (unlinkL A id).2.length = A.length := by unfold unlinkL; (repeat' split) <;> simp only [joinL_len, setLinks_len]
theorem unlinkL_attrs {A : List Node_one} {id : Int} : (unlinkL A id).2.map attrsP = A.map attrsP := by unfold unlinkL; (repeat' split) <;> simp only [joinL_attrs, setLinks_attrs]
theorem setDataL_len {A : List Node_one} {id : Int} {s : ByteArray} : (setDataL A id s).2.length = A.length := by unfold setDataL; (repeat' split) <;> simp [setData]
theorem setDataL_attrs {A : List Node_one} {id : Int} {s : ByteArray} : (setDataL A id s).2.map attrsP = A.map attrsP := by
  unfold setDataL
  repeat' split
  all_goals first | rfl | exact attrs_set rfl
theorem LinkC_spec {k : Ctx} {w : World} {a : Nat} {A : List Node_one} {up id before : Int} (hn : 0 < A.length) (hrk : Ranked A) (hL : LinksOk A) (hO : Own k w [arenaL a A]) :
    Tri Tryz.prog 19 #[.pointer (some ⟨a, 0, none⟩), .int .i64 up, .int .i64 id, .int .i64 before] k w fun v m => v = .int .i64 (linkL A up id before).1 ∧ m = [arenaL a (linkL A up id before).2] := lift2 hO linkL_len linkL_attrs fun k' p c hg hO => Link_spec hn hg hrk hL hO
theorem UnlinkC_spec {k : Ctx} {w : World} {a : Nat} {A : List Node_one} {id : Int} (hn : 0 < A.length) (hL : LinksOk A) (hO : Own k w [arenaL a A]) :
    Tri Tryz.prog 130 #[.pointer (some ⟨a, 0, none⟩), .int .i64 id] k w fun v m => v = .int .i64 (unlinkL A id).1 ∧ m = [arenaL a (unlinkL A id).2] := lift2 hO unlinkL_len unlinkL_attrs fun k' p c hg hO => Unlink_spec hn hg hL hO
theorem lift3 {f : FuncId} {args : Array Value} {R : Value → Prop} {S : List Node_one → Prop} {k : Ctx} {w : World} {a : Nat} {A : List Node_one} (hO : Own k w [arenaL a A]) (hl : ∀ A', S A' → A'.length = A.length)
    (h : ∀ k' p c, Gs p A.length → Own k' w [arB a p A.length c, arS p c A, sep (A.map attrsP)] → Tri Tryz.prog f args k' w fun v m => R v ∧ ∃ A', m = [arB a p A.length c, arS p c A', sep (A'.map attrsP)] ∧ S A') :
    Tri Tryz.prog f args k w fun v m => R v ∧ ∃ A', S A' ∧ m = [arenaL a A'] := by
  obtain ⟨p, c, hg, hO⟩ := arenaL_open hO
  refine Ret.mono (h k p c hg hO) ?_
  rintro v w' ⟨m, ⟨hv, A', rfl, hS⟩, hO⟩
  exact ⟨_, ⟨hv, A', hS, rfl⟩, (arenaL_shut (hO.ks [.s, .b a, .p p]) rfl (hl A' hS).symm).one⟩
end Go.Proofs.YtoohapbaelmkcaaGreat
