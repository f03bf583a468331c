/- ActivePlays: for every input the law answers true, and its arguments read as they did; where the arguments together hold at most so many values and letters as the given row says. -/
import Derived.Test.YtbhicbpfdbnpfaaRows
import Derived.Test.YtbhicbpfdbnpfaaAct15
namespace Go.Proofs.Ytbhicbpfdbnpfaa.activePlays
open Go Go.Hb Go.RowKit Go.ChangeShapes Go.WideShapes Go.ChangeAt
set_option linter.unusedVariables false

theorem own : ownKnob Try.prog.godebug = none := by kernel_rfl
theorem laid : laidOutB Try.prog = true := by kernel_rfl

set_option maxRecDepth 100000 in
theorem contract (H : Type) (enc : TypeId × Value → H) (W : World) (base : Nat) (args : Array Value) (ds gs : List (DataW H)) (before : List MemPlace)
    (hval : ∀ (j : Nat) t v, Try.f9.params[j]? = some t → args[j]? = some v → Value.okWide Try.prog W .any base t v)
    (hW : DataW.Whole enc Try.prog Try.f9.params.toList Rows.activePlaysSpec.vars false W args.toList ds gs before) (hk : Rows.uptoSmall H (ds ++ gs) = true) :
    Calls Try.prog 9 args W fun e W' => ∃ v, e = .returned v ∧ Rows.activePlaysSpec.post enc Try.prog Try.f9 false true false false W args v W' := by
  have hW' := hW
  obtain ⟨p, q, hA0, hV, rfl, hfz, hnd⟩ := hW
  have hA : DataW.TrodAll enc Try.prog W 0 (fun _ => true) true Try.f9.params.toList args.toList ds p := hA0
  rw [Try.params9] at hA hval
  obtain ⟨v0, vs0, d0, ds0, p0, q0, hargs, rfl, rfl, h0, r0⟩ := trodAll_cons hA
  obtain ⟨v1, vs1, d1, ds1, p1, q1, rfl, rfl, rfl, h1, r1⟩ := trodAll_cons r0
  obtain ⟨rfl, rfl, rfl⟩ := trodAll_nil r1
  obtain rfl : args = #[v0, v1] := by cases args; simp_all
  obtain ⟨rfl, rfl⟩ := trodVars_none hV
  obtain ⟨rows0, ds0, A0⟩ := open_slT (by decide) (hval 0 67 v0 rfl rfl) r_str h0
  obtain ⟨p0, cap0, rfl, R0⟩ := A0.shape
  obtain ⟨rows1, ds1, A1⟩ := open_slT (by decide) (hval 1 74 v1 rfl rfl) q_op13 h1
  obtain ⟨p1, cap1, rfl, R1⟩ := A1.shape
  clear hA0
  obtain ⟨N, hN, _⟩ := recs_of (enc := eS) (Q := fun _ => True) fun r hr => by obtain ⟨x, _, n, e, _⟩ := A0.all r hr; exact ⟨n, e, trivial⟩
  obtain ⟨S, hS, hop⟩ := recs_of (enc := Law13_op.cells) (Q := fun o => EOk (all W) ⟨o.A, o.T⟩) fun r hr => by obtain ⟨x, _, hx⟩ := A1.all r hr; exact op13_of hx
  refine Calls.mono (law_calls ((by rw [show rows0.length = N.length by rw [hN]; simp, show rows1.length = S.length by rw [hS]; simp]; exact ActivePlays_spec (k := all W) (by have := A0.sli; rw [hN, List.length_map] at this; exact this) (by have := A1.sli; rw [hS, List.length_map] at this; exact this) hop (by have h1 := bulk_len A1; have h2 := bulk_args hk (d := d1) (by simp); rw [hS, List.length_map] at h1; omega) (Own.start W)))) fun e W' ⟨he, hb⟩ => ?_
  subst he
  exact ⟨_, rfl, post_law laid (by kernel_rfl) rfl hW' hb rfl Try.underlying4 rfl⟩

set_option maxRecDepth 100000 in
theorem lifted (os : Os) (started : os.Started) (H : Type) (enc : TypeId × Value → H) (F : Stop.Interp) :
    ReturnsInHanded {} Try.checked os 9 .any ((Rows.OpenSpec.upto Rows.activePlaysSpec).pre6 enc Try.prog Try.f9 Rows.activePlaysUptoRow.domain false) (((Rows.OpenSpec.upto Rows.activePlaysSpec).at F).post enc Try.prog Try.f9 false true false false) := by
  refine returnsInHanded_of_cond (C := Try.checked) (s := Rows.OpenSpec.upto Rows.activePlaysSpec) (k := Rows.uptoSmall) rfl own started (by kernel_rfl) Try.func9
    (OpenSpec.witness (enc := enc) (C := Try.checked) (s := Rows.OpenSpec.upto Rows.activePlaysSpec) (k := Rows.uptoSmall) rfl false ⟨#[], #[.slice none 0 0, .slice none 0 0], []⟩ 8 (by kernel_rfl) (by kernel_rfl) (by kernel_rfl)
      (x := ([.nil, .nil], [], [])) (by kernel_rfl) rfl (by kernel_rfl)) ?_
  intro W base args ds gs before hval hW _ hk _
  exact contract H enc W base args ds gs before hval hW hk

theorem holds : Rows.ActivePlaysUptoSaid :=
  OpenClaim.holds_of_cond 9 Try.f9 rfl rfl rfl rfl rfl rfl rfl ⟨rfl, rfl, rfl, rfl, rfl⟩ rfl rfl rfl rfl rfl (by kernel_rfl) Try.func9 (by kernel_rfl)
    (of_decide_eq_true (by kernel_rfl)) (by unfold Func.isWrapper; rw [if_neg (of_decide_eq_false (by kernel_rfl))]; exact ⟨rfl, rfl⟩)
    (fun os started H enc _ F => lifted os started H enc F)
end Go.Proofs.Ytbhicbpfdbnpfaa.activePlays
