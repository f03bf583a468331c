/- AdoptRuns: for every input the law answers true, and its arguments read as they did. -/
import Derived.Test.YtoohapbaelmkcaaGreatRows
import Derived.Test.YtoohapbaelmkcaaGreatRns5
namespace Go.Proofs.YtoohapbaelmkcaaGreat.adoptRuns
open Go Go.Hb Go.RowKit Go.ChangeShapes Go.WideShapes Go.ChangeAt
set_option linter.unusedVariables false

theorem own : ownKnob Tryz.prog.godebug = none := by kernel_rfl
theorem laid : laidOutB Tryz.prog = true := by kernel_rfl

set_option maxRecDepth 100000 in
theorem contract (H : Type) (enc : TypeId × Value → H) (W : World) (base : Nat) (args : Array Value) (ds gs : List (DataW H)) (before : List MemPlace)
    (hval : ∀ (j : Nat) t v, Tryz.f4.params[j]? = some t → args[j]? = some v → Value.okWide Tryz.prog W .any base t v)
    (hW : DataW.Whole enc Tryz.prog Tryz.f4.params.toList Rows.adoptRunsSpec.vars false W args.toList ds gs before) :
    Calls Tryz.prog 4 args W fun e W' => ∃ v, e = .returned v ∧ Rows.adoptRunsSpec.post enc Tryz.prog Tryz.f4 false true false false W args v W' := by
  have hW' := hW
  obtain ⟨p, q, hA0, hV, rfl, hfz, hnd⟩ := hW
  have hA : DataW.TrodAll enc Tryz.prog W 0 (fun _ => true) true Tryz.f4.params.toList args.toList ds p := hA0
  rw [Tryz.params4] at hA hval
  obtain ⟨v0, vs0, d0, ds0, p0, q0, hargs, rfl, rfl, h0, r0⟩ := trodAll_cons hA
  obtain ⟨v1, vs1, d1, ds1, p1, q1, rfl, rfl, rfl, h1, r1⟩ := trodAll_cons r0
  obtain ⟨v2, vs2, d2, ds2, p2, q2, rfl, rfl, rfl, h2, r2⟩ := trodAll_cons r1
  obtain ⟨rfl, rfl, rfl⟩ := trodAll_nil r2
  obtain rfl : args = #[v0, v1, v2] := by cases args; simp_all
  obtain ⟨rfl, rfl⟩ := trodVars_none hV
  obtain ⟨rows0, ds0, A0⟩ := open_slT (by decide) (hval 0 38 v0 rfl rfl) rd_Law15_act h0
  obtain ⟨p0, cap0, rfl, R0⟩ := A0.shape
  obtain ⟨rows1, ds1, A1⟩ := open_slT (by decide) (hval 1 39 v1 rfl rfl) r_str h1
  obtain ⟨p1, cap1, rfl, R1⟩ := A1.shape
  obtain ⟨a2, rfl, rfl, rfl⟩ := open_bool Tryz.underlying4 (hval 2 4 v2 rfl rfl) h2
  clear hA0
  obtain ⟨M, hM, _⟩ := recs_of (enc := Law15_act.cells) fun r hr => by obtain ⟨x, _, hx⟩ := A0.all r hr; exact of_Law15_act hx
  obtain ⟨X, hX, _⟩ := recs_of (enc := eS) (Q := fun _ => True) fun r hr => by obtain ⟨x, _, n, e, _⟩ := A1.all r hr; exact ⟨n, e, trivial⟩
  refine Calls.mono (law_calls (by rw [show rows0.length = M.length by rw [hM]; simp, show rows1.length = X.length by rw [hX]; simp]; exact AdoptRuns_spec (k := all W) (by have := A0.sli; rw [hM, List.length_map] at this; exact this) (by have := A1.sli; rw [hX, List.length_map] at this; exact this) (Own.start W))) fun e W' ⟨he, hb⟩ => ?_
  subst he
  exact ⟨_, rfl, post_law laid (by kernel_rfl) rfl hW' hb rfl Tryz.underlying4 rfl⟩

set_option maxRecDepth 100000 in
theorem lifted (os : Os) (started : os.Started) (H : Type) (enc : TypeId × Value → H) :
    ReturnsInHanded {} Tryz.checked os 4 .any (Rows.adoptRunsSpec.pre6 enc Tryz.prog Tryz.f4 Rows.adoptRunsRow.domain false) (Rows.adoptRunsSpec.post enc Tryz.prog Tryz.f4 false true false false) := by
  refine returnsInHanded_of_change (C := Tryz.checked) own started (by kernel_rfl) Tryz.func4
    (ChangeSpec.witness6 (enc := enc) (C := Tryz.checked) false ⟨#[], #[.slice none 0 0, .slice none 0 0, .bool false], []⟩ 8 (by kernel_rfl) (by kernel_rfl) (by kernel_rfl) (by kernel_rfl)) ?_
  intro W base args ds gs before hval hW _ _
  exact contract H enc W base args ds gs before hval hW

theorem holds : Rows.AdoptRunsSaid :=
  OpenClaim.holds_of_wide 4 Tryz.f4 rfl rfl rfl rfl rfl rfl rfl ⟨rfl, rfl, rfl, rfl, rfl⟩ rfl rfl rfl rfl rfl (by kernel_rfl) Tryz.func4 (by kernel_rfl)
    (of_decide_eq_true (by kernel_rfl)) (by unfold Func.isWrapper; rw [if_neg (of_decide_eq_false (by kernel_rfl))]; exact ⟨rfl, rfl⟩)
    (fun os started H enc _ => lifted os started H enc)
end Go.Proofs.YtoohapbaelmkcaaGreat.adoptRuns
