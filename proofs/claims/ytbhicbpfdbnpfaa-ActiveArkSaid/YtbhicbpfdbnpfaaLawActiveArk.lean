/- ActiveArk: for every input the law answers true, and its arguments read as they did. -/
import Derived.Test.YtbhicbpfdbnpfaaRows
import Derived.Test.YtbhicbpfdbnpfaaAct6
namespace Go.Proofs.Ytbhicbpfdbnpfaa.activeArk
open Go Go.Hb Go.RowKit Go.ChangeShapes Go.WideShapes Go.ChangeAt
set_option linter.unusedVariables false

theorem own : ownKnob Try.prog.godebug = none := by kernel_rfl
theorem laid : laidOutB Try.prog = true := by kernel_rfl

set_option maxRecDepth 100000 in
theorem contract (H : Type) (enc : TypeId × Value → H) (W : World) (base : Nat) (args : Array Value) (ds gs : List (DataW H)) (before : List MemPlace)
    (hval : ∀ (j : Nat) t v, Try.f8.params[j]? = some t → args[j]? = some v → Value.okWide Try.prog W .any base t v)
    (hW : DataW.Whole enc Try.prog Try.f8.params.toList Rows.activeArkSpec.vars false W args.toList ds gs before) :
    Calls Try.prog 8 args W fun e W' => ∃ v, e = .returned v ∧ Rows.activeArkSpec.post enc Try.prog Try.f8 false true false false W args v W' := by
  have hW' := hW
  obtain ⟨p, q, hA0, hV, rfl, hfz, hnd⟩ := hW
  have hA : DataW.TrodAll enc Try.prog W 0 (fun _ => true) true Try.f8.params.toList args.toList ds p := hA0
  rw [Try.params8] at hA hval
  obtain ⟨v0, vs0, d0, ds0, p0, q0, hargs, rfl, rfl, h0, r0⟩ := trodAll_cons hA
  obtain ⟨v1, vs1, d1, ds1, p1, q1, rfl, rfl, rfl, h1, r1⟩ := trodAll_cons r0
  obtain ⟨v2, vs2, d2, ds2, p2, q2, rfl, rfl, rfl, h2, r2⟩ := trodAll_cons r1
  obtain ⟨rfl, rfl, rfl⟩ := trodAll_nil r2
  obtain rfl : args = #[v0, v1, v2] := by cases args; simp_all
  obtain ⟨rfl, rfl⟩ := trodVars_none hV
  obtain ⟨rows0, ds0, A0⟩ := open_slT (by decide) (hval 0 67 v0 rfl rfl) r_str h0
  obtain ⟨p0, cap0, rfl, R0⟩ := A0.shape
  obtain ⟨rows1, ds1, A1⟩ := open_slT (by decide) (hval 1 61 v1 rfl rfl) r_int h1
  obtain ⟨p1, cap1, rfl, R1⟩ := A1.shape
  obtain ⟨rows2, ds2, A2⟩ := open_slT (by decide) (hval 2 61 v2 rfl rfl) r_int h2
  obtain ⟨p2, cap2, rfl, R2⟩ := A2.shape
  clear hA0
  obtain ⟨N, hN, _⟩ := recs_of (enc := eS) (Q := fun _ => True) fun r hr => by obtain ⟨x, _, n, e, _⟩ := A0.all r hr; exact ⟨n, e, trivial⟩
  obtain ⟨M, hM, hm2⟩ := rows_iv (Q := fun y => 0 ≤ y ∧ y ≤ 255) (fun r hr => by obtain ⟨x, _, n, e, _, hw⟩ := A1.all r hr; exact ⟨n, e, lit_u8 hw⟩)
  obtain ⟨X, hX, hx2⟩ := rows_iv (Q := fun y => 0 ≤ y ∧ y ≤ 255) (fun r hr => by obtain ⟨x, _, n, e, _, hw⟩ := A2.all r hr; exact ⟨n, e, lit_u8 hw⟩)
  refine Calls.mono (law_calls ((by rw [show rows0.length = N.length by rw [hN]; simp, show rows1.length = M.length by rw [hM, iv_length], show rows2.length = X.length by rw [hX, iv_length]]; exact ActiveArk_spec (k := all W) (by have := A0.sli; rw [hN, List.length_map] at this; exact this) (by have := A1.sli; rw [hM, iv_length] at this; exact this) (by have := A2.sli; rw [hX, iv_length] at this; exact this) hm2 hx2 (Own.start W)))) fun e W' ⟨he, hb⟩ => ?_
  subst he
  exact ⟨_, rfl, post_law laid (by kernel_rfl) rfl hW' hb rfl Try.underlying4 rfl⟩

set_option maxRecDepth 100000 in
theorem lifted (os : Os) (started : os.Started) (H : Type) (enc : TypeId × Value → H) :
    ReturnsInHanded {} Try.checked os 8 .any (Rows.activeArkSpec.pre6 enc Try.prog Try.f8 Rows.activeArkRow.domain false) (Rows.activeArkSpec.post enc Try.prog Try.f8 false true false false) := by
  refine returnsInHanded_of_change (C := Try.checked) own started (by kernel_rfl) Try.func8
    (ChangeSpec.witness6 (enc := enc) (C := Try.checked) false ⟨#[], #[.slice none 0 0, .slice none 0 0, .slice none 0 0], []⟩ 8 (by kernel_rfl) (by kernel_rfl) (by kernel_rfl) (by kernel_rfl)) ?_
  intro W base args ds gs before hval hW _ _
  exact contract H enc W base args ds gs before hval hW

theorem holds : Rows.ActiveArkSaid :=
  OpenClaim.holds_of_wide 8 Try.f8 rfl rfl rfl rfl rfl rfl rfl ⟨rfl, rfl, rfl, rfl, rfl⟩ rfl rfl rfl rfl rfl (by kernel_rfl) Try.func8 (by kernel_rfl)
    (of_decide_eq_true (by kernel_rfl)) (by unfold Func.isWrapper; rw [if_neg (of_decide_eq_false (by kernel_rfl))]; exact ⟨rfl, rfl⟩)
    (fun os started H enc _ => lifted os started H enc)
end Go.Proofs.Ytbhicbpfdbnpfaa.activeArk
