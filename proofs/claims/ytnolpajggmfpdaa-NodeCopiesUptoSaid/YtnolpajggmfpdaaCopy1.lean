/- The walk of Copy; no condition. -/
import Derived.Test.YtnolpajggmfpdaaSame
set_option linter.unusedVariables false
set_option linter.unusedSimpArgs false
set_option maxRecDepth 100000
namespace Go.Proofs.Ytnolpajggmfpdaa
open Go Go.Hb Go.RowKit
/-- the copy's attributes so far -/
def cps (l : List HP) : HP := sep l
instance (l S : List HP) : AtK (cps S :: l) (.o 0) (cps S) l := ⟨.hd _ _⟩
/-- the same but for where the attributes lie, up to i -/
def CopyTo (A B : List Node_one) (i : Nat) : Prop := ∀ j, j < A.length → (j < i → ∃ q d, at_ B j = setAttrs (at_ A j) q (at_ A j).Node.Attrs d) ∧ (i ≤ j → at_ B j = at_ A j)
theorem CopyTo.step {A B : List Node_one} {i : Nat} (h : CopyTo A B i) (hl : B.length = A.length) (hi : i < A.length) (q : Option Addr) (d : Nat) : CopyTo A (B.set i (setAttrs (at_ B i) q (at_ B i).Node.Attrs d)) (i + 1) := fun j hj => by
  have hb := (h i hi).2 (Nat.le_refl _)
  rw [at_set (by omega)]
  by_cases e : i = j
  · subst e
    rw [if_pos rfl, hb]
    exact ⟨fun _ => ⟨q, d, rfl⟩, fun h => by omega⟩
  · rw [if_neg e]
    exact ⟨fun h1 => (h j hj).1 (by omega), fun h1 => (h j hj).2 (by omega)⟩
theorem cps_step {B : List Node_one} {i : Nat} {y : Node_one} (hi : i < B.length) : (B.take i).map attrsP ++ [attrsP y] = ((B.set i y).take (i + 1)).map attrsP := by
  rw [take_succ_at (by simpa using hi), List.take_set, List.set_eq_of_length_le (by simp; omega), at_set_eq hi, List.map_append]; rfl
set_option maxHeartbeats 4000000 in
theorem Copy_spec {k : Ctx} {w : World} {a : Nat} {A : List Node_one} (hn : 0 < A.length) (hmax : A.length ≤ 32768) (ha : AttrsOk A) (hO : Own k w [arenaL a A]) :
    Tri Try.prog 30 #[.pointer (some ⟨a, 0, none⟩)] k w fun v m => ∃ b B, v = .pointer (some ⟨b, 0, none⟩) ∧ B.length = A.length ∧ CopyTo A B A.length ∧ m = [arenaL a A, arenaL b B] := by
  refine enter (args := [.pointer (some ⟨a, 0, none⟩)]) Try.func30 rfl rfl ?_
  obtain ⟨p, c, hg, hO⟩ := arenaL_open hO
  refine K0 (K1 ?_)
  refine l_y rfl rfl (y_assign rfl) ?_
  refine K2 (K3 (K0 (K0 (K1 ?_))))
  refine l_y rfl rfl (y_move rfl) ?_
  refine CK [.b a, .p p] hO rfl (fun k' hx hr hO' => none_spec (hO := hO')) ?_
  rintro _ _ w ⟨rfl, rfl⟩ hO
  simp only [List.cons_append, List.nil_append] at hO
  refine K2 (K3 (L9 (K5 (K3 (K0 (K1 ?_))))))
  refine l_y rfl rfl (y_move rfl) ?_
  refine l_y rfl rfl (y_nilCheck rfl rfl) ?_
  refine l_y rfl rfl (y_fldb (o' := 0) rfl) ?_
  refine l_y rfl rfl (D5 hO rfl) ?_
  refine l_y rfl rfl (y_lenL rfl) ?_
  refine s_mk (enc := Node_one.cells) default hO rfl rfl rfl rfl (Nat.le_refl _) (by omega) (by simp only [maxLen]; omega) fun b12 w hO => ?_
  refine s_build (parts := [(0, .tmp 12)]) (cs := [.slice (some ⟨b12, 0, none⟩) A.length A.length]) rfl rfl (fun a ha => partsOf_sound ha _ _ rfl) (by kernel_rfl) ?_
  refine s_box (vs := [.slice (some ⟨b12, 0, none⟩) A.length A.length]) hO rfl rfl rfl (by rfl) fun b14 w hO => ?_
  refine l_y rfl rfl (y_assign rfl) ?_
  refine K2 (K3 (K0 ?_))
  refine da_region (by intro c a d v w h; cases d <;> exact h) ?_
  have hO := hO.drew
  refine da_phase _ [8] (SO.ks [.b b14, .b a] hO) ?_
  refine dx_u 0 (by kernel_rfl) rfl rfl rfl (fun w => y_move rfl) ?_
  refine dx_u 1 (by kernel_rfl) rfl rfl rfl (fun w => y_nilCheck rfl rfl) ?_
  refine dx_u 2 (by kernel_rfl) rfl rfl rfl (fun w => y_fldb (o' := 0) rfl) ?_
  refine dx_y 3 (by kernel_rfl) rfl rfl rfl (fun w ⟨m, hw⟩ => D5 hw rfl) ?_
  refine dx_u 4 (by kernel_rfl) rfl rfl rfl (fun w => y_move rfl) ?_
  refine dx_u 5 (by kernel_rfl) rfl rfl rfl (fun w => y_nilCheck rfl rfl) ?_
  refine dx_u 6 (by kernel_rfl) rfl rfl rfl (fun w => y_fldb (o' := 0) rfl) ?_
  refine dx_y 7 (by kernel_rfl) rfl rfl rfl (fun w ⟨m, hw⟩ => D5 hw rfl) ?_
  refine dx_close 8 (by kernel_rfl) rfl rfl ?_
  refine s_cp hO rfl rfl (src_own hO) fun w hO => ?_
  rw [List.drop_of_length_le (by simp), List.append_nil] at hO
  refine o_done ?_
  refine da_end (by kernel_rfl) ?_
  refine K3 (K0 (K0 ?_))
  have hO := arenaL_shut (hO.ks [.s, .b a, .p p])
  have hO : Own k w (cps ((A.take 0).map attrsP) :: _) := Own.shut (l := []) hO
  refine K1 ?_
  refine l_y rfl rfl (y_move rfl) ?_
  refine l_y rfl rfl (y_nilCheck rfl rfl) ?_
  refine l_y rfl rfl (y_fldb (o' := 0) rfl) ?_
  refine l_y rfl rfl (D5 hO rfl) ?_
  refine l_y rfl rfl (y_lenL rfl) ?_
  refine l_y rfl rfl (y_move rfl) ?_
  refine K2 (K3 (K4 ?_))
  refine c_rounds (X := Nat × List Node_one) (fun x => [(2, .pointer none), (3, .pointer (some ⟨b14, 0, none⟩)), (28, .int .i64 ((A.length : Nat) : Int)), (29, .int .i64 (x.1 : Int))]) (fun x w => Own k w [arenaL a A, blk b14 59 [.slice (some ⟨b12, 0, none⟩) A.length A.length], sls (some ⟨b12, 0, none⟩) A.length 64 13 Node_one.cells x.2, cps ((x.2.take x.1).map attrsP)] ∧ (x.1 ≤ A.length ∧ x.2.length = A.length) ∧ (CopyTo A x.2 x.1)) (fun x => A.length - x.1) ((0, A)) ⟨rfl, rfl, rfl, rfl, trivial⟩ ⟨hO.only [.o a, .b b14, .p (some ⟨b12, 0, none⟩), .o 0], ⟨Nat.zero_le _, rfl⟩, fun j hj => ⟨fun h => by omega, fun _ => rfl⟩⟩ ?_
  rintro x w m hm ⟨hO, hx, hh⟩
  have hgb : Gs (some ⟨b12, 0, none⟩) x.2.length := (sls_fct (p := some ⟨b12, 0, none⟩) hO).2
  have hgb2 : Gs (some ⟨b12, 0, none⟩) A.length := hx.2 ▸ hgb
  refine K0 (K1 ?_)
  refine Z0 (fun h6_0 => ?_) (fun h6_0 => ?_)
  · refine K2 (K3 (K0 (L8 (K5 (K3 (K0 (K4 (K0 (K1 ?_)))))))))
    refine l_y rfl rfl (y_move rfl) ?_
    refine l_y rfl rfl (y_assign rfl) ?_
    refine K2 (K3 ?_)
    obtain ⟨p, c, hg, hO⟩ := arenaL_open (hO.ks [.o a])
    have hO := arena_pick (i := x.1) (by omega) (hO.ks [.s])
    have hai : at_ x.2 ((x.1 : Int)).toNat = at_ A x.1 := (hh x.1 (by omega)).2 (Nat.le_refl _)
    have hli := ha x.1 (by omega)
    refine da_region (by intro c a d v w h; cases d <;> exact h) ?_
    have hO := hO.drew
    refine da_phase _ [18] (SO.ks [.b b14, .p (some ⟨b12, 0, none⟩)] hO) ?_
    refine dx_u 0 (by kernel_rfl) rfl rfl rfl (fun w => y_move rfl) ?_
    refine dx_u 1 (by kernel_rfl) rfl rfl rfl (fun w => y_nilCheck rfl rfl) ?_
    refine dx_u 2 (by kernel_rfl) rfl rfl rfl (fun w => y_fldb (o' := 0) rfl) ?_
    refine dx_y 3 (by kernel_rfl) rfl rfl rfl (fun w ⟨m, hw⟩ => D5 hw rfl) ?_
    refine dx_u 4 (by kernel_rfl) rfl rfl rfl (fun w => y_move rfl) ?_
    refine dx_u 5 (by kernel_rfl) rfl rfl rfl (fun w => y_move rfl) ?_
    refine dx_u 6 (by kernel_rfl) rfl rfl rfl (fun w => y_nilCheck rfl rfl) ?_
    refine dx_u 7 (by kernel_rfl) rfl rfl rfl (fun w => y_fldb (o' := 0) rfl) ?_
    refine dx_y 8 (by kernel_rfl) rfl rfl rfl (fun w ⟨m, hw⟩ => D5 hw rfl) ?_
    refine dx_u 9 (by kernel_rfl) rfl rfl rfl (fun w => y_move rfl) ?_
    refine dx_u 10 (by kernel_rfl) rfl rfl rfl (fun w => y_idx rfl rfl) ?_
    refine dx_u 11 (by kernel_rfl) rfl rfl rfl (fun w => y_fld (j' := 0) rfl) ?_
    refine dx_u 12 (by kernel_rfl) rfl rfl rfl (fun w => y_fld (j' := 3) rfl) ?_
    refine dx_y 13 (by kernel_rfl) rfl rfl rfl (fun w ⟨m, hw⟩ => y_e1 (x0 := 3) hw rfl) ?_
    refine dx_only 14 (by kernel_rfl) rfl rfl ?_
    refine CK [] hO rfl (fun k' hx hr hO' => own_spec (p := (at_ x.2 (x.1 : Int).toNat).Node.AttrsP) (c := (at_ x.2 (x.1 : Int).toNat).Node.AttrsC) (xs := (at_ x.2 (x.1 : Int).toNat).Node.Attrs) (by rw [hai]; exact sls_roK (p := (at_ A x.1).Node.AttrsP) hr (sls_fct (p := (at_ A x.1).Node.AttrsP) hO)) (by rw [hai]; omega) (hO := hO')) ?_
    rintro _ _ w ⟨b46, rfl, rfl⟩ hO
    simp only [List.cons_append, List.nil_append] at hO
    refine o_done ?_
    refine ⟨SO.ks [.b b14, .p (some ⟨b12, 0, none⟩)] hO, ?_⟩
    refine dx_u 15 (by kernel_rfl) rfl rfl rfl (fun w => y_idx rfl rfl) ?_
    refine dx_u 16 (by kernel_rfl) rfl rfl rfl (fun w => y_fld (j' := 0) rfl) ?_
    refine dx_u 17 (by kernel_rfl) rfl rfl rfl (fun w => y_fld (j' := 3) rfl) ?_
    refine dx_close 18 (by kernel_rfl) rfl rfl ?_
    refine s_e1 (x0 := 3) hO rfl rfl (fun w hO => ?_)
    refine o_done ?_
    refine da_end (by kernel_rfl) ?_
    refine K8 (K3 (K1 ?_))
    refine l_y rfl rfl (D4) ?_
    refine l_y rfl rfl (y_move rfl) ?_
    refine K2 ?_
    have hO := arena_put (A := A) (i := x.1) (y := at_ A x.1) (by omega) (hO.ks [.p (at_ A x.1).Node.AttrsP, .s])
    rw [set_at (by omega)] at hO
    have hO := arenaL_shut (hO.ks [.s, .b a, .p p])
    have hO : Own k w (sep ((x.2.take x.1).map attrsP) :: attrsP (setAttrs (at_ x.2 x.1) (some ⟨b46, 0, none⟩) (at_ x.2 x.1).Node.Attrs (at_ x.2 x.1).Node.Attrs.length) :: _) := hO.ks [.o 0, .p (some ⟨b46, 0, none⟩)]
    have hO := hO.snoc
    rw [cps_step (by omega)] at hO
    have hO : Own k w (cps (((x.2.set x.1 (setAttrs (at_ x.2 x.1) (some ⟨b46, 0, none⟩) (at_ x.2 x.1).Node.Attrs (at_ x.2 x.1).Node.Attrs.length)).take (x.1 + 1)).map attrsP) :: _) := hO
    exact q_next ((x.1 + 1, _)) ⟨rfl, rfl, rfl, rfl, trivial⟩ ⟨hO.only [.o a, .b b14, .p (some ⟨b12, 0, none⟩), .o 0], ⟨by dsimp only; omega, by dsimp only; rw [List.length_set]; exact hx.2⟩, hh.step hx.2 (by omega) _ _⟩ (by dsimp only; omega)
  · refine K2 (K3 (K0 (L9 (K7 (L1 (L1 (L2 (K3 (K0 ?_)))))))))
    have hxe : x.1 = A.length := by omega
    have e : x.2.take x.1 = x.2 := List.take_of_length_le (by omega)
    rw [e] at hO
    have hO : Own k w (sep (x.2.map attrsP) :: _) := hO.ks [.o 0]
    refine K1 ?_
    refine l_y rfl rfl (y_move rfl) ?_
    refine l_y rfl rfl (y_assign rfl) ?_
    refine K2 (K3 (K6 ?_))
    exact fin1 rfl rfl ⟨_, ⟨b14, x.2, rfl, hx.2, by rw [← hxe]; exact hh, rfl⟩, (arenaL_shut (hO.ks [.s, .b b14, .p (some ⟨b12, 0, none⟩)]) rfl hx.2.symm).ks [.o a, .o b14]⟩
end Go.Proofs.Ytnolpajggmfpdaa
