/- What the row of this folder leans on, part 1: the walks of the functions and the laws of what they compute; no condition. -/
import Derived.Test.YtpejdlfkaaiehaaGreatDoorWnk0
section
set_option linter.unusedVariables false
set_option linter.unusedSimpArgs false
set_option maxRecDepth 100000
namespace Go.Proofs.YtpejdlfkaaiehaaGreatDoor
open Go Go.Hb Go.RowKit
theorem attrs_set {A : List Node_one} {i : Nat} {u : Node_one} (h : attrsP u = attrsP (at_ A i)) : (A.set i u).map attrsP = A.map attrsP := map_set_same' h
def setFirst (A : List Node_one) (i v : Int) : List Node_one := A.set i.toNat { at_ A i.toNat with Node := { (at_ A i.toNat).Node with First := v } }
def setLast (A : List Node_one) (i v : Int) : List Node_one := A.set i.toNat { at_ A i.toNat with Node := { (at_ A i.toNat).Node with Last := v } }
def setNext (A : List Node_one) (i v : Int) : List Node_one := A.set i.toNat { at_ A i.toNat with Node := { (at_ A i.toNat).Node with Next := v } }
def setPrev (A : List Node_one) (i v : Int) : List Node_one := A.set i.toNat { at_ A i.toNat with Node := { (at_ A i.toNat).Node with Prev := v } }
def joinA (A : List Node_one) (up left right : Int) : List Node_one := if left = -1 then setFirst A up right else setNext A left right
def joinB (A : List Node_one) (up left right : Int) : List Node_one := if right = -1 then setLast A up left else setPrev A right left
def joinL (A : List Node_one) (up left right : Int) : List Node_one := joinB (joinA A up left right) up left right
theorem joinA_len {A : List Node_one} {up left right : Int} : (joinA A up left right).length = A.length := by unfold joinA; split <;> simp [setFirst, setNext]
theorem joinB_len {A : List Node_one} {up left right : Int} : (joinB A up left right).length = A.length := by unfold joinB; split <;> simp [setLast, setPrev]
theorem joinL_len {A : List Node_one} {up left right : Int} : (joinL A up left right).length = A.length := by rw [joinL, joinB_len, joinA_len]
theorem joinA_attrs {A : List Node_one} {up left right : Int} : (joinA A up left right).map attrsP = A.map attrsP := by unfold joinA; split <;> exact attrs_set rfl
theorem joinB_attrs {A : List Node_one} {up left right : Int} : (joinB A up left right).map attrsP = A.map attrsP := by unfold joinB; split <;> exact attrs_set rfl
theorem joinL_attrs {A : List Node_one} {up left right : Int} : (joinL A up left right).map attrsP = A.map attrsP := by rw [joinL, joinB_attrs, joinA_attrs]
theorem join_spec {k : Ctx} {w : World} {a : Nat} {A : List Node_one} {p : Option Addr} {c n : Nat} {up left right : Int} (hg : Gs p n) (hn : n = A.length) (hup : 0 ≤ up ∧ up < n) (hl : left = -1 ∨ 0 ≤ left ∧ left < n) (hr : right = -1 ∨ 0 ≤ right ∧ right < n) (hO : Own k w [arB a p n c, arS p c A]) :
    Tri Tryz.prog 37 #[.pointer (some ⟨a, 0, none⟩), .int .i64 up, .int .i64 left, .int .i64 right] k w fun v m => v = .tuple #[] ∧ m = [arB a p n c, arS p c (joinL A up left right)] := by
  refine enter (args := [.pointer (some ⟨a, 0, none⟩), .int .i64 up, .int .i64 left, .int .i64 right]) Tryz.func37 rfl rfl ?_
  have hgA : Gs p A.length := hn ▸ hg
  have hj := joinA_len (A := A) (up := up) (left := left) (right := right)
  have hgJ : Gs p (joinA A up left right).length := by rw [hj]; exact hgA
  refine K0 (K0 (K1 ?_))
  refine l_y rfl rfl (y_move rfl) ?_
  refine Z0 (fun h0_1 => ?_) (fun h0_1 => ?_)
  · refine K2 (K3 (L8 (K1 ?_)))
    refine l_y rfl rfl (y_move rfl) ?_
    refine l_y rfl rfl (y_nilCheck rfl rfl) ?_
    refine l_y rfl rfl (y_fldb (o' := 0) rfl) ?_
    refine l_y rfl rfl (D5 hO rfl) ?_
    refine l_y rfl rfl (y_move rfl) ?_
    refine l_y rfl rfl (y_move rfl) ?_
    refine l_y rfl rfl (y_idx rfl rfl) ?_
    refine l_y rfl rfl (y_fld (j' := 0) rfl) ?_
    refine l_y rfl rfl (y_fld (j' := 7) rfl) ?_
    refine s_e1 (x0 := 7) hO rfl rfl (fun w hO => ?_)
    refine K2 (K3 (K0 ?_))
    have hO : Own k w [arB a p n c, arS p c (joinA A up left right)] := by simp only [joinA]; first | rw [if_pos h0_1]; exact hO | rw [if_neg h0_1]; exact hO
    refine K1 ?_
    refine l_y rfl rfl (y_move rfl) ?_
    refine Z0 (fun h3_1 => ?_) (fun h3_1 => ?_)
    · refine K2 (K3 (L8 (K1 ?_)))
      refine l_y rfl rfl (y_move rfl) ?_
      refine l_y rfl rfl (y_nilCheck rfl rfl) ?_
      refine l_y rfl rfl (y_fldb (o' := 0) rfl) ?_
      refine l_y rfl rfl (D5 hO rfl) ?_
      refine l_y rfl rfl (y_move rfl) ?_
      refine l_y rfl rfl (y_move rfl) ?_
      refine l_y rfl rfl (y_idx rfl rfl) ?_
      refine l_y rfl rfl (y_fld (j' := 0) rfl) ?_
      refine l_y rfl rfl (y_fld (j' := 8) rfl) ?_
      refine s_e1 (x0 := 8) hO rfl rfl (fun w hO => ?_)
      refine K2 ?_
      have hO : Own k w [arB a p n c, arS p c (joinL A up left right)] := by simp only [joinL, joinB]; first | rw [if_pos h3_1]; exact hO | rw [if_neg h3_1]; exact hO
      exact fin0 rfl ⟨_, ⟨rfl, rfl⟩, hO⟩
    · refine K2 (K3 (L9 (K1 ?_)))
      refine l_y rfl rfl (y_move rfl) ?_
      refine l_y rfl rfl (y_nilCheck rfl rfl) ?_
      refine l_y rfl rfl (y_fldb (o' := 0) rfl) ?_
      refine l_y rfl rfl (D5 hO rfl) ?_
      refine l_y rfl rfl (y_move rfl) ?_
      refine l_y rfl rfl (y_move rfl) ?_
      refine l_y rfl rfl (y_idx rfl rfl) ?_
      refine l_y rfl rfl (y_fld (j' := 0) rfl) ?_
      refine l_y rfl rfl (y_fld (j' := 9) rfl) ?_
      refine s_e1 (x0 := 9) hO rfl rfl (fun w hO => ?_)
      refine K2 ?_
      have hO : Own k w [arB a p n c, arS p c (joinL A up left right)] := by simp only [joinL, joinB]; first | rw [if_pos h3_1]; exact hO | rw [if_neg h3_1]; exact hO
      exact fin0 rfl ⟨_, ⟨rfl, rfl⟩, hO⟩
  · refine K2 (K3 (L9 (K1 ?_)))
    refine l_y rfl rfl (y_move rfl) ?_
    refine l_y rfl rfl (y_nilCheck rfl rfl) ?_
    refine l_y rfl rfl (y_fldb (o' := 0) rfl) ?_
    refine l_y rfl rfl (D5 hO rfl) ?_
    refine l_y rfl rfl (y_move rfl) ?_
    refine l_y rfl rfl (y_move rfl) ?_
    refine l_y rfl rfl (y_idx rfl rfl) ?_
    refine l_y rfl rfl (y_fld (j' := 0) rfl) ?_
    refine l_y rfl rfl (y_fld (j' := 10) rfl) ?_
    refine s_e1 (x0 := 10) hO rfl rfl (fun w hO => ?_)
    refine K2 (K3 (K0 ?_))
    have hO : Own k w [arB a p n c, arS p c (joinA A up left right)] := by simp only [joinA]; first | rw [if_pos h0_1]; exact hO | rw [if_neg h0_1]; exact hO
    refine K1 ?_
    refine l_y rfl rfl (y_move rfl) ?_
    refine Z0 (fun h3_1 => ?_) (fun h3_1 => ?_)
    · refine K2 (K3 (L8 (K1 ?_)))
      refine l_y rfl rfl (y_move rfl) ?_
      refine l_y rfl rfl (y_nilCheck rfl rfl) ?_
      refine l_y rfl rfl (y_fldb (o' := 0) rfl) ?_
      refine l_y rfl rfl (D5 hO rfl) ?_
      refine l_y rfl rfl (y_move rfl) ?_
      refine l_y rfl rfl (y_move rfl) ?_
      refine l_y rfl rfl (y_idx rfl rfl) ?_
      refine l_y rfl rfl (y_fld (j' := 0) rfl) ?_
      refine l_y rfl rfl (y_fld (j' := 8) rfl) ?_
      refine s_e1 (x0 := 8) hO rfl rfl (fun w hO => ?_)
      refine K2 ?_
      have hO : Own k w [arB a p n c, arS p c (joinL A up left right)] := by simp only [joinL, joinB]; first | rw [if_pos h3_1]; exact hO | rw [if_neg h3_1]; exact hO
      exact fin0 rfl ⟨_, ⟨rfl, rfl⟩, hO⟩
    · refine K2 (K3 (L9 (K1 ?_)))
      refine l_y rfl rfl (y_move rfl) ?_
      refine l_y rfl rfl (y_nilCheck rfl rfl) ?_
      refine l_y rfl rfl (y_fldb (o' := 0) rfl) ?_
      refine l_y rfl rfl (D5 hO rfl) ?_
      refine l_y rfl rfl (y_move rfl) ?_
      refine l_y rfl rfl (y_move rfl) ?_
      refine l_y rfl rfl (y_idx rfl rfl) ?_
      refine l_y rfl rfl (y_fld (j' := 0) rfl) ?_
      refine l_y rfl rfl (y_fld (j' := 9) rfl) ?_
      refine s_e1 (x0 := 9) hO rfl rfl (fun w hO => ?_)
      refine K2 ?_
      have hO : Own k w [arB a p n c, arS p c (joinL A up left right)] := by simp only [joinL, joinB]; first | rw [if_pos h3_1]; exact hO | rw [if_neg h3_1]; exact hO
      exact fin0 rfl ⟨_, ⟨rfl, rfl⟩, hO⟩
def nextUp (A : List Node_one) (x : Int) : Int := if (at_ A x.toNat).Node.Parent = -1 then (at_ A x.toNat).host else (at_ A x.toNat).Node.Parent
inductive Anc (A : List Node_one) : Int → Int → Prop
  | refl (x : Int) : Anc A x x
  | step {x y : Int} (h : x ≠ -1) (hs : Anc A (nextUp A x) y) : Anc A x y
def Ranked (A : List Node_one) : Prop := ∃ rk : Int → Nat, ∀ x, hasB A x = true → nextUp A x = -1 ∨ hasB A (nextUp A x) = true ∧ rk (nextUp A x) < rk x
noncomputable def ancB (A : List Node_one) (x y : Int) : Bool := @decide (Anc A x y) (Classical.propDecidable _)
noncomputable def aboveB (A : List Node_one) (x y : Int) : Bool := hasB A x && hasB A y && ancB A x y
theorem anc_none {A : List Node_one} {y : Int} (h : Anc A (-1) y) : y = -1 := by
  cases h with
  | refl => rfl
  | step h _ => exact absurd rfl h
theorem anc_ne {A : List Node_one} {x y : Int} (h : x ≠ y) (h1 : x ≠ -1) : Anc A x y ↔ Anc A (nextUp A x) y := ⟨fun k => by
  cases k with
  | refl => exact absurd rfl h
  | step _ hs => exact hs, fun k => .step h1 k⟩
theorem ancB_iff {A : List Node_one} {x y : Int} : ancB A x y = true ↔ Anc A x y := by simp [ancB]
theorem ancB_of {A : List Node_one} {x y : Int} (h : Anc A x y) : ancB A x y = true := ancB_iff.2 h
theorem ancB_not {A : List Node_one} {x y : Int} (h : ¬ Anc A x y) : ancB A x y = false := by
  cases e : ancB A x y with
  | false => rfl
  | true => exact absurd (ancB_iff.1 e) h
theorem Above_spec {k : Ctx} {w : World} {a : Nat} {A : List Node_one} {p : Option Addr} {c : Nat} {id other : Int} (hn : 0 < A.length) (hg : Gs p A.length) (hrk : Ranked A) (hO : Own k w [arB a p A.length c, arS p c A]) :
    Tri Tryz.prog 36 #[.pointer (some ⟨a, 0, none⟩), .int .i64 id, .int .i64 other] k w fun v m => v = .bool (aboveB A id other) ∧ m = [arB a p A.length c, arS p c A] := by
  refine enter (args := [.pointer (some ⟨a, 0, none⟩), .int .i64 id, .int .i64 other]) Tryz.func36 rfl rfl ?_
  obtain ⟨rk, hrk⟩ := hrk
  refine K0 (K1 ?_)
  refine l_y rfl rfl (y_assign rfl) ?_
  refine K2 (K3 (K0 (K0 (K1 ?_))))
  refine l_y rfl rfl (y_move rfl) ?_
  refine CK [.b a, .p p] hO rfl (fun k' hx hr hO' => none_spec (hO := hO')) ?_
  rintro _ _ w ⟨rfl, rfl⟩ hO
  simp only [List.cons_append, List.nil_append] at hO
  refine l_y rfl rfl (y_move rfl) ?_
  refine l_y rfl rfl (y_move rfl) ?_
  refine l_y rfl rfl (y_move rfl) ?_
  refine CK [.b a, .p p] hO rfl (fun k' hx hr hO' => has_spec (hO := hO')) ?_
  rintro _ _ w ⟨rfl, rfl⟩ hO
  simp only [List.cons_append, List.nil_append] at hO
  refine l_y rfl rfl (y_not rfl rfl) ?_
  refine l_y rfl rfl (y_pick_f rfl rfl) ?_
  refine l_y rfl rfl (y_move rfl) ?_
  refine l_split 16 rfl (fun hg16 => ?_) (fun hg16 => ?_)
  · simp only [Bool.not_eq_true', Bool.not_eq_false'] at hg16
    repeat refine M2 ?_
    refine l_y rfl rfl (y_pick_t rfl rfl) ?_
    refine K2 (K3 (L8 (K0 (K1 ?_))))
    refine l_y rfl rfl (y_assign rfl) ?_
    refine K2 (K3 (K6 (K9 ?_)))
    first
    | exact fin1 rfl rfl ⟨_, ⟨by rw [aboveB, hg16]; rfl, rfl⟩, hO⟩
    | exact fin1 rfl rfl ⟨_, ⟨by rw [aboveB, hc21, Bool.and_false]; rfl, rfl⟩, hO⟩
  · simp only [Bool.not_eq_true', Bool.not_eq_false'] at hg16
    refine l_y rfl rfl (y_move rfl) ?_
    refine l_y rfl rfl (y_move rfl) ?_
    refine CK [.b a, .p p] hO rfl (fun k' hx hr hO' => has_spec (hO := hO')) ?_
    rintro _ _ w ⟨rfl, rfl⟩ hO
    simp only [List.cons_append, List.nil_append] at hO
    refine l_y rfl rfl (y_not rfl rfl) ?_
    refine l_y rfl rfl (y_pick_f rfl rfl) ?_
    refine K2 (K3 ?_)
    refine c_split rfl (fun hc21 => ?_) (fun hc21 => ?_)
    · simp only [Bool.not_eq_true', Bool.not_eq_false'] at hc21
      refine K0 (K1 ?_)
      refine l_y rfl rfl (y_assign rfl) ?_
      refine K2 (K3 (K6 (K9 ?_)))
      first
      | exact fin1 rfl rfl ⟨_, ⟨by rw [aboveB, hg16]; rfl, rfl⟩, hO⟩
      | exact fin1 rfl rfl ⟨_, ⟨by rw [aboveB, hc21, Bool.and_false]; rfl, rfl⟩, hO⟩
    · simp only [Bool.not_eq_true', Bool.not_eq_false'] at hc21
      refine K5 (K3 (K0 (K4 ?_)))
      refine c_rounds (X := Int) (fun x => [(0, .pointer (some ⟨a, 0, none⟩)), (1, .int .i64 x), (2, .int .i64 other), (6, .bool false)]) (fun x w => Own k w [arB a p A.length c, arS p c A] ∧ ((x = -1 ∨ hasB A x = true)) ∧ ((Anc A id other ↔ Anc A x other))) (fun x => if x = -1 then 0 else rk x + 1) (id) ⟨rfl, rfl, rfl, rfl, trivial⟩ ⟨hO.only [.b a, .p p], .inr hg16, Iff.rfl⟩ ?_
      rintro x w m hm ⟨hO, hx, he⟩
      refine K0 (K0 (K1 ?_))
      refine l_y rfl rfl (y_move rfl) ?_
      refine l_y rfl rfl (y_move rfl) ?_
      refine Z1 (fun h3_2 => ?_) (fun h3_2 => ?_)
      · refine l_y rfl rfl (y_move rfl) ?_
        refine l_y rfl rfl (y_move rfl) ?_
        refine Z1 (fun h3_5 => ?_) (fun h3_5 => ?_)
        · refine l_y rfl rfl (y_pick_t rfl rfl) ?_
          refine K2 (K3 (L8 (K5 (K3 (K4 (K0 ?_))))))
          have hb := hx.resolve_left h3_5
          have hb2 := hasB_true hb
          refine K1 ?_
          refine l_y rfl rfl (y_move rfl) ?_
          refine l_y rfl rfl (y_nilCheck rfl rfl) ?_
          refine l_y rfl rfl (y_fldb (o' := 0) rfl) ?_
          refine l_y rfl rfl (D5 hO rfl) ?_
          refine l_y rfl rfl (y_move rfl) ?_
          refine l_y rfl rfl (y_idx rfl rfl) ?_
          refine l_y rfl rfl (y_eA (x0 := 0) (cs := [.int .i64 (at_ A (x : Int).toNat).Node.Kind, .int .i64 (at_ A (x : Int).toNat).Node.Space, .string (at_ A (x : Int).toNat).Node.Name, .slice (at_ A (x : Int).toNat).Node.AttrsP (at_ A (x : Int).toNat).Node.Attrs.length (at_ A (x : Int).toNat).Node.AttrsC, .string (at_ A (x : Int).toNat).Node.Data, .string (at_ A (x : Int).toNat).Node.System, .int .i64 (at_ A (x : Int).toNat).Node.Parent, .int .i64 (at_ A (x : Int).toNat).Node.First, .int .i64 (at_ A (x : Int).toNat).Node.Last, .int .i64 (at_ A (x : Int).toNat).Node.Prev, .int .i64 (at_ A (x : Int).toNat).Node.Next, .int .i64 (at_ A (x : Int).toNat).Node.Inner, .int .i64 (at_ A (x : Int).toNat).host]) hO rfl) ?_
          refine s_alloc (vs := [.int .i64 0, .int .i64 0, .string ⟨#[]⟩, .slice none 0 0, .string ⟨#[]⟩, .string ⟨#[]⟩, .int .i64 0, .int .i64 0, .int .i64 0, .int .i64 0, .int .i64 0, .int .i64 0, .int .i64 0]) hO rfl rfl rfl fun b7 w hO => ?_
          refine Y3 hO rfl rfl (fun w hO => ?_)
          refine K2 (K3 (K0 (K1 ?_)))
          refine l_y rfl rfl (y_fldb (o' := 0) rfl) ?_
          refine l_y rfl rfl (y_fldb (o' := 6) rfl) ?_
          refine l_y rfl rfl (D5 hO rfl) ?_
          refine l_y rfl rfl (y_assign rfl) ?_
          refine K2 (K3 (K0 (K1 ?_)))
          refine l_y rfl rfl (y_move rfl) ?_
          refine Z0 (fun h6_1 => ?_) (fun h6_1 => ?_)
          · refine K2 (K3 (L8 (K1 ?_)))
            refine l_y rfl rfl (y_fldb (o' := 12) rfl) ?_
            refine l_y rfl rfl (D5 hO rfl) ?_
            refine l_y rfl rfl (y_assign rfl) ?_
            refine K2 (K8 ?_)
            have hnx : nextUp A x = (at_ A (x : Int).toNat).host := by simp only [nextUp]; first | rw [if_pos h6_1] | rw [if_neg h6_1]
            have hrx := hrk x (hx.resolve_left h3_5)
            have hlt : (if nextUp A x = -1 then 0 else rk (nextUp A x) + 1) < rk x + 1 := by
              split
              · omega
              · rename_i h; have := (hrx.resolve_left h).2; omega
            exact q_next ((at_ A (x : Int).toNat).host) ⟨rfl, rfl, rfl, rfl, trivial⟩ ⟨hO.only [.b a, .p p], by rw [← hnx]; exact hrx.imp (fun h => h) And.left, by rw [he, anc_ne h3_2 h3_5, hnx]⟩ (by rw [← hm, if_neg h3_5, ← hnx]; exact hlt)
          · refine K2 (K3 (L9 (K5 (K8 ?_))))
            have hnx : nextUp A x = (at_ A (x : Int).toNat).Node.Parent := by simp only [nextUp]; first | rw [if_pos h6_1] | rw [if_neg h6_1]
            have hrx := hrk x (hx.resolve_left h3_5)
            have hlt : (if nextUp A x = -1 then 0 else rk (nextUp A x) + 1) < rk x + 1 := by
              split
              · omega
              · rename_i h; have := (hrx.resolve_left h).2; omega
            exact q_next ((at_ A (x : Int).toNat).Node.Parent) ⟨rfl, rfl, rfl, rfl, trivial⟩ ⟨hO.only [.b a, .p p], by rw [← hnx]; exact hrx.imp (fun h => h) And.left, by rw [he, anc_ne h3_2 h3_5, hnx]⟩ (by rw [← hm, if_neg h3_5, ← hnx]; exact hlt)
        · refine l_y rfl rfl (y_pick_t rfl rfl) ?_
          refine K2 (K3 (L9 (K7 (L1 (L1 (L2 (K3 (K0 (K1 ?_)))))))))
          refine l_y rfl rfl (y_move rfl) ?_
          refine l_y rfl rfl (y_move rfl) ?_
          refine Z0 (fun h8_2 => ?_) (fun h8_2 => ?_)
          · refine l_y rfl rfl (y_assign rfl) ?_
            refine K2 (K3 (K6 ?_))
            have hid : hasB A id = true := hg16
            have hot : hasB A other = true := hc21
            have hot2 := hasB_true hot
            first
            | (exfalso; omega)
            | (have e : x = other := by omega
               subst e
               exact fin1 rfl rfl ⟨_, ⟨by simp [aboveB, hid, hot, ancB_of (he.2 (.refl _))], rfl⟩, hO⟩)
            | (have e : x = -1 := by omega
               subst e
               exact fin1 rfl rfl ⟨_, ⟨by simp [aboveB, ancB_not (fun h => h8_2 (anc_none (he.1 h)).symm)], rfl⟩, hO⟩)
          · refine l_y rfl rfl (y_assign rfl) ?_
            refine K2 (K3 (K6 ?_))
            have hid : hasB A id = true := hg16
            have hot : hasB A other = true := hc21
            have hot2 := hasB_true hot
            first
            | (exfalso; omega)
            | (have e : x = other := by omega
               subst e
               exact fin1 rfl rfl ⟨_, ⟨by simp [aboveB, hid, hot, ancB_of (he.2 (.refl _))], rfl⟩, hO⟩)
            | (have e : x = -1 := by omega
               subst e
               exact fin1 rfl rfl ⟨_, ⟨by simp [aboveB, ancB_not (fun h => h8_2 (anc_none (he.1 h)).symm)], rfl⟩, hO⟩)
      · refine l_y rfl rfl (y_move rfl) ?_
        repeat refine M2 ?_
        refine l_y rfl rfl (y_pick_f rfl rfl) ?_
        refine K2 (K3 (L9 (K7 (L1 (L1 (L2 (K3 (K0 (K1 ?_)))))))))
        refine l_y rfl rfl (y_move rfl) ?_
        refine l_y rfl rfl (y_move rfl) ?_
        refine Z0 (fun h8_2 => ?_) (fun h8_2 => ?_)
        · refine l_y rfl rfl (y_assign rfl) ?_
          refine K2 (K3 (K6 ?_))
          have hid : hasB A id = true := hg16
          have hot : hasB A other = true := hc21
          have hot2 := hasB_true hot
          first
          | (exfalso; omega)
          | (have e : x = other := by omega
             subst e
             exact fin1 rfl rfl ⟨_, ⟨by simp [aboveB, hid, hot, ancB_of (he.2 (.refl _))], rfl⟩, hO⟩)
          | (have e : x = -1 := by omega
             subst e
             exact fin1 rfl rfl ⟨_, ⟨by simp [aboveB, ancB_not (fun h => h8_2 (anc_none (he.1 h)).symm)], rfl⟩, hO⟩)
        · refine l_y rfl rfl (y_assign rfl) ?_
          refine K2 (K3 (K6 ?_))
          have hid : hasB A id = true := hg16
          have hot : hasB A other = true := hc21
          have hot2 := hasB_true hot
          first
          | (exfalso; omega)
          | (have e : x = other := by omega
             subst e
             exact fin1 rfl rfl ⟨_, ⟨by simp [aboveB, hid, hot, ancB_of (he.2 (.refl _))], rfl⟩, hO⟩)
          | (have e : x = -1 := by omega
             subst e
             exact fin1 rfl rfl ⟨_, ⟨by simp [aboveB, ancB_not (fun h => h8_2 (anc_none (he.1 h)).symm)], rfl⟩, hO⟩)
def InR (A : List Node_one) (v : Int) : Prop := v = -1 ∨ 0 ≤ v ∧ v < A.length
structure LinksOk (A : List Node_one) : Prop where
  first : ∀ x, hasB A x = true → InR A (at_ A x.toNat).Node.First
  last : ∀ x, hasB A x = true → InR A (at_ A x.toNat).Node.Last
  prev : ∀ x, hasB A x = true → InR A (at_ A x.toNat).Node.Prev
  next : ∀ x, hasB A x = true → InR A (at_ A x.toNat).Node.Next
  parent : ∀ x, hasB A x = true → InR A (at_ A x.toNat).Node.Parent
def setLinks (A : List Node_one) (id up prev next : Int) : List Node_one := A.set id.toNat { at_ A id.toNat with Node := { (at_ A id.toNat).Node with Parent := up, Prev := prev, Next := next } }
def prevL (A : List Node_one) (up before : Int) : Int := if before = -1 then (at_ A up.toNat).Node.Last else (at_ A before.toNat).Node.Prev
noncomputable def linkL (A : List Node_one) (up id before : Int) : Int × List Node_one :=
  if hasB A up = false ∨ hasB A id = false ∨ (before ≠ -1 ∧ hasB A before = false) then (6, A)
  else if parentB (at_ A up.toNat).Node.Kind = false ∨ (at_ A id.toNat).Node.Kind = 0 ∨ (at_ A id.toNat).Node.Kind = 5 then (10, A)
  else if (at_ A id.toNat).Node.Parent ≠ -1 ∨ aboveB A up id = true then (11, A)
  else if before ≠ -1 ∧ (at_ A before.toNat).Node.Parent ≠ up then (1, A)
  else (0, joinL (joinL (setLinks A id up (prevL A up before) before) up (prevL A up before) id) up id before)
set_option maxHeartbeats 2000000 in
theorem Link_spec {k : Ctx} {w : World} {a : Nat} {A : List Node_one} {p : Option Addr} {c : Nat} {up id before : Int} (hn : 0 < A.length) (hg : Gs p A.length) (hrk : Ranked A) (hL : LinksOk A) (hO : Own k w [arB a p A.length c, arS p c A]) :
    Tri Tryz.prog 12 #[.pointer (some ⟨a, 0, none⟩), .int .i64 up, .int .i64 id, .int .i64 before] k w fun v m => v = .int .i64 (linkL A up id before).1 ∧ m = [arB a p A.length c, arS p c (linkL A up id before).2] := by
  refine enter (args := [.pointer (some ⟨a, 0, none⟩), .int .i64 up, .int .i64 id, .int .i64 before]) Tryz.func12 rfl rfl ?_
  refine K0 (K1 ?_)
  refine l_y rfl rfl (y_assign rfl) ?_
  refine K2 (K3 (K0 (K4 (K0 (K1 ?_)))))
  refine l_y rfl rfl (y_move rfl) ?_
  refine CK [.b a, .p p] hO rfl (fun k' hx hr hO' => none_spec (hO := hO')) ?_
  rintro _ _ w ⟨rfl, rfl⟩ hO
  simp only [List.cons_append, List.nil_append] at hO
  refine l_y rfl rfl (y_assign rfl) ?_
  refine K2 (K3 (L9 (K0 (K1 ?_))))
  refine l_y rfl rfl (y_move rfl) ?_
  refine l_y rfl rfl (y_move rfl) ?_
  refine CK [.b a, .p p] hO rfl (fun k' hx hr hO' => has_spec (hO := hO')) ?_
  rintro _ _ w ⟨rfl, rfl⟩ hO
  simp only [List.cons_append, List.nil_append] at hO
  refine l_y rfl rfl (y_not rfl rfl) ?_
  refine l_y rfl rfl (y_move rfl) ?_
  refine l_split 19 rfl (fun hg19 => ?_) (fun hg19 => ?_)
  · simp only [Bool.not_eq_true', Bool.not_eq_false'] at hg19
    repeat refine M2 ?_
    refine l_y rfl rfl (y_pick_t rfl rfl) ?_
    refine l_y rfl rfl (y_move rfl) ?_
    repeat refine M2 ?_
    refine l_y rfl rfl (y_pick_t rfl rfl) ?_
    refine l_y rfl rfl (y_assign rfl) ?_
    refine K2 (K3 (L8 (K0 (K1 ?_))))
    refine l_y rfl rfl (y_assign rfl) ?_
    refine K2 (K3 (K6 (L0 (K9 ?_))))
    exact fin1 rfl rfl ⟨_, ⟨by simp [linkL, *], by simp [linkL, *]⟩, hO⟩
  · simp only [Bool.not_eq_true', Bool.not_eq_false'] at hg19
    refine l_y rfl rfl (y_move rfl) ?_
    refine l_y rfl rfl (y_move rfl) ?_
    refine CK [.b a, .p p] hO rfl (fun k' hx hr hO' => has_spec (hO := hO')) ?_
    rintro _ _ w ⟨rfl, rfl⟩ hO
    simp only [List.cons_append, List.nil_append] at hO
    refine l_y rfl rfl (y_not rfl rfl) ?_
    refine l_y rfl rfl (y_pick_f rfl rfl) ?_
    refine l_y rfl rfl (y_move rfl) ?_
    refine l_split 25 rfl (fun hg25 => ?_) (fun hg25 => ?_)
    · simp only [Bool.not_eq_true', Bool.not_eq_false'] at hg25
      repeat refine M2 ?_
      refine l_y rfl rfl (y_pick_t rfl rfl) ?_
      refine l_y rfl rfl (y_assign rfl) ?_
      refine K2 (K3 (L8 (K0 (K1 ?_))))
      refine l_y rfl rfl (y_assign rfl) ?_
      refine K2 (K3 (K6 (L0 (K9 ?_))))
      exact fin1 rfl rfl ⟨_, ⟨by simp [linkL, *], by simp [linkL, *]⟩, hO⟩
    · simp only [Bool.not_eq_true', Bool.not_eq_false'] at hg25
      refine l_y rfl rfl (y_move rfl) ?_
      refine Z1 (fun h3_12 => ?_) (fun h3_12 => ?_)
      · refine l_y rfl rfl (y_move rfl) ?_
        refine l_y rfl rfl (y_move rfl) ?_
        refine l_y rfl rfl (y_move rfl) ?_
        refine CK [.b a, .p p] hO rfl (fun k' hx hr hO' => has_spec (hO := hO')) ?_
        rintro _ _ w ⟨rfl, rfl⟩ hO
        simp only [List.cons_append, List.nil_append] at hO
        refine l_y rfl rfl (y_not rfl rfl) ?_
        refine l_y rfl rfl (y_pick_t rfl rfl) ?_
        refine l_y rfl rfl (y_pick_f rfl rfl) ?_
        refine l_y rfl rfl (y_assign rfl) ?_
        refine K2 (K3 ?_)
        refine c_split rfl (fun hc14 => ?_) (fun hc14 => ?_)
        · simp only [Bool.not_eq_true', Bool.not_eq_false'] at hc14
          refine K0 (K1 ?_)
          refine l_y rfl rfl (y_assign rfl) ?_
          refine K2 (K3 (K6 (L0 (K9 ?_))))
          exact fin1 rfl rfl ⟨_, ⟨by simp [linkL, *], by simp [linkL, *]⟩, hO⟩
        · simp only [Bool.not_eq_true', Bool.not_eq_false'] at hc14
          refine K0 ?_
          have hup := hasB_true hg19
          have hid := hasB_true hg25
          try have hbe := hasB_true hc14
          have hq1 : _ ∨ _ := hL.last up hg19
          try have hq2 : _ ∨ _ := hL.prev before hc14
          refine K1 ?_
          refine l_y rfl rfl (y_move rfl) ?_
          refine l_y rfl rfl (y_nilCheck rfl rfl) ?_
          refine l_y rfl rfl (y_fldb (o' := 0) rfl) ?_
          refine l_y rfl rfl (D5 hO rfl) ?_
          refine l_y rfl rfl (y_move rfl) ?_
          refine l_y rfl rfl (y_idx rfl rfl) ?_
          refine l_y rfl rfl (y_fld (j' := 0) rfl) ?_
          refine l_y rfl rfl (y_fld (j' := 0) rfl) ?_
          refine l_y rfl rfl (y_e1 (x0 := 0) hO rfl) ?_
          refine CK [] hO rfl (fun k' hx hr hO' => parent_spec (hO := hO')) ?_
          rintro _ _ w ⟨rfl, rfl⟩ hO
          simp only [List.cons_append, List.nil_append] at hO
          refine l_y rfl rfl (y_not rfl rfl) ?_
          refine l_y rfl rfl (y_move rfl) ?_
          refine l_split 47 rfl (fun hg47 => ?_) (fun hg47 => ?_)
          · simp only [Bool.not_eq_true', Bool.not_eq_false'] at hg47
            repeat refine M2 ?_
            refine l_y rfl rfl (y_pick_t rfl rfl) ?_
            refine l_y rfl rfl (y_move rfl) ?_
            repeat refine M2 ?_
            refine l_y rfl rfl (y_pick_t rfl rfl) ?_
            refine l_y rfl rfl (y_assign rfl) ?_
            refine K2 (K3 (L8 (K0 (K1 ?_))))
            refine l_y rfl rfl (y_assign rfl) ?_
            refine K2 (K3 (K6 (L0 (K9 ?_))))
            exact fin1 rfl rfl ⟨_, ⟨by simp [linkL, *], by simp [linkL, *]⟩, hO⟩
          · simp only [Bool.not_eq_true', Bool.not_eq_false'] at hg47
            refine l_y rfl rfl (y_move rfl) ?_
            refine l_y rfl rfl (y_nilCheck rfl rfl) ?_
            refine l_y rfl rfl (y_fldb (o' := 0) rfl) ?_
            refine l_y rfl rfl (D5 hO rfl) ?_
            refine l_y rfl rfl (y_move rfl) ?_
            refine l_y rfl rfl (y_idx rfl rfl) ?_
            refine l_y rfl rfl (y_fld (j' := 0) rfl) ?_
            refine l_y rfl rfl (y_fld (j' := 0) rfl) ?_
            refine l_y rfl rfl (y_e1 (x0 := 0) hO rfl) ?_
            refine Z0 (fun h5_21 => ?_) (fun h5_21 => ?_)
            · refine l_y rfl rfl (y_pick_f rfl rfl) ?_
              refine l_y rfl rfl (y_move rfl) ?_
              repeat refine M2 ?_
              refine l_y rfl rfl (y_pick_t rfl rfl) ?_
              refine l_y rfl rfl (y_assign rfl) ?_
              refine K2 (K3 (L8 (K0 (K1 ?_))))
              refine l_y rfl rfl (y_assign rfl) ?_
              refine K2 (K3 (K6 (L0 (K9 ?_))))
              exact fin1 rfl rfl ⟨_, ⟨by simp [linkL, *], by simp [linkL, *]⟩, hO⟩
            · refine l_y rfl rfl (y_pick_f rfl rfl) ?_
              refine l_y rfl rfl (y_move rfl) ?_
              refine l_y rfl rfl (y_move rfl) ?_
              refine l_y rfl rfl (y_nilCheck rfl rfl) ?_
              refine l_y rfl rfl (y_fldb (o' := 0) rfl) ?_
              refine l_y rfl rfl (D5 hO rfl) ?_
              refine l_y rfl rfl (y_move rfl) ?_
              refine l_y rfl rfl (y_idx rfl rfl) ?_
              refine l_y rfl rfl (y_fld (j' := 0) rfl) ?_
              refine l_y rfl rfl (y_fld (j' := 0) rfl) ?_
              refine l_y rfl rfl (y_e1 (x0 := 0) hO rfl) ?_
              refine Z0 (fun h5_33 => ?_) (fun h5_33 => ?_)
              · refine l_y rfl rfl (y_pick_f rfl rfl) ?_
                refine l_y rfl rfl (y_assign rfl) ?_
                refine K2 (K3 (L8 (K0 (K1 ?_))))
                refine l_y rfl rfl (y_assign rfl) ?_
                refine K2 (K3 (K6 (L0 (K9 ?_))))
                exact fin1 rfl rfl ⟨_, ⟨by simp [linkL, *], by simp [linkL, *]⟩, hO⟩
              · refine l_y rfl rfl (y_pick_f rfl rfl) ?_
                refine l_y rfl rfl (y_assign rfl) ?_
                refine K2 (K3 (L9 (K0 (K1 ?_))))
                refine l_y rfl rfl (y_move rfl) ?_
                refine l_y rfl rfl (y_nilCheck rfl rfl) ?_
                refine l_y rfl rfl (y_fldb (o' := 0) rfl) ?_
                refine l_y rfl rfl (D5 hO rfl) ?_
                refine l_y rfl rfl (y_move rfl) ?_
                refine l_y rfl rfl (y_idx rfl rfl) ?_
                refine l_y rfl rfl (y_fld (j' := 0) rfl) ?_
                refine l_y rfl rfl (y_fld (j' := 6) rfl) ?_
                refine l_y rfl rfl (y_e1 (x0 := 6) hO rfl) ?_
                refine Z1 (fun h7_9 => ?_) (fun h7_9 => ?_)
                · refine l_y rfl rfl (y_move rfl) ?_
                  repeat refine M2 ?_
                  refine l_y rfl rfl (y_pick_t rfl rfl) ?_
                  refine l_y rfl rfl (y_assign rfl) ?_
                  refine K2 (K3 (L8 (K0 (K1 ?_))))
                  refine l_y rfl rfl (y_assign rfl) ?_
                  refine K2 (K3 (K6 (L0 (K9 ?_))))
                  exact fin1 rfl rfl ⟨_, ⟨by simp [linkL, *], by simp [linkL, *]⟩, hO⟩
                · refine l_y rfl rfl (y_move rfl) ?_
                  refine l_y rfl rfl (y_move rfl) ?_
                  refine l_y rfl rfl (y_move rfl) ?_
                  refine l_y rfl rfl (y_move rfl) ?_
                  refine CK [.b a, .p p] hO rfl (fun k' hx hr hO' => Above_spec hn hg hrk (hO := hO')) ?_
                  rintro _ _ w ⟨rfl, rfl⟩ hO
                  simp only [List.cons_append, List.nil_append] at hO
                  refine l_y rfl rfl (y_pick_f rfl rfl) ?_
                  refine l_y rfl rfl (y_assign rfl) ?_
                  refine K2 (K3 ?_)
                  refine c_split rfl (fun hc71 => ?_) (fun hc71 => ?_)
                  · refine K0 (K1 ?_)
                    refine l_y rfl rfl (y_assign rfl) ?_
                    refine K2 (K3 (K6 (L0 (K9 ?_))))
                    exact fin1 rfl rfl ⟨_, ⟨by simp [linkL, *], by simp [linkL, *]⟩, hO⟩
                  · refine K0 (K1 ?_)
                    refine l_y rfl rfl (y_move rfl) ?_
                    refine Z1 (fun h9_1 => ?_) (fun h9_1 => ?_)
                    · first
                      | (exfalso; omega)
                      | skip
                        refine l_y rfl rfl (y_move rfl) ?_
                        refine l_y rfl rfl (y_move rfl) ?_
                        refine l_y rfl rfl (y_nilCheck rfl rfl) ?_
                        refine l_y rfl rfl (y_fldb (o' := 0) rfl) ?_
                        refine l_y rfl rfl (D5 hO rfl) ?_
                        refine l_y rfl rfl (y_move rfl) ?_
                        refine l_y rfl rfl (y_idx rfl rfl) ?_
                        refine l_y rfl rfl (y_fld (j' := 0) rfl) ?_
                        refine l_y rfl rfl (y_fld (j' := 6) rfl) ?_
                        refine l_y rfl rfl (y_e1 (x0 := 6) hO rfl) ?_
                        refine l_y rfl rfl (y_move rfl) ?_
                        refine Z1 (fun h9_13 => ?_) (fun h9_13 => ?_)
                        · refine l_y rfl rfl (y_pick_t rfl rfl) ?_
                          refine l_y rfl rfl (y_assign rfl) ?_
                          refine K2 (K3 (L8 (K0 (K1 ?_))))
                          refine l_y rfl rfl (y_assign rfl) ?_
                          refine K2 (K3 (K6 (L0 (K9 ?_))))
                          exact fin1 rfl rfl ⟨_, ⟨by simp [linkL, *], by simp [linkL, *]⟩, hO⟩
                        · refine l_y rfl rfl (y_pick_t rfl rfl) ?_
                          refine l_y rfl rfl (y_assign rfl) ?_
                          refine K2 (K3 (L9 (K5 (K8 (K3 (K0 (K1 ?_)))))))
                          refine l_y rfl rfl (y_move rfl) ?_
                          refine l_y rfl rfl (y_nilCheck rfl rfl) ?_
                          refine l_y rfl rfl (y_fldb (o' := 0) rfl) ?_
                          refine l_y rfl rfl (D5 hO rfl) ?_
                          refine l_y rfl rfl (y_move rfl) ?_
                          refine l_y rfl rfl (y_idx rfl rfl) ?_
                          refine l_y rfl rfl (y_fld (j' := 0) rfl) ?_
                          refine l_y rfl rfl (y_fld (j' := 8) rfl) ?_
                          refine l_y rfl rfl (y_e1 (x0 := 8) hO rfl) ?_
                          refine l_y rfl rfl (y_assign rfl) ?_
                          refine K2 (K3 (K0 (K0 (K1 ?_))))
                          refine l_y rfl rfl (y_move rfl) ?_
                          refine Z1 (fun h12_1 => ?_) (fun h12_1 => ?_)
                          · first
                            | (exfalso; omega)
                            | skip
                              refine K2 (K3 (L8 (K1 ?_)))
                              refine l_y rfl rfl (y_move rfl) ?_
                              refine l_y rfl rfl (y_nilCheck rfl rfl) ?_
                              refine l_y rfl rfl (y_fldb (o' := 0) rfl) ?_
                              refine l_y rfl rfl (D5 hO rfl) ?_
                              refine l_y rfl rfl (y_move rfl) ?_
                              refine l_y rfl rfl (y_idx rfl rfl) ?_
                              refine l_y rfl rfl (y_fld (j' := 0) rfl) ?_
                              refine l_y rfl rfl (y_fld (j' := 9) rfl) ?_
                              refine l_y rfl rfl (y_e1 (x0 := 9) hO rfl) ?_
                              refine l_y rfl rfl (y_assign rfl) ?_
                              refine K2 (K3 (K0 (K1 ?_)))
                              refine l_y rfl rfl (y_move rfl) ?_
                              refine l_y rfl rfl (y_nilCheck rfl rfl) ?_
                              refine l_y rfl rfl (y_fldb (o' := 0) rfl) ?_
                              refine l_y rfl rfl (D5 hO rfl) ?_
                              refine l_y rfl rfl (y_move rfl) ?_
                              refine l_y rfl rfl (y_idx rfl rfl) ?_
                              refine l_y rfl rfl (y_assign rfl) ?_
                              refine K2 (K3 (K0 (K1 ?_)))
                              refine l_y rfl rfl (y_move rfl) ?_
                              refine l_y rfl rfl (y_move rfl) ?_
                              refine l_y rfl rfl (y_move rfl) ?_
                              refine l_y rfl rfl (y_move rfl) ?_
                              refine l_y rfl rfl (y_move rfl) ?_
                              refine l_y rfl rfl (y_move rfl) ?_
                              refine l_y rfl rfl (y_nilCheck rfl rfl) ?_
                              refine l_y rfl rfl (y_fld (j' := 0) rfl) ?_
                              refine l_y rfl rfl (y_fld (j' := 6) rfl) ?_
                              refine s_e1 (x0 := 6) hO rfl rfl (fun w hO => ?_)
                              refine l_y rfl rfl (y_nilCheck rfl rfl) ?_
                              refine l_y rfl rfl (y_fld (j' := 0) rfl) ?_
                              refine l_y rfl rfl (y_fld (j' := 9) rfl) ?_
                              refine s_e1 (x0 := 9) hO rfl rfl (fun w hO => ?_)
                              simp only [at_set_eq (show id.toNat < A.length by omega), List.set_set] at hO
                              refine l_y rfl rfl (y_nilCheck rfl rfl) ?_
                              refine l_y rfl rfl (y_fld (j' := 0) rfl) ?_
                              refine l_y rfl rfl (y_fld (j' := 10) rfl) ?_
                              refine s_e1 (x0 := 10) hO rfl rfl (fun w hO => ?_)
                              simp only [at_set_eq (show id.toNat < A.length by omega), List.set_set] at hO
                              refine K2 (K3 (K0 ?_))
                              have hO : Own k w [arB a p A.length c, arS p c (setLinks A id up (at_ A (before : Int).toNat).Node.Prev before)] := hO
                              refine K1 ?_
                              refine l_y rfl rfl (y_move rfl) ?_
                              refine l_y rfl rfl (y_move rfl) ?_
                              refine l_y rfl rfl (y_move rfl) ?_
                              refine l_y rfl rfl (y_move rfl) ?_
                              refine CK [.b a, .p p] hO rfl (fun k' hx hr hO' => join_spec hg (by simp only [setLinks, List.length_set, joinL_len]) (by omega) (by omega) (by omega) (hO := hO')) ?_
                              rintro _ _ w ⟨rfl, rfl⟩ hO
                              simp only [List.cons_append, List.nil_append] at hO
                              refine K2 (K3 (K0 (K1 ?_)))
                              refine l_y rfl rfl (y_move rfl) ?_
                              refine l_y rfl rfl (y_move rfl) ?_
                              refine l_y rfl rfl (y_move rfl) ?_
                              refine l_y rfl rfl (y_move rfl) ?_
                              refine CK [.b a, .p p] hO rfl (fun k' hx hr hO' => join_spec hg (by simp only [setLinks, List.length_set, joinL_len]) (by omega) (by omega) (by omega) (hO := hO')) ?_
                              rintro _ _ w ⟨rfl, rfl⟩ hO
                              simp only [List.cons_append, List.nil_append] at hO
                              refine K2 (K3 (K0 (K1 ?_)))
                              refine l_y rfl rfl (y_assign rfl) ?_
                              refine K2 (K3 (K6 ?_))
                              have e : prevL A up before = (at_ A (before : Int).toNat).Node.Prev := by simp only [prevL]; first | rw [if_pos h12_1] | rw [if_neg h12_1]
                              have e2 : linkL A up id before = (0, joinL (joinL (setLinks A id up (prevL A up before) before) up (prevL A up before) id) up id before) := by
                                unfold linkL; rw [if_neg (by simp [*]), if_neg (by simp [*]), if_neg (by simp [*]), if_neg (by simp [*])]
                              exact fin1 rfl rfl ⟨_, ⟨by rw [e2], by rw [e2, e]⟩, hO⟩
                          · first
                            | (exfalso; omega)
                            | skip
                              refine K2 (K3 (L9 (K5 (K3 (K0 (K1 ?_))))))
                              refine l_y rfl rfl (y_move rfl) ?_
                              refine l_y rfl rfl (y_nilCheck rfl rfl) ?_
                              refine l_y rfl rfl (y_fldb (o' := 0) rfl) ?_
                              refine l_y rfl rfl (D5 hO rfl) ?_
                              refine l_y rfl rfl (y_move rfl) ?_
                              refine l_y rfl rfl (y_idx rfl rfl) ?_
                              refine l_y rfl rfl (y_assign rfl) ?_
                              refine K2 (K3 (K0 (K1 ?_)))
                              refine l_y rfl rfl (y_move rfl) ?_
                              refine l_y rfl rfl (y_move rfl) ?_
                              refine l_y rfl rfl (y_move rfl) ?_
                              refine l_y rfl rfl (y_move rfl) ?_
                              refine l_y rfl rfl (y_move rfl) ?_
                              refine l_y rfl rfl (y_move rfl) ?_
                              refine l_y rfl rfl (y_nilCheck rfl rfl) ?_
                              refine l_y rfl rfl (y_fld (j' := 0) rfl) ?_
                              refine l_y rfl rfl (y_fld (j' := 6) rfl) ?_
                              refine s_e1 (x0 := 6) hO rfl rfl (fun w hO => ?_)
                              refine l_y rfl rfl (y_nilCheck rfl rfl) ?_
                              refine l_y rfl rfl (y_fld (j' := 0) rfl) ?_
                              refine l_y rfl rfl (y_fld (j' := 9) rfl) ?_
                              refine s_e1 (x0 := 9) hO rfl rfl (fun w hO => ?_)
                              simp only [at_set_eq (show id.toNat < A.length by omega), List.set_set] at hO
                              refine l_y rfl rfl (y_nilCheck rfl rfl) ?_
                              refine l_y rfl rfl (y_fld (j' := 0) rfl) ?_
                              refine l_y rfl rfl (y_fld (j' := 10) rfl) ?_
                              refine s_e1 (x0 := 10) hO rfl rfl (fun w hO => ?_)
                              simp only [at_set_eq (show id.toNat < A.length by omega), List.set_set] at hO
                              refine K2 (K3 (K0 ?_))
                              have hO : Own k w [arB a p A.length c, arS p c (setLinks A id up (at_ A (up : Int).toNat).Node.Last before)] := hO
                              refine K1 ?_
                              refine l_y rfl rfl (y_move rfl) ?_
                              refine l_y rfl rfl (y_move rfl) ?_
                              refine l_y rfl rfl (y_move rfl) ?_
                              refine l_y rfl rfl (y_move rfl) ?_
                              refine CK [.b a, .p p] hO rfl (fun k' hx hr hO' => join_spec hg (by simp only [setLinks, List.length_set, joinL_len]) (by omega) (by omega) (by omega) (hO := hO')) ?_
                              rintro _ _ w ⟨rfl, rfl⟩ hO
                              simp only [List.cons_append, List.nil_append] at hO
                              refine K2 (K3 (K0 (K1 ?_)))
                              refine l_y rfl rfl (y_move rfl) ?_
                              refine l_y rfl rfl (y_move rfl) ?_
                              refine l_y rfl rfl (y_move rfl) ?_
                              refine l_y rfl rfl (y_move rfl) ?_
                              refine CK [.b a, .p p] hO rfl (fun k' hx hr hO' => join_spec hg (by simp only [setLinks, List.length_set, joinL_len]) (by omega) (by omega) (by omega) (hO := hO')) ?_
                              rintro _ _ w ⟨rfl, rfl⟩ hO
                              simp only [List.cons_append, List.nil_append] at hO
                              refine K2 (K3 (K0 (K1 ?_)))
                              refine l_y rfl rfl (y_assign rfl) ?_
                              refine K2 (K3 (K6 ?_))
                              have e : prevL A up before = (at_ A (up : Int).toNat).Node.Last := by simp only [prevL]; first | rw [if_pos h12_1] | rw [if_neg h12_1]
                              have e2 : linkL A up id before = (0, joinL (joinL (setLinks A id up (prevL A up before) before) up (prevL A up before) id) up id before) := by
                                unfold linkL; rw [if_neg (by simp [*]), if_neg (by simp [*]), if_neg (by simp [*]), if_neg (by simp [*])]
                              exact fin1 rfl rfl ⟨_, ⟨by rw [e2], by rw [e2, e]⟩, hO⟩
                    · first
                      | (exfalso; omega)
                      | skip
                        refine l_y rfl rfl (y_move rfl) ?_
                        repeat refine M2 ?_
                        refine l_y rfl rfl (y_pick_f rfl rfl) ?_
                        refine l_y rfl rfl (y_assign rfl) ?_
                        refine K2 (K3 (L9 (K5 (K8 (K3 (K0 (K1 ?_)))))))
                        refine l_y rfl rfl (y_move rfl) ?_
                        refine l_y rfl rfl (y_nilCheck rfl rfl) ?_
                        refine l_y rfl rfl (y_fldb (o' := 0) rfl) ?_
                        refine l_y rfl rfl (D5 hO rfl) ?_
                        refine l_y rfl rfl (y_move rfl) ?_
                        refine l_y rfl rfl (y_idx rfl rfl) ?_
                        refine l_y rfl rfl (y_fld (j' := 0) rfl) ?_
                        refine l_y rfl rfl (y_fld (j' := 8) rfl) ?_
                        refine l_y rfl rfl (y_e1 (x0 := 8) hO rfl) ?_
                        refine l_y rfl rfl (y_assign rfl) ?_
                        refine K2 (K3 (K0 (K0 (K1 ?_))))
                        refine l_y rfl rfl (y_move rfl) ?_
                        refine Z1 (fun h12_1 => ?_) (fun h12_1 => ?_)
                        · first
                          | (exfalso; omega)
                          | skip
                            refine K2 (K3 (L8 (K1 ?_)))
                            refine l_y rfl rfl (y_move rfl) ?_
                            refine l_y rfl rfl (y_nilCheck rfl rfl) ?_
                            refine l_y rfl rfl (y_fldb (o' := 0) rfl) ?_
                            refine l_y rfl rfl (D5 hO rfl) ?_
                            refine l_y rfl rfl (y_move rfl) ?_
                            refine l_y rfl rfl (y_idx rfl rfl) ?_
                            refine l_y rfl rfl (y_fld (j' := 0) rfl) ?_
                            refine l_y rfl rfl (y_fld (j' := 9) rfl) ?_
                            refine l_y rfl rfl (y_e1 (x0 := 9) hO rfl) ?_
                            refine l_y rfl rfl (y_assign rfl) ?_
                            refine K2 (K3 (K0 (K1 ?_)))
                            refine l_y rfl rfl (y_move rfl) ?_
                            refine l_y rfl rfl (y_nilCheck rfl rfl) ?_
                            refine l_y rfl rfl (y_fldb (o' := 0) rfl) ?_
                            refine l_y rfl rfl (D5 hO rfl) ?_
                            refine l_y rfl rfl (y_move rfl) ?_
                            refine l_y rfl rfl (y_idx rfl rfl) ?_
                            refine l_y rfl rfl (y_assign rfl) ?_
                            refine K2 (K3 (K0 (K1 ?_)))
                            refine l_y rfl rfl (y_move rfl) ?_
                            refine l_y rfl rfl (y_move rfl) ?_
                            refine l_y rfl rfl (y_move rfl) ?_
                            refine l_y rfl rfl (y_move rfl) ?_
                            refine l_y rfl rfl (y_move rfl) ?_
                            refine l_y rfl rfl (y_move rfl) ?_
                            refine l_y rfl rfl (y_nilCheck rfl rfl) ?_
                            refine l_y rfl rfl (y_fld (j' := 0) rfl) ?_
                            refine l_y rfl rfl (y_fld (j' := 6) rfl) ?_
                            refine s_e1 (x0 := 6) hO rfl rfl (fun w hO => ?_)
                            refine l_y rfl rfl (y_nilCheck rfl rfl) ?_
                            refine l_y rfl rfl (y_fld (j' := 0) rfl) ?_
                            refine l_y rfl rfl (y_fld (j' := 9) rfl) ?_
                            refine s_e1 (x0 := 9) hO rfl rfl (fun w hO => ?_)
                            simp only [at_set_eq (show id.toNat < A.length by omega), List.set_set] at hO
                            refine l_y rfl rfl (y_nilCheck rfl rfl) ?_
                            refine l_y rfl rfl (y_fld (j' := 0) rfl) ?_
                            refine l_y rfl rfl (y_fld (j' := 10) rfl) ?_
                            refine s_e1 (x0 := 10) hO rfl rfl (fun w hO => ?_)
                            simp only [at_set_eq (show id.toNat < A.length by omega), List.set_set] at hO
                            refine K2 (K3 (K0 ?_))
                            have hO : Own k w [arB a p A.length c, arS p c (setLinks A id up (at_ A (before : Int).toNat).Node.Prev before)] := hO
                            refine K1 ?_
                            refine l_y rfl rfl (y_move rfl) ?_
                            refine l_y rfl rfl (y_move rfl) ?_
                            refine l_y rfl rfl (y_move rfl) ?_
                            refine l_y rfl rfl (y_move rfl) ?_
                            refine CK [.b a, .p p] hO rfl (fun k' hx hr hO' => join_spec hg (by simp only [setLinks, List.length_set, joinL_len]) (by omega) (by omega) (by omega) (hO := hO')) ?_
                            rintro _ _ w ⟨rfl, rfl⟩ hO
                            simp only [List.cons_append, List.nil_append] at hO
                            refine K2 (K3 (K0 (K1 ?_)))
                            refine l_y rfl rfl (y_move rfl) ?_
                            refine l_y rfl rfl (y_move rfl) ?_
                            refine l_y rfl rfl (y_move rfl) ?_
                            refine l_y rfl rfl (y_move rfl) ?_
                            refine CK [.b a, .p p] hO rfl (fun k' hx hr hO' => join_spec hg (by simp only [setLinks, List.length_set, joinL_len]) (by omega) (by omega) (by omega) (hO := hO')) ?_
                            rintro _ _ w ⟨rfl, rfl⟩ hO
                            simp only [List.cons_append, List.nil_append] at hO
                            refine K2 (K3 (K0 (K1 ?_)))
                            refine l_y rfl rfl (y_assign rfl) ?_
                            refine K2 (K3 (K6 ?_))
                            have e : prevL A up before = (at_ A (before : Int).toNat).Node.Prev := by simp only [prevL]; first | rw [if_pos h12_1] | rw [if_neg h12_1]
                            have e2 : linkL A up id before = (0, joinL (joinL (setLinks A id up (prevL A up before) before) up (prevL A up before) id) up id before) := by
                              unfold linkL; rw [if_neg (by simp [*]), if_neg (by simp [*]), if_neg (by simp [*]), if_neg (by simp [*])]
                            exact fin1 rfl rfl ⟨_, ⟨by rw [e2], by rw [e2, e]⟩, hO⟩
                        · first
                          | (exfalso; omega)
                          | skip
                            refine K2 (K3 (L9 (K5 (K3 (K0 (K1 ?_))))))
                            refine l_y rfl rfl (y_move rfl) ?_
                            refine l_y rfl rfl (y_nilCheck rfl rfl) ?_
                            refine l_y rfl rfl (y_fldb (o' := 0) rfl) ?_
                            refine l_y rfl rfl (D5 hO rfl) ?_
                            refine l_y rfl rfl (y_move rfl) ?_
                            refine l_y rfl rfl (y_idx rfl rfl) ?_
                            refine l_y rfl rfl (y_assign rfl) ?_
                            refine K2 (K3 (K0 (K1 ?_)))
                            refine l_y rfl rfl (y_move rfl) ?_
                            refine l_y rfl rfl (y_move rfl) ?_
                            refine l_y rfl rfl (y_move rfl) ?_
                            refine l_y rfl rfl (y_move rfl) ?_
                            refine l_y rfl rfl (y_move rfl) ?_
                            refine l_y rfl rfl (y_move rfl) ?_
                            refine l_y rfl rfl (y_nilCheck rfl rfl) ?_
                            refine l_y rfl rfl (y_fld (j' := 0) rfl) ?_
                            refine l_y rfl rfl (y_fld (j' := 6) rfl) ?_
                            refine s_e1 (x0 := 6) hO rfl rfl (fun w hO => ?_)
                            refine l_y rfl rfl (y_nilCheck rfl rfl) ?_
                            refine l_y rfl rfl (y_fld (j' := 0) rfl) ?_
                            refine l_y rfl rfl (y_fld (j' := 9) rfl) ?_
                            refine s_e1 (x0 := 9) hO rfl rfl (fun w hO => ?_)
                            simp only [at_set_eq (show id.toNat < A.length by omega), List.set_set] at hO
                            refine l_y rfl rfl (y_nilCheck rfl rfl) ?_
                            refine l_y rfl rfl (y_fld (j' := 0) rfl) ?_
                            refine l_y rfl rfl (y_fld (j' := 10) rfl) ?_
                            refine s_e1 (x0 := 10) hO rfl rfl (fun w hO => ?_)
                            simp only [at_set_eq (show id.toNat < A.length by omega), List.set_set] at hO
                            refine K2 (K3 (K0 ?_))
                            have hO : Own k w [arB a p A.length c, arS p c (setLinks A id up (at_ A (up : Int).toNat).Node.Last before)] := hO
                            refine K1 ?_
                            refine l_y rfl rfl (y_move rfl) ?_
                            refine l_y rfl rfl (y_move rfl) ?_
                            refine l_y rfl rfl (y_move rfl) ?_
                            refine l_y rfl rfl (y_move rfl) ?_
                            refine CK [.b a, .p p] hO rfl (fun k' hx hr hO' => join_spec hg (by simp only [setLinks, List.length_set, joinL_len]) (by omega) (by omega) (by omega) (hO := hO')) ?_
                            rintro _ _ w ⟨rfl, rfl⟩ hO
                            simp only [List.cons_append, List.nil_append] at hO
                            refine K2 (K3 (K0 (K1 ?_)))
                            refine l_y rfl rfl (y_move rfl) ?_
                            refine l_y rfl rfl (y_move rfl) ?_
                            refine l_y rfl rfl (y_move rfl) ?_
                            refine l_y rfl rfl (y_move rfl) ?_
                            refine CK [.b a, .p p] hO rfl (fun k' hx hr hO' => join_spec hg (by simp only [setLinks, List.length_set, joinL_len]) (by omega) (by omega) (by omega) (hO := hO')) ?_
                            rintro _ _ w ⟨rfl, rfl⟩ hO
                            simp only [List.cons_append, List.nil_append] at hO
                            refine K2 (K3 (K0 (K1 ?_)))
                            refine l_y rfl rfl (y_assign rfl) ?_
                            refine K2 (K3 (K6 ?_))
                            have e : prevL A up before = (at_ A (up : Int).toNat).Node.Last := by simp only [prevL]; first | rw [if_pos h12_1] | rw [if_neg h12_1]
                            have e2 : linkL A up id before = (0, joinL (joinL (setLinks A id up (prevL A up before) before) up (prevL A up before) id) up id before) := by
                              unfold linkL; rw [if_neg (by simp [*]), if_neg (by simp [*]), if_neg (by simp [*]), if_neg (by simp [*])]
                            exact fin1 rfl rfl ⟨_, ⟨by rw [e2], by rw [e2, e]⟩, hO⟩
      · refine l_y rfl rfl (y_move rfl) ?_
        repeat refine M2 ?_
        refine l_y rfl rfl (y_pick_f rfl rfl) ?_
        refine l_y rfl rfl (y_pick_f rfl rfl) ?_
        refine l_y rfl rfl (y_assign rfl) ?_
        refine K2 (K3 (L9 (K0 ?_)))
        have hup := hasB_true hg19
        have hid := hasB_true hg25
        try have hbe := hasB_true hc14
        have hq1 : _ ∨ _ := hL.last up hg19
        try have hq2 : _ ∨ _ := hL.prev before hc14
        refine K1 ?_
        refine l_y rfl rfl (y_move rfl) ?_
        refine l_y rfl rfl (y_nilCheck rfl rfl) ?_
        refine l_y rfl rfl (y_fldb (o' := 0) rfl) ?_
        refine l_y rfl rfl (D5 hO rfl) ?_
        refine l_y rfl rfl (y_move rfl) ?_
        refine l_y rfl rfl (y_idx rfl rfl) ?_
        refine l_y rfl rfl (y_fld (j' := 0) rfl) ?_
        refine l_y rfl rfl (y_fld (j' := 0) rfl) ?_
        refine l_y rfl rfl (y_e1 (x0 := 0) hO rfl) ?_
        refine CK [] hO rfl (fun k' hx hr hO' => parent_spec (hO := hO')) ?_
        rintro _ _ w ⟨rfl, rfl⟩ hO
        simp only [List.cons_append, List.nil_append] at hO
        refine l_y rfl rfl (y_not rfl rfl) ?_
        refine l_y rfl rfl (y_move rfl) ?_
        refine l_split 47 rfl (fun hg47 => ?_) (fun hg47 => ?_)
        · simp only [Bool.not_eq_true', Bool.not_eq_false'] at hg47
          repeat refine M2 ?_
          refine l_y rfl rfl (y_pick_t rfl rfl) ?_
          refine l_y rfl rfl (y_move rfl) ?_
          repeat refine M2 ?_
          refine l_y rfl rfl (y_pick_t rfl rfl) ?_
          refine l_y rfl rfl (y_assign rfl) ?_
          refine K2 (K3 (L8 (K0 (K1 ?_))))
          refine l_y rfl rfl (y_assign rfl) ?_
          refine K2 (K3 (K6 (L0 (K9 ?_))))
          exact fin1 rfl rfl ⟨_, ⟨by simp [linkL, *], by simp [linkL, *]⟩, hO⟩
        · simp only [Bool.not_eq_true', Bool.not_eq_false'] at hg47
          refine l_y rfl rfl (y_move rfl) ?_
          refine l_y rfl rfl (y_nilCheck rfl rfl) ?_
          refine l_y rfl rfl (y_fldb (o' := 0) rfl) ?_
          refine l_y rfl rfl (D5 hO rfl) ?_
          refine l_y rfl rfl (y_move rfl) ?_
          refine l_y rfl rfl (y_idx rfl rfl) ?_
          refine l_y rfl rfl (y_fld (j' := 0) rfl) ?_
          refine l_y rfl rfl (y_fld (j' := 0) rfl) ?_
          refine l_y rfl rfl (y_e1 (x0 := 0) hO rfl) ?_
          refine Z0 (fun h5_21 => ?_) (fun h5_21 => ?_)
          · refine l_y rfl rfl (y_pick_f rfl rfl) ?_
            refine l_y rfl rfl (y_move rfl) ?_
            repeat refine M2 ?_
            refine l_y rfl rfl (y_pick_t rfl rfl) ?_
            refine l_y rfl rfl (y_assign rfl) ?_
            refine K2 (K3 (L8 (K0 (K1 ?_))))
            refine l_y rfl rfl (y_assign rfl) ?_
            refine K2 (K3 (K6 (L0 (K9 ?_))))
            exact fin1 rfl rfl ⟨_, ⟨by simp [linkL, *], by simp [linkL, *]⟩, hO⟩
          · refine l_y rfl rfl (y_pick_f rfl rfl) ?_
            refine l_y rfl rfl (y_move rfl) ?_
            refine l_y rfl rfl (y_move rfl) ?_
            refine l_y rfl rfl (y_nilCheck rfl rfl) ?_
            refine l_y rfl rfl (y_fldb (o' := 0) rfl) ?_
            refine l_y rfl rfl (D5 hO rfl) ?_
            refine l_y rfl rfl (y_move rfl) ?_
            refine l_y rfl rfl (y_idx rfl rfl) ?_
            refine l_y rfl rfl (y_fld (j' := 0) rfl) ?_
            refine l_y rfl rfl (y_fld (j' := 0) rfl) ?_
            refine l_y rfl rfl (y_e1 (x0 := 0) hO rfl) ?_
            refine Z0 (fun h5_33 => ?_) (fun h5_33 => ?_)
            · refine l_y rfl rfl (y_pick_f rfl rfl) ?_
              refine l_y rfl rfl (y_assign rfl) ?_
              refine K2 (K3 (L8 (K0 (K1 ?_))))
              refine l_y rfl rfl (y_assign rfl) ?_
              refine K2 (K3 (K6 (L0 (K9 ?_))))
              exact fin1 rfl rfl ⟨_, ⟨by simp [linkL, *], by simp [linkL, *]⟩, hO⟩
            · refine l_y rfl rfl (y_pick_f rfl rfl) ?_
              refine l_y rfl rfl (y_assign rfl) ?_
              refine K2 (K3 (L9 (K0 (K1 ?_))))
              refine l_y rfl rfl (y_move rfl) ?_
              refine l_y rfl rfl (y_nilCheck rfl rfl) ?_
              refine l_y rfl rfl (y_fldb (o' := 0) rfl) ?_
              refine l_y rfl rfl (D5 hO rfl) ?_
              refine l_y rfl rfl (y_move rfl) ?_
              refine l_y rfl rfl (y_idx rfl rfl) ?_
              refine l_y rfl rfl (y_fld (j' := 0) rfl) ?_
              refine l_y rfl rfl (y_fld (j' := 6) rfl) ?_
              refine l_y rfl rfl (y_e1 (x0 := 6) hO rfl) ?_
              refine Z1 (fun h7_9 => ?_) (fun h7_9 => ?_)
              · refine l_y rfl rfl (y_move rfl) ?_
                repeat refine M2 ?_
                refine l_y rfl rfl (y_pick_t rfl rfl) ?_
                refine l_y rfl rfl (y_assign rfl) ?_
                refine K2 (K3 (L8 (K0 (K1 ?_))))
                refine l_y rfl rfl (y_assign rfl) ?_
                refine K2 (K3 (K6 (L0 (K9 ?_))))
                exact fin1 rfl rfl ⟨_, ⟨by simp [linkL, *], by simp [linkL, *]⟩, hO⟩
              · refine l_y rfl rfl (y_move rfl) ?_
                refine l_y rfl rfl (y_move rfl) ?_
                refine l_y rfl rfl (y_move rfl) ?_
                refine l_y rfl rfl (y_move rfl) ?_
                refine CK [.b a, .p p] hO rfl (fun k' hx hr hO' => Above_spec hn hg hrk (hO := hO')) ?_
                rintro _ _ w ⟨rfl, rfl⟩ hO
                simp only [List.cons_append, List.nil_append] at hO
                refine l_y rfl rfl (y_pick_f rfl rfl) ?_
                refine l_y rfl rfl (y_assign rfl) ?_
                refine K2 (K3 ?_)
                refine c_split rfl (fun hc71 => ?_) (fun hc71 => ?_)
                · refine K0 (K1 ?_)
                  refine l_y rfl rfl (y_assign rfl) ?_
                  refine K2 (K3 (K6 (L0 (K9 ?_))))
                  exact fin1 rfl rfl ⟨_, ⟨by simp [linkL, *], by simp [linkL, *]⟩, hO⟩
                · refine K0 (K1 ?_)
                  refine l_y rfl rfl (y_move rfl) ?_
                  refine Z1 (fun h9_1 => ?_) (fun h9_1 => ?_)
                  · first
                    | (exfalso; omega)
                    | skip
                      refine l_y rfl rfl (y_move rfl) ?_
                      refine l_y rfl rfl (y_move rfl) ?_
                      refine l_y rfl rfl (y_nilCheck rfl rfl) ?_
                      refine l_y rfl rfl (y_fldb (o' := 0) rfl) ?_
                      refine l_y rfl rfl (D5 hO rfl) ?_
                      refine l_y rfl rfl (y_move rfl) ?_
                      refine l_y rfl rfl (y_idx rfl rfl) ?_
                      refine l_y rfl rfl (y_fld (j' := 0) rfl) ?_
                      refine l_y rfl rfl (y_fld (j' := 6) rfl) ?_
                      refine l_y rfl rfl (y_e1 (x0 := 6) hO rfl) ?_
                      refine l_y rfl rfl (y_move rfl) ?_
                      refine Z1 (fun h9_13 => ?_) (fun h9_13 => ?_)
                      · refine l_y rfl rfl (y_pick_t rfl rfl) ?_
                        refine l_y rfl rfl (y_assign rfl) ?_
                        refine K2 (K3 (L8 (K0 (K1 ?_))))
                        refine l_y rfl rfl (y_assign rfl) ?_
                        refine K2 (K3 (K6 (L0 (K9 ?_))))
                        exact fin1 rfl rfl ⟨_, ⟨by simp [linkL, *], by simp [linkL, *]⟩, hO⟩
                      · refine l_y rfl rfl (y_pick_t rfl rfl) ?_
                        refine l_y rfl rfl (y_assign rfl) ?_
                        refine K2 (K3 (L9 (K5 (K8 (K3 (K0 (K1 ?_)))))))
                        refine l_y rfl rfl (y_move rfl) ?_
                        refine l_y rfl rfl (y_nilCheck rfl rfl) ?_
                        refine l_y rfl rfl (y_fldb (o' := 0) rfl) ?_
                        refine l_y rfl rfl (D5 hO rfl) ?_
                        refine l_y rfl rfl (y_move rfl) ?_
                        refine l_y rfl rfl (y_idx rfl rfl) ?_
                        refine l_y rfl rfl (y_fld (j' := 0) rfl) ?_
                        refine l_y rfl rfl (y_fld (j' := 8) rfl) ?_
                        refine l_y rfl rfl (y_e1 (x0 := 8) hO rfl) ?_
                        refine l_y rfl rfl (y_assign rfl) ?_
                        refine K2 (K3 (K0 (K0 (K1 ?_))))
                        refine l_y rfl rfl (y_move rfl) ?_
                        refine Z1 (fun h12_1 => ?_) (fun h12_1 => ?_)
                        · first
                          | (exfalso; omega)
                          | skip
                            refine K2 (K3 (L8 (K1 ?_)))
                            refine l_y rfl rfl (y_move rfl) ?_
                            refine l_y rfl rfl (y_nilCheck rfl rfl) ?_
                            refine l_y rfl rfl (y_fldb (o' := 0) rfl) ?_
                            refine l_y rfl rfl (D5 hO rfl) ?_
                            refine l_y rfl rfl (y_move rfl) ?_
                            refine l_y rfl rfl (y_idx rfl rfl) ?_
                            refine l_y rfl rfl (y_fld (j' := 0) rfl) ?_
                            refine l_y rfl rfl (y_fld (j' := 9) rfl) ?_
                            refine l_y rfl rfl (y_e1 (x0 := 9) hO rfl) ?_
                            refine l_y rfl rfl (y_assign rfl) ?_
                            refine K2 (K3 (K0 (K1 ?_)))
                            refine l_y rfl rfl (y_move rfl) ?_
                            refine l_y rfl rfl (y_nilCheck rfl rfl) ?_
                            refine l_y rfl rfl (y_fldb (o' := 0) rfl) ?_
                            refine l_y rfl rfl (D5 hO rfl) ?_
                            refine l_y rfl rfl (y_move rfl) ?_
                            refine l_y rfl rfl (y_idx rfl rfl) ?_
                            refine l_y rfl rfl (y_assign rfl) ?_
                            refine K2 (K3 (K0 (K1 ?_)))
                            refine l_y rfl rfl (y_move rfl) ?_
                            refine l_y rfl rfl (y_move rfl) ?_
                            refine l_y rfl rfl (y_move rfl) ?_
                            refine l_y rfl rfl (y_move rfl) ?_
                            refine l_y rfl rfl (y_move rfl) ?_
                            refine l_y rfl rfl (y_move rfl) ?_
                            refine l_y rfl rfl (y_nilCheck rfl rfl) ?_
                            refine l_y rfl rfl (y_fld (j' := 0) rfl) ?_
                            refine l_y rfl rfl (y_fld (j' := 6) rfl) ?_
                            refine s_e1 (x0 := 6) hO rfl rfl (fun w hO => ?_)
                            refine l_y rfl rfl (y_nilCheck rfl rfl) ?_
                            refine l_y rfl rfl (y_fld (j' := 0) rfl) ?_
                            refine l_y rfl rfl (y_fld (j' := 9) rfl) ?_
                            refine s_e1 (x0 := 9) hO rfl rfl (fun w hO => ?_)
                            simp only [at_set_eq (show id.toNat < A.length by omega), List.set_set] at hO
                            refine l_y rfl rfl (y_nilCheck rfl rfl) ?_
                            refine l_y rfl rfl (y_fld (j' := 0) rfl) ?_
                            refine l_y rfl rfl (y_fld (j' := 10) rfl) ?_
                            refine s_e1 (x0 := 10) hO rfl rfl (fun w hO => ?_)
                            simp only [at_set_eq (show id.toNat < A.length by omega), List.set_set] at hO
                            refine K2 (K3 (K0 ?_))
                            have hO : Own k w [arB a p A.length c, arS p c (setLinks A id up (at_ A (before : Int).toNat).Node.Prev before)] := hO
                            refine K1 ?_
                            refine l_y rfl rfl (y_move rfl) ?_
                            refine l_y rfl rfl (y_move rfl) ?_
                            refine l_y rfl rfl (y_move rfl) ?_
                            refine l_y rfl rfl (y_move rfl) ?_
                            refine CK [.b a, .p p] hO rfl (fun k' hx hr hO' => join_spec hg (by simp only [setLinks, List.length_set, joinL_len]) (by omega) (by omega) (by omega) (hO := hO')) ?_
                            rintro _ _ w ⟨rfl, rfl⟩ hO
                            simp only [List.cons_append, List.nil_append] at hO
                            refine K2 (K3 (K0 (K1 ?_)))
                            refine l_y rfl rfl (y_move rfl) ?_
                            refine l_y rfl rfl (y_move rfl) ?_
                            refine l_y rfl rfl (y_move rfl) ?_
                            refine l_y rfl rfl (y_move rfl) ?_
                            refine CK [.b a, .p p] hO rfl (fun k' hx hr hO' => join_spec hg (by simp only [setLinks, List.length_set, joinL_len]) (by omega) (by omega) (by omega) (hO := hO')) ?_
                            rintro _ _ w ⟨rfl, rfl⟩ hO
                            simp only [List.cons_append, List.nil_append] at hO
                            refine K2 (K3 (K0 (K1 ?_)))
                            refine l_y rfl rfl (y_assign rfl) ?_
                            refine K2 (K3 (K6 ?_))
                            have e : prevL A up before = (at_ A (before : Int).toNat).Node.Prev := by simp only [prevL]; first | rw [if_pos h12_1] | rw [if_neg h12_1]
                            have e2 : linkL A up id before = (0, joinL (joinL (setLinks A id up (prevL A up before) before) up (prevL A up before) id) up id before) := by
                              unfold linkL; rw [if_neg (by simp [*]), if_neg (by simp [*]), if_neg (by simp [*]), if_neg (by simp [*])]
                            exact fin1 rfl rfl ⟨_, ⟨by rw [e2], by rw [e2, e]⟩, hO⟩
                        · first
                          | (exfalso; omega)
                          | skip
                            refine K2 (K3 (L9 (K5 (K3 (K0 (K1 ?_))))))
                            refine l_y rfl rfl (y_move rfl) ?_
                            refine l_y rfl rfl (y_nilCheck rfl rfl) ?_
                            refine l_y rfl rfl (y_fldb (o' := 0) rfl) ?_
                            refine l_y rfl rfl (D5 hO rfl) ?_
                            refine l_y rfl rfl (y_move rfl) ?_
                            refine l_y rfl rfl (y_idx rfl rfl) ?_
                            refine l_y rfl rfl (y_assign rfl) ?_
                            refine K2 (K3 (K0 (K1 ?_)))
                            refine l_y rfl rfl (y_move rfl) ?_
                            refine l_y rfl rfl (y_move rfl) ?_
                            refine l_y rfl rfl (y_move rfl) ?_
                            refine l_y rfl rfl (y_move rfl) ?_
                            refine l_y rfl rfl (y_move rfl) ?_
                            refine l_y rfl rfl (y_move rfl) ?_
                            refine l_y rfl rfl (y_nilCheck rfl rfl) ?_
                            refine l_y rfl rfl (y_fld (j' := 0) rfl) ?_
                            refine l_y rfl rfl (y_fld (j' := 6) rfl) ?_
                            refine s_e1 (x0 := 6) hO rfl rfl (fun w hO => ?_)
                            refine l_y rfl rfl (y_nilCheck rfl rfl) ?_
                            refine l_y rfl rfl (y_fld (j' := 0) rfl) ?_
                            refine l_y rfl rfl (y_fld (j' := 9) rfl) ?_
                            refine s_e1 (x0 := 9) hO rfl rfl (fun w hO => ?_)
                            simp only [at_set_eq (show id.toNat < A.length by omega), List.set_set] at hO
                            refine l_y rfl rfl (y_nilCheck rfl rfl) ?_
                            refine l_y rfl rfl (y_fld (j' := 0) rfl) ?_
                            refine l_y rfl rfl (y_fld (j' := 10) rfl) ?_
                            refine s_e1 (x0 := 10) hO rfl rfl (fun w hO => ?_)
                            simp only [at_set_eq (show id.toNat < A.length by omega), List.set_set] at hO
                            refine K2 (K3 (K0 ?_))
                            have hO : Own k w [arB a p A.length c, arS p c (setLinks A id up (at_ A (up : Int).toNat).Node.Last before)] := hO
                            refine K1 ?_
                            refine l_y rfl rfl (y_move rfl) ?_
                            refine l_y rfl rfl (y_move rfl) ?_
                            refine l_y rfl rfl (y_move rfl) ?_
                            refine l_y rfl rfl (y_move rfl) ?_
                            refine CK [.b a, .p p] hO rfl (fun k' hx hr hO' => join_spec hg (by simp only [setLinks, List.length_set, joinL_len]) (by omega) (by omega) (by omega) (hO := hO')) ?_
                            rintro _ _ w ⟨rfl, rfl⟩ hO
                            simp only [List.cons_append, List.nil_append] at hO
                            refine K2 (K3 (K0 (K1 ?_)))
                            refine l_y rfl rfl (y_move rfl) ?_
                            refine l_y rfl rfl (y_move rfl) ?_
                            refine l_y rfl rfl (y_move rfl) ?_
                            refine l_y rfl rfl (y_move rfl) ?_
                            refine CK [.b a, .p p] hO rfl (fun k' hx hr hO' => join_spec hg (by simp only [setLinks, List.length_set, joinL_len]) (by omega) (by omega) (by omega) (hO := hO')) ?_
                            rintro _ _ w ⟨rfl, rfl⟩ hO
                            simp only [List.cons_append, List.nil_append] at hO
                            refine K2 (K3 (K0 (K1 ?_)))
                            refine l_y rfl rfl (y_assign rfl) ?_
                            refine K2 (K3 (K6 ?_))
                            have e : prevL A up before = (at_ A (up : Int).toNat).Node.Last := by simp only [prevL]; first | rw [if_pos h12_1] | rw [if_neg h12_1]
                            have e2 : linkL A up id before = (0, joinL (joinL (setLinks A id up (prevL A up before) before) up (prevL A up before) id) up id before) := by
                              unfold linkL; rw [if_neg (by simp [*]), if_neg (by simp [*]), if_neg (by simp [*]), if_neg (by simp [*])]
                            exact fin1 rfl rfl ⟨_, ⟨by rw [e2], by rw [e2, e]⟩, hO⟩
                  · first
                    | (exfalso; omega)
                    | skip
                      refine l_y rfl rfl (y_move rfl) ?_
                      repeat refine M2 ?_
                      refine l_y rfl rfl (y_pick_f rfl rfl) ?_
                      refine l_y rfl rfl (y_assign rfl) ?_
                      refine K2 (K3 (L9 (K5 (K8 (K3 (K0 (K1 ?_)))))))
                      refine l_y rfl rfl (y_move rfl) ?_
                      refine l_y rfl rfl (y_nilCheck rfl rfl) ?_
                      refine l_y rfl rfl (y_fldb (o' := 0) rfl) ?_
                      refine l_y rfl rfl (D5 hO rfl) ?_
                      refine l_y rfl rfl (y_move rfl) ?_
                      refine l_y rfl rfl (y_idx rfl rfl) ?_
                      refine l_y rfl rfl (y_fld (j' := 0) rfl) ?_
                      refine l_y rfl rfl (y_fld (j' := 8) rfl) ?_
                      refine l_y rfl rfl (y_e1 (x0 := 8) hO rfl) ?_
                      refine l_y rfl rfl (y_assign rfl) ?_
                      refine K2 (K3 (K0 (K0 (K1 ?_))))
                      refine l_y rfl rfl (y_move rfl) ?_
                      refine Z1 (fun h12_1 => ?_) (fun h12_1 => ?_)
                      · first
                        | (exfalso; omega)
                        | skip
                          refine K2 (K3 (L8 (K1 ?_)))
                          refine l_y rfl rfl (y_move rfl) ?_
                          refine l_y rfl rfl (y_nilCheck rfl rfl) ?_
                          refine l_y rfl rfl (y_fldb (o' := 0) rfl) ?_
                          refine l_y rfl rfl (D5 hO rfl) ?_
                          refine l_y rfl rfl (y_move rfl) ?_
                          refine l_y rfl rfl (y_idx rfl rfl) ?_
                          refine l_y rfl rfl (y_fld (j' := 0) rfl) ?_
                          refine l_y rfl rfl (y_fld (j' := 9) rfl) ?_
                          refine l_y rfl rfl (y_e1 (x0 := 9) hO rfl) ?_
                          refine l_y rfl rfl (y_assign rfl) ?_
                          refine K2 (K3 (K0 (K1 ?_)))
                          refine l_y rfl rfl (y_move rfl) ?_
                          refine l_y rfl rfl (y_nilCheck rfl rfl) ?_
                          refine l_y rfl rfl (y_fldb (o' := 0) rfl) ?_
                          refine l_y rfl rfl (D5 hO rfl) ?_
                          refine l_y rfl rfl (y_move rfl) ?_
                          refine l_y rfl rfl (y_idx rfl rfl) ?_
                          refine l_y rfl rfl (y_assign rfl) ?_
                          refine K2 (K3 (K0 (K1 ?_)))
                          refine l_y rfl rfl (y_move rfl) ?_
                          refine l_y rfl rfl (y_move rfl) ?_
                          refine l_y rfl rfl (y_move rfl) ?_
                          refine l_y rfl rfl (y_move rfl) ?_
                          refine l_y rfl rfl (y_move rfl) ?_
                          refine l_y rfl rfl (y_move rfl) ?_
                          refine l_y rfl rfl (y_nilCheck rfl rfl) ?_
                          refine l_y rfl rfl (y_fld (j' := 0) rfl) ?_
                          refine l_y rfl rfl (y_fld (j' := 6) rfl) ?_
                          refine s_e1 (x0 := 6) hO rfl rfl (fun w hO => ?_)
                          refine l_y rfl rfl (y_nilCheck rfl rfl) ?_
                          refine l_y rfl rfl (y_fld (j' := 0) rfl) ?_
                          refine l_y rfl rfl (y_fld (j' := 9) rfl) ?_
                          refine s_e1 (x0 := 9) hO rfl rfl (fun w hO => ?_)
                          simp only [at_set_eq (show id.toNat < A.length by omega), List.set_set] at hO
                          refine l_y rfl rfl (y_nilCheck rfl rfl) ?_
                          refine l_y rfl rfl (y_fld (j' := 0) rfl) ?_
                          refine l_y rfl rfl (y_fld (j' := 10) rfl) ?_
                          refine s_e1 (x0 := 10) hO rfl rfl (fun w hO => ?_)
                          simp only [at_set_eq (show id.toNat < A.length by omega), List.set_set] at hO
                          refine K2 (K3 (K0 ?_))
                          have hO : Own k w [arB a p A.length c, arS p c (setLinks A id up (at_ A (before : Int).toNat).Node.Prev before)] := hO
                          refine K1 ?_
                          refine l_y rfl rfl (y_move rfl) ?_
                          refine l_y rfl rfl (y_move rfl) ?_
                          refine l_y rfl rfl (y_move rfl) ?_
                          refine l_y rfl rfl (y_move rfl) ?_
                          refine CK [.b a, .p p] hO rfl (fun k' hx hr hO' => join_spec hg (by simp only [setLinks, List.length_set, joinL_len]) (by omega) (by omega) (by omega) (hO := hO')) ?_
                          rintro _ _ w ⟨rfl, rfl⟩ hO
                          simp only [List.cons_append, List.nil_append] at hO
                          refine K2 (K3 (K0 (K1 ?_)))
                          refine l_y rfl rfl (y_move rfl) ?_
                          refine l_y rfl rfl (y_move rfl) ?_
                          refine l_y rfl rfl (y_move rfl) ?_
                          refine l_y rfl rfl (y_move rfl) ?_
                          refine CK [.b a, .p p] hO rfl (fun k' hx hr hO' => join_spec hg (by simp only [setLinks, List.length_set, joinL_len]) (by omega) (by omega) (by omega) (hO := hO')) ?_
                          rintro _ _ w ⟨rfl, rfl⟩ hO
                          simp only [List.cons_append, List.nil_append] at hO
                          refine K2 (K3 (K0 (K1 ?_)))
                          refine l_y rfl rfl (y_assign rfl) ?_
                          refine K2 (K3 (K6 ?_))
                          have e : prevL A up before = (at_ A (before : Int).toNat).Node.Prev := by simp only [prevL]; first | rw [if_pos h12_1] | rw [if_neg h12_1]
                          have e2 : linkL A up id before = (0, joinL (joinL (setLinks A id up (prevL A up before) before) up (prevL A up before) id) up id before) := by
                            unfold linkL; rw [if_neg (by simp [*]), if_neg (by simp [*]), if_neg (by simp [*]), if_neg (by simp [*])]
                          exact fin1 rfl rfl ⟨_, ⟨by rw [e2], by rw [e2, e]⟩, hO⟩
                      · first
                        | (exfalso; omega)
                        | skip
                          refine K2 (K3 (L9 (K5 (K3 (K0 (K1 ?_))))))
                          refine l_y rfl rfl (y_move rfl) ?_
                          refine l_y rfl rfl (y_nilCheck rfl rfl) ?_
                          refine l_y rfl rfl (y_fldb (o' := 0) rfl) ?_
                          refine l_y rfl rfl (D5 hO rfl) ?_
                          refine l_y rfl rfl (y_move rfl) ?_
                          refine l_y rfl rfl (y_idx rfl rfl) ?_
                          refine l_y rfl rfl (y_assign rfl) ?_
                          refine K2 (K3 (K0 (K1 ?_)))
                          refine l_y rfl rfl (y_move rfl) ?_
                          refine l_y rfl rfl (y_move rfl) ?_
                          refine l_y rfl rfl (y_move rfl) ?_
                          refine l_y rfl rfl (y_move rfl) ?_
                          refine l_y rfl rfl (y_move rfl) ?_
                          refine l_y rfl rfl (y_move rfl) ?_
                          refine l_y rfl rfl (y_nilCheck rfl rfl) ?_
                          refine l_y rfl rfl (y_fld (j' := 0) rfl) ?_
                          refine l_y rfl rfl (y_fld (j' := 6) rfl) ?_
                          refine s_e1 (x0 := 6) hO rfl rfl (fun w hO => ?_)
                          refine l_y rfl rfl (y_nilCheck rfl rfl) ?_
                          refine l_y rfl rfl (y_fld (j' := 0) rfl) ?_
                          refine l_y rfl rfl (y_fld (j' := 9) rfl) ?_
                          refine s_e1 (x0 := 9) hO rfl rfl (fun w hO => ?_)
                          simp only [at_set_eq (show id.toNat < A.length by omega), List.set_set] at hO
                          refine l_y rfl rfl (y_nilCheck rfl rfl) ?_
                          refine l_y rfl rfl (y_fld (j' := 0) rfl) ?_
                          refine l_y rfl rfl (y_fld (j' := 10) rfl) ?_
                          refine s_e1 (x0 := 10) hO rfl rfl (fun w hO => ?_)
                          simp only [at_set_eq (show id.toNat < A.length by omega), List.set_set] at hO
                          refine K2 (K3 (K0 ?_))
                          have hO : Own k w [arB a p A.length c, arS p c (setLinks A id up (at_ A (up : Int).toNat).Node.Last before)] := hO
                          refine K1 ?_
                          refine l_y rfl rfl (y_move rfl) ?_
                          refine l_y rfl rfl (y_move rfl) ?_
                          refine l_y rfl rfl (y_move rfl) ?_
                          refine l_y rfl rfl (y_move rfl) ?_
                          refine CK [.b a, .p p] hO rfl (fun k' hx hr hO' => join_spec hg (by simp only [setLinks, List.length_set, joinL_len]) (by omega) (by omega) (by omega) (hO := hO')) ?_
                          rintro _ _ w ⟨rfl, rfl⟩ hO
                          simp only [List.cons_append, List.nil_append] at hO
                          refine K2 (K3 (K0 (K1 ?_)))
                          refine l_y rfl rfl (y_move rfl) ?_
                          refine l_y rfl rfl (y_move rfl) ?_
                          refine l_y rfl rfl (y_move rfl) ?_
                          refine l_y rfl rfl (y_move rfl) ?_
                          refine CK [.b a, .p p] hO rfl (fun k' hx hr hO' => join_spec hg (by simp only [setLinks, List.length_set, joinL_len]) (by omega) (by omega) (by omega) (hO := hO')) ?_
                          rintro _ _ w ⟨rfl, rfl⟩ hO
                          simp only [List.cons_append, List.nil_append] at hO
                          refine K2 (K3 (K0 (K1 ?_)))
                          refine l_y rfl rfl (y_assign rfl) ?_
                          refine K2 (K3 (K6 ?_))
                          have e : prevL A up before = (at_ A (up : Int).toNat).Node.Last := by simp only [prevL]; first | rw [if_pos h12_1] | rw [if_neg h12_1]
                          have e2 : linkL A up id before = (0, joinL (joinL (setLinks A id up (prevL A up before) before) up (prevL A up before) id) up id before) := by
                            unfold linkL; rw [if_neg (by simp [*]), if_neg (by simp [*]), if_neg (by simp [*]), if_neg (by simp [*])]
                          exact fin1 rfl rfl ⟨_, ⟨by rw [e2], by rw [e2, e]⟩, hO⟩
def unlinkL (A : List Node_one) (id : Int) : Int × List Node_one :=
  if hasB A id = false then (6, A)
  else if (at_ A id.toNat).Node.Parent = -1 then (5, A)
  else (0, setLinks (joinL A (at_ A id.toNat).Node.Parent (at_ A id.toNat).Node.Prev (at_ A id.toNat).Node.Next) id (-1) (-1) (-1))
set_option maxHeartbeats 2000000 in
theorem Unlink_spec {k : Ctx} {w : World} {a : Nat} {A : List Node_one} {p : Option Addr} {c : Nat} {id : Int} (hn : 0 < A.length) (hg : Gs p A.length) (hL : LinksOk A) (hO : Own k w [arB a p A.length c, arS p c A]) :
    Tri Tryz.prog 192 #[.pointer (some ⟨a, 0, none⟩), .int .i64 id] k w fun v m => v = .int .i64 (unlinkL A id).1 ∧ m = [arB a p A.length c, arS p c (unlinkL A id).2] := by
  refine enter (args := [.pointer (some ⟨a, 0, none⟩), .int .i64 id]) Tryz.func192 rfl rfl ?_
  refine K0 (K1 ?_)
  refine l_y rfl rfl (y_assign rfl) ?_
  refine K2 (K3 (K0 (K4 (K0 (K1 ?_)))))
  refine l_y rfl rfl (y_move rfl) ?_
  refine CK [.b a, .p p] hO rfl (fun k' hx hr hO' => none_spec (hO := hO')) ?_
  rintro _ _ w ⟨rfl, rfl⟩ hO
  simp only [List.cons_append, List.nil_append] at hO
  refine l_y rfl rfl (y_assign rfl) ?_
  refine K2 (K3 (L9 (K0 (K1 ?_))))
  refine l_y rfl rfl (y_move rfl) ?_
  refine l_y rfl rfl (y_move rfl) ?_
  refine CK [.b a, .p p] hO rfl (fun k' hx hr hO' => has_spec (hO := hO')) ?_
  rintro _ _ w ⟨rfl, rfl⟩ hO
  simp only [List.cons_append, List.nil_append] at hO
  refine l_y rfl rfl (y_not rfl rfl) ?_
  refine l_y rfl rfl (y_assign rfl) ?_
  refine K2 (K3 ?_)
  refine c_split rfl (fun hc9 => ?_) (fun hc9 => ?_)
  · simp only [Bool.not_eq_true', Bool.not_eq_false'] at hc9
    refine K0 (K1 ?_)
    refine l_y rfl rfl (y_assign rfl) ?_
    refine K2 (K3 (K6 (L0 (K9 ?_))))
    exact fin1 rfl rfl ⟨_, ⟨by simp [unlinkL, hc9], by simp [unlinkL, hc9]⟩, hO⟩
  · simp only [Bool.not_eq_true', Bool.not_eq_false'] at hc9
    refine K5 (K8 (K3 (K0 ?_)))
    have hid := hasB_true hc9
    have hq1 : _ ∨ _ := hL.parent id hc9
    have hq2 : _ ∨ _ := hL.prev id hc9
    have hq3 : _ ∨ _ := hL.next id hc9
    refine K1 ?_
    refine l_y rfl rfl (y_move rfl) ?_
    refine l_y rfl rfl (y_nilCheck rfl rfl) ?_
    refine l_y rfl rfl (y_fldb (o' := 0) rfl) ?_
    refine l_y rfl rfl (D5 hO rfl) ?_
    refine l_y rfl rfl (y_move rfl) ?_
    refine l_y rfl rfl (y_idx rfl rfl) ?_
    refine l_y rfl rfl (y_assign rfl) ?_
    refine K2 (K3 (K0 (K0 (K1 ?_))))
    refine l_y rfl rfl (y_move rfl) ?_
    refine l_y rfl rfl (y_nilCheck rfl rfl) ?_
    refine l_y rfl rfl (y_fld (j' := 0) rfl) ?_
    refine l_y rfl rfl (y_fld (j' := 6) rfl) ?_
    refine l_y rfl rfl (y_e1 (x0 := 6) hO rfl) ?_
    refine Z0 (fun h6_5 => ?_) (fun h6_5 => ?_)
    · refine K2 (K3 (L8 (K0 (K1 ?_))))
      refine l_y rfl rfl (y_assign rfl) ?_
      refine K2 (K3 (K6 (K9 ?_)))
      exact fin1 rfl rfl ⟨_, ⟨by simp [unlinkL, hc9, h6_5], by simp [unlinkL, hc9, h6_5]⟩, hO⟩
    · refine K2 (K3 (L9 (K5 (K3 (K0 ?_)))))
      refine da_region (by intro c a d v w h; cases d <;> exact h) ?_
      have hO := hO.drew
      refine da_phase _ [16] (SO.ks [.p p] hO) ?_
      refine dx_u 0 (by kernel_rfl) rfl rfl rfl (fun w => y_move rfl) ?_
      refine dx_u 1 (by kernel_rfl) rfl rfl rfl (fun w => y_move rfl) ?_
      refine dx_u 2 (by kernel_rfl) rfl rfl rfl (fun w => y_nilCheck rfl rfl) ?_
      refine dx_u 3 (by kernel_rfl) rfl rfl rfl (fun w => y_fld (j' := 0) rfl) ?_
      refine dx_u 4 (by kernel_rfl) rfl rfl rfl (fun w => y_fld (j' := 6) rfl) ?_
      refine dx_y 5 (by kernel_rfl) rfl rfl rfl (fun w ⟨m, hw⟩ => y_e1 (x0 := 6) hw rfl) ?_
      refine dx_u 6 (by kernel_rfl) rfl rfl rfl (fun w => y_move rfl) ?_
      refine dx_u 7 (by kernel_rfl) rfl rfl rfl (fun w => y_nilCheck rfl rfl) ?_
      refine dx_u 8 (by kernel_rfl) rfl rfl rfl (fun w => y_fld (j' := 0) rfl) ?_
      refine dx_u 9 (by kernel_rfl) rfl rfl rfl (fun w => y_fld (j' := 9) rfl) ?_
      refine dx_y 10 (by kernel_rfl) rfl rfl rfl (fun w ⟨m, hw⟩ => y_e1 (x0 := 9) hw rfl) ?_
      refine dx_u 11 (by kernel_rfl) rfl rfl rfl (fun w => y_move rfl) ?_
      refine dx_u 12 (by kernel_rfl) rfl rfl rfl (fun w => y_nilCheck rfl rfl) ?_
      refine dx_u 13 (by kernel_rfl) rfl rfl rfl (fun w => y_fld (j' := 0) rfl) ?_
      refine dx_u 14 (by kernel_rfl) rfl rfl rfl (fun w => y_fld (j' := 10) rfl) ?_
      refine dx_y 15 (by kernel_rfl) rfl rfl rfl (fun w ⟨m, hw⟩ => y_e1 (x0 := 10) hw rfl) ?_
      refine dx_close 16 (by kernel_rfl) rfl rfl ?_
      refine CK [.b a, .p p] hO rfl (fun k' hx hr hO' => join_spec hg (by simp only [setLinks, List.length_set, joinL_len]) (by omega) (by omega) (by omega) (hO := hO')) ?_
      rintro _ _ w ⟨rfl, rfl⟩ hO
      simp only [List.cons_append, List.nil_append] at hO
      refine o_done ?_
      refine da_end (by kernel_rfl) ?_
      refine K3 (K0 ?_)
      have hgj : Gs p (joinL A (at_ A id.toNat).Node.Parent (at_ A id.toNat).Node.Prev (at_ A id.toNat).Node.Next).length := by rw [joinL_len]; exact hg
      have hlj : id.toNat < (joinL A (at_ A id.toNat).Node.Parent (at_ A id.toNat).Node.Prev (at_ A id.toNat).Node.Next).length := by rw [joinL_len]; omega
      refine K1 ?_
      refine l_y rfl rfl (y_move rfl) ?_
      refine l_y rfl rfl (y_move rfl) ?_
      refine l_y rfl rfl (y_move rfl) ?_
      refine l_y rfl rfl (y_nilCheck rfl rfl) ?_
      refine l_y rfl rfl (y_fld (j' := 0) rfl) ?_
      refine l_y rfl rfl (y_fld (j' := 6) rfl) ?_
      refine s_e1 (x0 := 6) hO rfl rfl (fun w hO => ?_)
      refine l_y rfl rfl (y_nilCheck rfl rfl) ?_
      refine l_y rfl rfl (y_fld (j' := 0) rfl) ?_
      refine l_y rfl rfl (y_fld (j' := 9) rfl) ?_
      refine s_e1 (x0 := 9) hO rfl rfl (fun w hO => ?_)
      simp only [at_set_eq hlj, List.set_set] at hO
      refine l_y rfl rfl (y_nilCheck rfl rfl) ?_
      refine l_y rfl rfl (y_fld (j' := 0) rfl) ?_
      refine l_y rfl rfl (y_fld (j' := 10) rfl) ?_
      refine s_e1 (x0 := 10) hO rfl rfl (fun w hO => ?_)
      simp only [at_set_eq hlj, List.set_set] at hO
      refine K2 (K3 (K0 (K1 ?_)))
      refine l_y rfl rfl (y_assign rfl) ?_
      refine K2 (K3 (K6 ?_))
      have e2 : unlinkL A id = (0, setLinks (joinL A (at_ A id.toNat).Node.Parent (at_ A id.toNat).Node.Prev (at_ A id.toNat).Node.Next) id (-1) (-1) (-1)) := by
        unfold unlinkL; rw [if_neg (by simp [*]), if_neg h6_5]
      exact fin1 rfl rfl ⟨_, ⟨by rw [e2], by rw [e2]; rfl⟩, hO⟩
end Go.Proofs.YtpejdlfkaaiehaaGreatDoor
end
section
set_option linter.unusedVariables false
set_option linter.unusedSimpArgs false
set_option maxRecDepth 100000
namespace Go.Proofs.YtpejdlfkaaiehaaGreatDoor
open Go Go.Hb Go.RowKit
theorem Len_spec {k : Ctx} {w : World} {a : Nat} {A : List Node_one} {p : Option Addr} {c : Nat} (hn : 0 < A.length) (hO : Own k w [arB a p A.length c, arS p c A]) :
    Tri Tryz.prog 21 #[.pointer (some ⟨a, 0, none⟩)] k w fun v m => v = .int .i64 (A.length : Int) ∧ m = [arB a p A.length c, arS p c A] := by
  refine enter (args := [.pointer (some ⟨a, 0, none⟩)]) Tryz.func21 rfl rfl ?_
  refine K0 (K1 ?_)
  refine l_y rfl rfl (y_assign rfl) ?_
  refine K2 (K3 (K0 (K0 (K1 ?_))))
  refine l_y rfl rfl (y_move rfl) ?_
  refine CK [.b a, .p p] hO rfl (fun k' hx hr hO' => none_spec (hO := hO')) ?_
  rintro _ _ w ⟨rfl, rfl⟩ hO
  simp only [List.cons_append, List.nil_append] at hO
  refine K2 (K3 (L9 (K5 (K3 (K0 (K1 ?_))))))
  refine l_y rfl rfl (y_move rfl) ?_
  refine l_y rfl rfl (y_nilCheck rfl rfl) ?_
  refine l_y rfl rfl (y_fldb (o' := 0) rfl) ?_
  refine l_y rfl rfl (D5 hO rfl) ?_
  refine l_y rfl rfl (y_lenL rfl) ?_
  refine l_y rfl rfl (y_assign rfl) ?_
  refine K2 (K3 (K6 ?_))
  exact fin1 rfl rfl ⟨_, ⟨rfl, rfl⟩, hO⟩
def AttrsOk (A : List Node_one) : Prop := ∀ i, i < A.length → (at_ A i).Node.Attrs.length ≤ 1024
end Go.Proofs.YtpejdlfkaaiehaaGreatDoor
end
section
set_option linter.unusedVariables false
set_option linter.unusedSimpArgs false
set_option maxRecDepth 100000
namespace Go.Proofs.YtpejdlfkaaiehaaGreatDoor
open Go Go.Hb Go.RowKit
instance (priority := high) AtK.ho (a : Nat) (A : List Node_one) (l : List HP) : AtK (arenaL a A :: l) (.o a) (arenaL a A) l := ⟨.hd _ l⟩
def textN (s : ByteArray) : Api_node := ⟨2, 0, ⟨#[]⟩, none, [], 0, s, ⟨#[]⟩, 0, 0, 0, 0, 0, 0⟩
def fragmentN : Api_node := ⟨5, 0, ⟨#[]⟩, none, [], 0, ⟨#[]⟩, ⟨#[]⟩, 0, 0, 0, 0, 0, 0⟩
def documentN : Api_node := ⟨0, 0, ⟨#[]⟩, none, [], 0, ⟨#[]⟩, ⟨#[]⟩, 0, 0, 0, 0, 0, 0⟩
def elementN (q : Option Addr) (d : Nat) (sp : Int) (nm : ByteArray) (xs : List Api_attr) : Api_node := ⟨1, sp, nm, q, xs, d, ⟨#[]⟩, ⟨#[]⟩, 0, 0, 0, 0, 0, 0⟩
theorem nil_attrs {k : Ctx} {w : World} {l : List HP} (hO : Own k w l) : Own k w (sls none 0 81 4 Api_attr.cells ([] : List Api_attr) :: l) := sl_nil _ _ hO
theorem Text_spec {k : Ctx} {w : World} {a : Nat} {A : List Node_one} {s : ByteArray} (hn : 0 < A.length) (hc : A.length ≤ 32768) (hO : Own k w [arenaL a A]) :
    Tri Tryz.prog 13 #[.pointer (some ⟨a, 0, none⟩), .string s] k w fun v m => v = .tuple #[.int .i64 (addL A (textN s) [s]).1, .int .i64 (addL A (textN s) [s]).2.1] ∧ m = [arenaL a (addL A (textN s) [s]).2.2] := by
  refine enter (args := [.pointer (some ⟨a, 0, none⟩), .string s]) Tryz.func13 rfl rfl ?_
  have hO := nil_attrs hO
  refine K0 (K1 ?_)
  refine l_y rfl rfl (y_assign rfl) ?_
  refine l_y rfl rfl (y_assign rfl) ?_
  refine K2 (K3 (K0 (K1 ?_)))
  refine l_y rfl rfl (y_move rfl) ?_
  refine l_y rfl rfl (y_move rfl) ?_
  refine s_build (parts := [(0, .const (.int .i64 2)), (4, .tmp 7)]) (cs := [.int .i64 2, .int .i64 0, .string ⟨#[]⟩, .slice none 0 0, .string s, .string ⟨#[]⟩, .int .i64 0, .int .i64 0, .int .i64 0, .int .i64 0, .int .i64 0, .int .i64 0]) rfl rfl (fun a ha => partsOf_sound ha _ _ rfl) (by kernel_rfl) ?_
  refine l_y rfl rfl (y_move rfl) ?_
  refine s_lit (parts := [(0, .tmp 9)]) (enc := eS) [s] [.string s] hO rfl (fun b10 w hO => ?_)
  refine CK [.o a, .p none] hO rfl (fun k' hx hr hO' => add_spec (n := textN s) (ts := [s]) hn hc (sls_roK hr (sls_fct hO)) (by simp) (hO := hO')) ?_
  rintro _ _ w ⟨rfl, rfl⟩ hO
  refine l_y rfl rfl (y_extract rfl rfl) ?_
  refine l_y rfl rfl (y_extract rfl rfl) ?_
  refine l_y rfl rfl (y_assign rfl) ?_
  refine l_y rfl rfl (y_assign rfl) ?_
  refine K2 (K3 (K6 ?_))
  exact fin2 rfl rfl rfl ⟨_, ⟨rfl, rfl⟩, hO.one⟩
theorem Fragment_spec {k : Ctx} {w : World} {a : Nat} {A : List Node_one} (hn : 0 < A.length) (hc : A.length ≤ 32768) (hO : Own k w [arenaL a A]) :
    Tri Tryz.prog 34 #[.pointer (some ⟨a, 0, none⟩)] k w fun v m => v = .tuple #[.int .i64 (addL A fragmentN []).1, .int .i64 (addL A fragmentN []).2.1] ∧ m = [arenaL a (addL A fragmentN []).2.2] := by
  refine enter (args := [.pointer (some ⟨a, 0, none⟩)]) Tryz.func34 rfl rfl ?_
  have hO := nil_attrs hO
  refine K0 (K1 ?_)
  refine l_y rfl rfl (y_assign rfl) ?_
  refine l_y rfl rfl (y_assign rfl) ?_
  refine K2 (K3 (K0 (K1 ?_)))
  refine l_y rfl rfl (y_move rfl) ?_
  refine s_build (parts := [(0, .const (.int .i64 5))]) (cs := [.int .i64 5, .int .i64 0, .string ⟨#[]⟩, .slice none 0 0, .string ⟨#[]⟩, .string ⟨#[]⟩, .int .i64 0, .int .i64 0, .int .i64 0, .int .i64 0, .int .i64 0, .int .i64 0]) rfl rfl (fun a ha => partsOf_sound ha _ _ rfl) (by kernel_rfl) ?_
  refine CK [.o a, .p none] hO rfl (fun k' hx hr hO' => add_spec (n := fragmentN) (ts := []) hn hc (Sli.nil rfl) (by simp) (hO := hO')) ?_
  rintro _ _ w ⟨rfl, rfl⟩ hO
  refine l_y rfl rfl (y_extract rfl rfl) ?_
  refine l_y rfl rfl (y_extract rfl rfl) ?_
  refine l_y rfl rfl (y_assign rfl) ?_
  refine l_y rfl rfl (y_assign rfl) ?_
  refine K2 (K3 (K6 ?_))
  exact fin2 rfl rfl rfl ⟨_, ⟨rfl, rfl⟩, hO.one⟩
theorem New_spec {k : Ctx} {w : World} (hO : Own k w []) :
    Tri Tryz.prog 5 #[] k w fun v m => ∃ a, v = .pointer (some ⟨a, 0, none⟩) ∧ m = [arenaL a [blankN documentN]] := by
  refine enter (args := []) Tryz.func5 rfl rfl ?_
  have hO := nil_attrs hO
  refine K0 (K1 ?_)
  refine l_y rfl rfl (y_assign rfl) ?_
  refine K2 (K3 (K0 (K1 ?_)))
  refine s_build (parts := [(0, .const (.int .i64 0))]) (cs := [.int .i64 0, .int .i64 0, .string ⟨#[]⟩, .slice none 0 0, .string ⟨#[]⟩, .string ⟨#[]⟩, .int .i64 0, .int .i64 0, .int .i64 0, .int .i64 0, .int .i64 0, .int .i64 0]) rfl rfl (fun a ha => partsOf_sound ha _ _ rfl) (by kernel_rfl) ?_
  refine CK [] hO rfl (fun k' hx hr hO' => blank_spec (n := documentN) (hO := hO')) ?_
  rintro _ _ w ⟨rfl, rfl⟩ hO
  simp only [List.nil_append] at hO
  refine s_lit (parts := [(0, .tmp 2)]) (enc := Node_one.cells) [(blankN documentN)] [.agg [.int .i64 (blankN documentN).Node.Kind, .int .i64 (blankN documentN).Node.Space, .string (blankN documentN).Node.Name, .slice (blankN documentN).Node.AttrsP (blankN documentN).Node.Attrs.length (blankN documentN).Node.AttrsC, .string (blankN documentN).Node.Data, .string (blankN documentN).Node.System, .int .i64 (blankN documentN).Node.Parent, .int .i64 (blankN documentN).Node.First, .int .i64 (blankN documentN).Node.Last, .int .i64 (blankN documentN).Node.Prev, .int .i64 (blankN documentN).Node.Next, .int .i64 (blankN documentN).Node.Inner, .int .i64 (blankN documentN).host].toArray] hO rfl (fun b3 w hO => ?_)
  refine s_build (parts := [(0, .tmp 3)]) (cs := [.slice (some ⟨b3, 0, none⟩) 1 1]) rfl rfl (fun a ha => partsOf_sound ha _ _ rfl) (by kernel_rfl) ?_
  refine s_box (vs := [.slice (some ⟨b3, 0, none⟩) 1 1]) hO rfl rfl rfl (by rfl) fun b5 w hO => ?_
  refine l_y rfl rfl (y_assign rfl) ?_
  refine K2 (K3 (K6 ?_))
  refine fin1 rfl rfl ⟨_, ⟨_, rfl, rfl⟩, ?_⟩
  have hO : Own k w ([attrsP (blankN documentN)] ++ _) := hO.ks [.p none]
  have hO := (Own.shut hO).ks [.s, .b b5, .p (some ⟨b3, 0, none⟩)]
  exact (arenaL_shut (A := [blankN documentN]) hO).one
def templateS : ByteArray := ⟨#[116, 101, 109, 112, 108, 97, 116, 101]⟩
def tmpl (sp : Int) (nm : ByteArray) : Prop := sp = 0 ∧ nm = templateS
instance (sp : Int) (nm : ByteArray) : Decidable (tmpl sp nm) := by unfold tmpl; infer_instance
def attrTexts (xs : List Api_attr) : List ByteArray := xs.flatMap fun x => [x.Prefix, x.Name, x.Value]
def setInner (A : List Node_one) (i v : Int) : List Node_one := A.set i.toNat { at_ A i.toNat with Node := { (at_ A i.toNat).Node with Inner := v } }
def setHost (A : List Node_one) (i v : Int) : List Node_one := A.set i.toNat { at_ A i.toNat with host := v }
def elementL (A : List Node_one) (sp : Int) (nm : ByteArray) (xs : List Api_attr) (q : Option Addr) (d : Nat) : Int × Int × List Node_one :=
  if sp < 0 ∨ 2 < sp then (0, 1, A) else if 1024 < xs.length then (0, 2, A)
  else if tmpl sp nm ∧ A.length = 32767 then (0, 9, A)
  else if longB (nm :: attrTexts xs) = true then (0, 2, A) else if 32768 ≤ A.length then (0, 9, A)
  else if tmpl sp nm then (A.length, 0, setHost (setInner (A ++ [blankN (elementN q d sp nm xs)] ++ [blankN fragmentN]) A.length (A ++ [blankN (elementN q d sp nm xs)]).length) (A ++ [blankN (elementN q d sp nm xs)]).length A.length)
  else (A.length, 0, A ++ [blankN (elementN q d sp nm xs)])
theorem attrTexts_len {xs : List Api_attr} : (attrTexts xs).length = 3 * xs.length := by
  induction xs with
  | nil => rfl
  | cons x xs ih => simp only [attrTexts, List.flatMap_cons, List.length_append, List.length_cons, List.length_nil] at ih ⊢; omega
theorem addC_spec {k : Ctx} {w : World} {a : Nat} {A : List Node_one} {n : Api_node} {ts : List ByteArray} {tp : Option Addr} {tc : Nat} (hn : 0 < A.length) (hc : A.length ≤ 32768) (ht : Sli (Ro k) (.slice tp ts.length tc) (ts.map eS)) (htl : ts.length ≤ 1000000) (hO : Own k w [arenaL a A, attrsP (blankN n)]) :
    Tri Tryz.prog 33 #[.pointer (some ⟨a, 0, none⟩), .agg (Api_node.cells n).toArray, .slice tp ts.length tc] k w fun v m =>
      (longB ts = true ∧ v = .tuple #[.int .i64 0, .int .i64 2] ∧ m = [arenaL a A]) ∨ (longB ts = false ∧ 32768 ≤ A.length ∧ v = .tuple #[.int .i64 0, .int .i64 9] ∧ m = [arenaL a A]) ∨ (longB ts = false ∧ A.length < 32768 ∧ v = .tuple #[.int .i64 ((A.length : Nat) : Int), .int .i64 0] ∧ m = [arenaL a (A ++ [blankN n])]) := by
  refine (add_spec hn hc ht htl hO).mono ?_
  rintro v m ⟨rfl, rfl⟩
  cases hl : longB ts with
  | true => exact .inl ⟨rfl, by simp [addL, hl], by simp [addL, hl]⟩
  | false =>
    by_cases h9 : 32768 ≤ A.length
    · exact .inr (.inl ⟨rfl, h9, by simp [addL, hl, h9], by simp [addL, hl, h9]⟩)
    · exact .inr (.inr ⟨rfl, by omega, by simp [addL, hl, h9], by simp [addL, hl, h9]⟩)
theorem FragmentOk_spec {k : Ctx} {w : World} {a : Nat} {A : List Node_one} (hn : 0 < A.length) (hc : A.length < 32768) (hO : Own k w [arenaL a A]) :
    Tri Tryz.prog 34 #[.pointer (some ⟨a, 0, none⟩)] k w fun v m => v = .tuple #[.int .i64 ((A.length : Nat) : Int), .int .i64 0] ∧ m = [arenaL a (A ++ [blankN fragmentN])] := by
  refine (Fragment_spec hn (by omega) hO).mono ?_
  rintro v m ⟨rfl, rfl⟩
  have e : addL A fragmentN [] = ((A.length : Int), 0, A ++ [blankN fragmentN]) := by rw [addL, if_neg (by simp [longB]), if_neg (by omega)]
  rw [e]; exact ⟨rfl, rfl⟩
set_option maxHeartbeats 4000000 in
theorem Element_spec {k : Ctx} {w : World} {a : Nat} {A : List Node_one} {sp : Int} {nm : ByteArray} {xs : List Api_attr} {ap : Option Addr} {ac : Nat} (hn : 0 < A.length) (hc : A.length ≤ 32768) (hs : Sli (Ro k) (.slice ap xs.length ac) (xs.map Api_attr.cells)) (hO : Own k w [arenaL a A]) :
    Tri Tryz.prog 11 #[.pointer (some ⟨a, 0, none⟩), .int .i64 sp, .string nm, .slice ap xs.length ac] k w fun v m => ∃ q d, v = .tuple #[.int .i64 (elementL A sp nm xs q d).1, .int .i64 (elementL A sp nm xs q d).2.1] ∧ m = [arenaL a (elementL A sp nm xs q d).2.2] := by
  refine enter (args := [.pointer (some ⟨a, 0, none⟩), .int .i64 sp, .string nm, .slice ap xs.length ac]) Tryz.func11 rfl rfl ?_
  have hgs := sli_gs hs
  obtain ⟨p, c, hg, hO⟩ := arenaL_open hO
  refine K0 (K1 ?_)
  refine l_y rfl rfl (y_assign rfl) ?_
  refine l_y rfl rfl (y_assign rfl) ?_
  refine K2 (K3 (K0 (K4 (K0 (K1 ?_)))))
  refine l_y rfl rfl (y_move rfl) ?_
  refine CK [.b a, .p p] hO rfl (fun k' hx hr hO' => none_spec (hO := hO')) ?_
  rintro _ _ w ⟨rfl, rfl⟩ hO
  simp only [List.cons_append, List.nil_append] at hO
  refine l_y rfl rfl (y_assign rfl) ?_
  refine K2 (K3 (L9 (K0 (K1 ?_))))
  refine l_y rfl rfl (y_move rfl) ?_
  refine Z0 (fun h3_1 => ?_) (fun h3_1 => ?_)
  · refine l_y rfl rfl (y_move rfl) ?_
    repeat refine M2 ?_
    refine l_y rfl rfl (y_pick_t rfl rfl) ?_
    refine l_y rfl rfl (y_assign rfl) ?_
    refine K2 (K3 (L8 (K0 (K1 ?_))))
    refine l_y rfl rfl (y_assign rfl) ?_
    refine l_y rfl rfl (y_assign rfl) ?_
    refine K2 (K3 (K6 (L0 (K9 ?_))))
    have hO := (arenaL_shut (hO.ks [.s, .b a, .p p])).one
    have e : elementL A sp nm xs none 0 = (0, 1, A) := by rw [elementL, if_pos (by omega)]
    exact fin2 rfl rfl rfl ⟨_, ⟨none, 0, by rw [e], rfl⟩, by rw [e]; exact hO⟩
  · refine l_y rfl rfl (y_move rfl) ?_
    refine l_y rfl rfl (y_move rfl) ?_
    refine Z0 (fun h3_4 => ?_) (fun h3_4 => ?_)
    · refine l_y rfl rfl (y_pick_f rfl rfl) ?_
      refine l_y rfl rfl (y_assign rfl) ?_
      refine K2 (K3 (L8 (K0 (K1 ?_))))
      refine l_y rfl rfl (y_assign rfl) ?_
      refine l_y rfl rfl (y_assign rfl) ?_
      refine K2 (K3 (K6 (L0 (K9 ?_))))
      have hO := (arenaL_shut (hO.ks [.s, .b a, .p p])).one
      have e : elementL A sp nm xs none 0 = (0, 1, A) := by rw [elementL, if_pos (by omega)]
      exact fin2 rfl rfl rfl ⟨_, ⟨none, 0, by rw [e], rfl⟩, by rw [e]; exact hO⟩
    · refine l_y rfl rfl (y_pick_f rfl rfl) ?_
      refine l_y rfl rfl (y_assign rfl) ?_
      refine K2 (K3 (L9 (K0 (K1 ?_))))
      refine l_y rfl rfl (y_move rfl) ?_
      refine l_y rfl rfl (y_lenL rfl) ?_
      refine Z0 (fun h5_2 => ?_) (fun h5_2 => ?_)
      · refine l_y rfl rfl (y_assign rfl) ?_
        refine K2 (K3 (L8 (K0 (K1 ?_))))
        refine l_y rfl rfl (y_assign rfl) ?_
        refine l_y rfl rfl (y_assign rfl) ?_
        refine K2 (K3 (K6 (L0 (K9 ?_))))
        have hO := (arenaL_shut (hO.ks [.s, .b a, .p p])).one
        have e : elementL A sp nm xs none 0 = (0, 2, A) := by rw [elementL, if_neg (by omega), if_pos (by omega)]
        exact fin2 rfl rfl rfl ⟨_, ⟨none, 0, by rw [e], rfl⟩, by rw [e]; exact hO⟩
      · refine l_y rfl rfl (y_assign rfl) ?_
        refine K2 (K3 (L9 (K5 (K8 (K3 (K0 (K1 ?_)))))))
        refine l_y rfl rfl (y_move rfl) ?_
        refine s_lit (parts := [(0, .tmp 32)]) (enc := eS) [nm] [.string nm] hO rfl (fun b33 w hO => ?_)
        refine l_y rfl rfl (y_assign rfl) ?_
        refine K2 (K3 (K0 (K0 (K1 ?_))))
        refine l_y rfl rfl (y_move rfl) ?_
        refine l_y rfl rfl (y_lenL rfl) ?_
        refine l_y rfl rfl (y_move rfl) ?_
        refine K2 (K3 (K4 ?_))
        refine c_rounds (X := Nat × Option Addr × Nat × List ByteArray) (fun x => [(0, .pointer (some ⟨a, 0, none⟩)), (1, .int .i64 sp), (2, .string nm), (3, .slice ap xs.length ac), (8, .int .i64 0), (9, .int .i64 0), (10, .slice x.2.1 x.2.2.2.length x.2.2.1), (34, .slice ap xs.length ac), (35, .int .i64 ((xs.length : Nat) : Int)), (36, .int .i64 (x.1 : Int))]) (fun x w => Own k w [arB a p A.length c, arS p c A, sep (A.map attrsP), sls x.2.1 x.2.2.1 9 1 eS x.2.2.2] ∧ (x.1 ≤ xs.length) ∧ (x.2.2.2 = nm :: attrTexts (xs.take x.1))) (fun x => xs.length - x.1) ((0, some ⟨b33, 0, none⟩, 1, [nm])) ⟨rfl, rfl, rfl, rfl, rfl, rfl, rfl, rfl, rfl, rfl, trivial⟩ ⟨hO.only [.b a, .p p, .s, .p (some ⟨b33, 0, none⟩)], Nat.zero_le _, rfl⟩ ?_
        rintro x w m hm ⟨hO, hi, ht⟩
        have hxl : xs.length ≤ 1024 := by omega
        have htl : x.2.2.2.length = 1 + 3 * x.1 := by rw [ht, List.length_cons, attrTexts_len, List.length_take]; omega
        refine K0 (K1 ?_)
        refine Z0 (fun h9_0 => ?_) (fun h9_0 => ?_)
        · refine K2 (K3 (K0 (L8 (K5 (K3 (K0 (K4 (K0 (K1 ?_)))))))))
          refine l_y rfl rfl (y_idx rfl rfl) ?_
          refine l_y rfl rfl (y_rA (x0 := 0) (enc := Api_attr.cells) (xs := xs) (cs := [.int .i64 (at_ xs ((x.1 : Int) : Int).toNat).Space, .string (at_ xs ((x.1 : Int) : Int).toNat).Prefix, .string (at_ xs ((x.1 : Int) : Int).toNat).Name, .string (at_ xs ((x.1 : Int) : Int).toNat).Value]) hO rfl) ?_
          refine s_alloc (vs := [.int .i64 0, .string ⟨#[]⟩, .string ⟨#[]⟩, .string ⟨#[]⟩]) hO rfl rfl rfl fun b12 w hO => ?_
          refine Y3 hO rfl rfl (fun w hO => ?_)
          refine K2 (K3 (K1 ?_))
          refine l_y rfl rfl (y_move rfl) ?_
          refine l_y rfl rfl (y_fldb (o' := 1) rfl) ?_
          refine l_y rfl rfl (D5 hO rfl) ?_
          refine l_y rfl rfl (y_fldb (o' := 2) rfl) ?_
          refine l_y rfl rfl (D5 hO rfl) ?_
          refine l_y rfl rfl (y_fldb (o' := 3) rfl) ?_
          refine l_y rfl rfl (D5 hO rfl) ?_
          refine s_lit (parts := [(0, .tmp 42), (1, .tmp 44), (2, .tmp 46)]) (enc := eS) [(at_ xs ((x.1 : Int) : Int).toNat).Prefix, (at_ xs ((x.1 : Int) : Int).toNat).Name, (at_ xs ((x.1 : Int) : Int).toNat).Value] [.string (at_ xs ((x.1 : Int) : Int).toNat).Prefix, .string (at_ xs ((x.1 : Int) : Int).toNat).Name, .string (at_ xs ((x.1 : Int) : Int).toNat).Value] hO rfl (fun b47 w hO => ?_)
          refine s_app hO rfl rfl (src_own hO) (fun p48 c48 w hO gs48 => ?_)
          refine l_y rfl rfl (y_assign rfl) ?_
          refine K2 (K8 (K3 (K1 ?_)))
          refine l_y rfl rfl (D4) ?_
          refine l_y rfl rfl (y_move rfl) ?_
          refine K2 ?_
          exact q_next ((x.1 + 1, p48, c48, _)) ⟨rfl, rfl, rfl, rfl, rfl, rfl, rfl, rfl, rfl, rfl, trivial⟩ ⟨hO.only [.b a, .p p, .s, .p p48], by dsimp only; omega, by dsimp only; rw [ht, take_succ_at (by omega)]; simp only [attrTexts, List.flatMap_append, List.flatMap_cons, List.flatMap_nil, List.append_nil, List.cons_append]; rfl⟩ (by dsimp only; omega)
        · refine K2 (K3 (K0 (L9 (K7 (L1 (L1 (L2 (K3 (K0 ?_)))))))))
          obtain ⟨i, tp, tc, ts⟩ := x
          dsimp only at hi ht hO htl hm h9_0
          have hie : i = xs.length := by omega
          subst hie
          rw [List.take_length] at ht
          have htt : sp = 0 ∧ nm = templateS ↔ tmpl sp nm := Iff.rfl
          refine K1 ?_
          refine l_y rfl rfl (y_move rfl) ?_
          refine Z0 (fun h13_1 => ?_) (fun h13_1 => ?_)
          · refine l_y rfl rfl (y_move rfl) ?_
            refine l_y rfl rfl (y_move rfl) ?_
            refine Z2 (fun h13_4 => ?_) (fun h13_4 => ?_)
            · refine l_y rfl rfl (y_pick_t rfl rfl) ?_
              refine l_y rfl rfl (y_assign rfl) ?_
              refine K2 (K3 (K0 (K0 (K1 ?_))))
              refine l_y rfl rfl (y_move rfl) ?_
              refine l_y rfl rfl (y_move rfl) ?_
              refine l_y rfl rfl (y_move rfl) ?_
              refine l_y rfl rfl (y_nilCheck rfl rfl) ?_
              refine l_y rfl rfl (y_fldb (o' := 0) rfl) ?_
              refine l_y rfl rfl (D5 hO rfl) ?_
              refine l_y rfl rfl (y_lenL rfl) ?_
              refine Z0 (fun h14_7 => ?_) (fun h14_7 => ?_)
              · refine l_y rfl rfl (y_pick_t rfl rfl) ?_
                refine K2 (K3 (L8 (K0 (K1 ?_))))
                refine l_y rfl rfl (y_assign rfl) ?_
                refine l_y rfl rfl (y_assign rfl) ?_
                refine K2 (K3 (K6 (K9 ?_)))
                have hO := (arenaL_shut (hO.ks [.s, .b a, .p p])).one
                have e : elementL A sp nm xs none 0 = (0, 9, A) := by rw [elementL, if_neg (by omega), if_neg (by omega), if_pos ⟨⟨h13_1, h13_4⟩, by omega⟩]
                exact fin2 rfl rfl rfl ⟨_, ⟨none, 0, by rw [e], rfl⟩, by rw [e]; exact hO⟩
              · refine l_y rfl rfl (y_pick_t rfl rfl) ?_
                refine K2 (K3 (L9 (K5 (K3 (K0 ?_)))))
                have hnt : ¬ (tmpl sp nm ∧ A.length = 32767) := by
                  rintro ⟨⟨q1, q2⟩, q3⟩
                  first | exact h13_1 q1 | exact h13_4 q2 | omega
                refine K1 ?_
                refine l_y rfl rfl (y_move rfl) ?_
                refine l_y rfl rfl (y_move rfl) ?_
                refine l_y rfl rfl (y_move rfl) ?_
                refine l_y rfl rfl (y_move rfl) ?_
                refine CK [] hO rfl (fun k' hx hr hO' => own_spec (hs.ext hO hx) (by omega) (hO := hO')) ?_
                rintro _ _ w ⟨b70, rfl, rfl⟩ hO
                simp only [List.cons_append, List.nil_append] at hO
                refine s_build (parts := [(0, .const (.int .i64 1)), (1, .tmp 67), (2, .tmp 68), (3, .tmp 70)]) (cs := [.int .i64 1, .int .i64 sp, .string nm, .slice (some ⟨b70, 0, none⟩) xs.length xs.length, .string ⟨#[]⟩, .string ⟨#[]⟩, .int .i64 0, .int .i64 0, .int .i64 0, .int .i64 0, .int .i64 0, .int .i64 0]) rfl rfl (fun a ha => partsOf_sound ha _ _ rfl) (by kernel_rfl) ?_
                refine l_y rfl rfl (y_move rfl) ?_
                have hO := arenaL_shut (hO.ks [.s, .b a, .p p])
                refine CK [.o a, .p (some ⟨b70, 0, none⟩)] hO rfl (fun k' hx hr hO' => addC_spec (n := elementN (some ⟨b70, 0, none⟩) xs.length sp nm xs) (ts := ts) hn hc (sls_roK hr (sls_fct (p := tp) hO)) (by omega) (hO := hO')) ?_
                rintro _ _ w (⟨ha1, rfl, rfl⟩ | ⟨ha1, ha2, rfl, rfl⟩ | ⟨ha1, ha2, rfl, rfl⟩) hO
                · simp only [List.cons_append, List.nil_append] at hO
                  refine l_y rfl rfl (y_move rfl) ?_
                  refine l_y rfl rfl (y_extract rfl rfl) ?_
                  refine l_y rfl rfl (y_extract rfl rfl) ?_
                  refine l_y rfl rfl (y_assign rfl) ?_
                  refine l_y rfl rfl (y_assign rfl) ?_
                  refine K2 (K3 (K0 (K0 (K1 ?_))))
                  refine l_y rfl rfl (y_move rfl) ?_
                  refine N3 ?_
                  refine l_y rfl rfl (y_move rfl) ?_
                  repeat refine M2 ?_
                  refine l_y rfl rfl (y_pick_f rfl rfl) ?_
                  refine K2 (K3 (L9 (K5 (K3 (K0 (K1 ?_))))))
                  refine l_y rfl rfl (y_move rfl) ?_
                  refine l_y rfl rfl (y_move rfl) ?_
                  refine l_y rfl rfl (y_assign rfl) ?_
                  refine l_y rfl rfl (y_assign rfl) ?_
                  refine K2 (K3 (K6 ?_))
                  have e : elementL A sp nm xs none 0 = (0, 2, A) := by rw [elementL, if_neg (by omega), if_neg (by omega), if_neg hnt, if_pos (ht ▸ ha1)]
                  exact fin2 rfl rfl rfl ⟨_, ⟨none, 0, by rw [e], rfl⟩, by rw [e]; exact hO.one⟩
                · simp only [List.cons_append, List.nil_append] at hO
                  refine l_y rfl rfl (y_move rfl) ?_
                  refine l_y rfl rfl (y_extract rfl rfl) ?_
                  refine l_y rfl rfl (y_extract rfl rfl) ?_
                  refine l_y rfl rfl (y_assign rfl) ?_
                  refine l_y rfl rfl (y_assign rfl) ?_
                  refine K2 (K3 (K0 (K0 (K1 ?_))))
                  refine l_y rfl rfl (y_move rfl) ?_
                  refine N3 ?_
                  refine l_y rfl rfl (y_move rfl) ?_
                  repeat refine M2 ?_
                  refine l_y rfl rfl (y_pick_f rfl rfl) ?_
                  refine K2 (K3 (L9 (K5 (K3 (K0 (K1 ?_))))))
                  refine l_y rfl rfl (y_move rfl) ?_
                  refine l_y rfl rfl (y_move rfl) ?_
                  refine l_y rfl rfl (y_assign rfl) ?_
                  refine l_y rfl rfl (y_assign rfl) ?_
                  refine K2 (K3 (K6 ?_))
                  have e : elementL A sp nm xs none 0 = (0, 9, A) := by rw [elementL, if_neg (by omega), if_neg (by omega), if_neg hnt, if_neg (by rw [← ht, ha1]; simp), if_pos ha2]
                  exact fin2 rfl rfl rfl ⟨_, ⟨none, 0, by rw [e], rfl⟩, by rw [e]; exact hO.one⟩
                · simp only [List.cons_append, List.nil_append] at hO
                  refine l_y rfl rfl (y_move rfl) ?_
                  refine l_y rfl rfl (y_extract rfl rfl) ?_
                  refine l_y rfl rfl (y_extract rfl rfl) ?_
                  refine l_y rfl rfl (y_assign rfl) ?_
                  refine l_y rfl rfl (y_assign rfl) ?_
                  refine K2 (K3 (K0 (K0 (K1 ?_))))
                  refine l_y rfl rfl (y_move rfl) ?_
                  refine N2 ?_
                  refine l_y rfl rfl (y_move rfl) ?_
                  refine l_y rfl rfl (y_move rfl) ?_
                  refine l_y rfl rfl (y_pick_t rfl rfl) ?_
                  refine K2 (K3 (L8 (K0 (K1 ?_))))
                  refine l_y rfl rfl (y_move rfl) ?_
                  refine CK [.o a] hO rfl (fun k' hx hr hO' => FragmentOk_spec (by simp) (by simp; omega) (hO := hO')) ?_
                  rintro _ _ w ⟨rfl, rfl⟩ hO
                  simp only [List.cons_append, List.nil_append] at hO
                  refine l_y rfl rfl (y_move rfl) ?_
                  refine l_y rfl rfl (y_extract rfl rfl) ?_
                  refine l_y rfl rfl (y_extract rfl rfl) ?_
                  refine l_y rfl rfl (y_assign rfl) ?_
                  refine l_y rfl rfl (y_assign rfl) ?_
                  refine K2 (K3 ?_)
                  obtain ⟨p2, c2, hg2, hO⟩ := arenaL_open hO
                  have hl2 : (A ++ [blankN (elementN (some ⟨b70, 0, none⟩) xs.length sp nm xs)] ++ [blankN fragmentN]).length = A.length + 2 := by simp
                  have hl1 : (A ++ [blankN (elementN (some ⟨b70, 0, none⟩) xs.length sp nm xs)]).length = A.length + 1 := by simp
                  refine da_region (by intro c a d v w h; cases d <;> exact h) ?_
                  have hO := hO.drew
                  refine da_phase _ [15] (SO.ks [.b a] hO) ?_
                  refine dx_u 0 (by kernel_rfl) rfl rfl rfl (fun w => y_move rfl) ?_
                  refine dx_u 1 (by kernel_rfl) rfl rfl rfl (fun w => y_nilCheck rfl rfl) ?_
                  refine dx_u 2 (by kernel_rfl) rfl rfl rfl (fun w => y_fldb (o' := 0) rfl) ?_
                  refine dx_y 3 (by kernel_rfl) rfl rfl rfl (fun w ⟨m, hw⟩ => D5 hw rfl) ?_
                  refine dx_u 4 (by kernel_rfl) rfl rfl rfl (fun w => y_move rfl) ?_
                  refine dx_u 5 (by kernel_rfl) rfl rfl rfl (fun w => y_move rfl) ?_
                  refine dx_u 6 (by kernel_rfl) rfl rfl rfl (fun w => y_nilCheck rfl rfl) ?_
                  refine dx_u 7 (by kernel_rfl) rfl rfl rfl (fun w => y_fldb (o' := 0) rfl) ?_
                  refine dx_y 8 (by kernel_rfl) rfl rfl rfl (fun w ⟨m, hw⟩ => D5 hw rfl) ?_
                  refine dx_u 9 (by kernel_rfl) rfl rfl rfl (fun w => y_move rfl) ?_
                  refine dx_u 10 (by kernel_rfl) rfl rfl rfl (fun w => y_move rfl) ?_
                  refine dx_u 11 (by kernel_rfl) rfl rfl rfl (fun w => y_move rfl) ?_
                  refine dx_u 12 (by kernel_rfl) rfl rfl rfl (fun w => y_idx rfl rfl) ?_
                  refine dx_u 13 (by kernel_rfl) rfl rfl rfl (fun w => y_fld (j' := 0) rfl) ?_
                  refine dx_u 14 (by kernel_rfl) rfl rfl rfl (fun w => y_fld (j' := 11) rfl) ?_
                  refine dx_close 15 (by kernel_rfl) rfl rfl ?_
                  refine s_e1 (x0 := 11) hO rfl rfl (fun w hO => ?_)
                  refine o_done ?_
                  refine da_phase _ [18] (SO.ks [] hO) ?_
                  refine dx_u 16 (by kernel_rfl) rfl rfl rfl (fun w => y_idx rfl rfl) ?_
                  refine dx_u 17 (by kernel_rfl) rfl rfl rfl (fun w => y_fld (j' := 12) rfl) ?_
                  refine dx_close 18 (by kernel_rfl) rfl rfl ?_
                  refine s_e1 (x0 := 12) hO rfl rfl (fun w hO => ?_)
                  refine o_done ?_
                  refine da_end (by kernel_rfl) ?_
                  refine K3 (K0 (K1 ?_))
                  refine l_y rfl rfl (y_move rfl) ?_
                  refine l_y rfl rfl (y_move rfl) ?_
                  refine l_y rfl rfl (y_assign rfl) ?_
                  refine l_y rfl rfl (y_assign rfl) ?_
                  refine K2 (K3 (K6 ?_))
                  have e : elementL A sp nm xs (some ⟨b70, 0, none⟩) xs.length = ((A.length : Int), 0, setHost (setInner (A ++ [blankN (elementN (some ⟨b70, 0, none⟩) xs.length sp nm xs)] ++ [blankN fragmentN]) A.length (A ++ [blankN (elementN (some ⟨b70, 0, none⟩) xs.length sp nm xs)]).length) (A ++ [blankN (elementN (some ⟨b70, 0, none⟩) xs.length sp nm xs)]).length A.length) := by
                    rw [elementL, if_neg (by omega), if_neg (by omega), if_neg hnt, if_neg (by rw [← ht, ha1]; simp), if_neg (by omega), if_pos ⟨h13_1, h13_4⟩]
                  exact fin2 rfl rfl rfl ⟨_, ⟨some ⟨b70, 0, none⟩, xs.length, by rw [e], rfl⟩, by rw [e]; exact (arenaL_shut (hO.ks [.s, .b a, .p p2]) (by simp only [setHost, setInner]; rw [attrs_set, attrs_set] <;> rfl) (by simp [setHost, setInner])).one⟩
            · refine l_y rfl rfl (y_pick_t rfl rfl) ?_
              refine l_y rfl rfl (y_assign rfl) ?_
              refine K2 (K3 (K0 (K0 (K1 ?_))))
              refine l_y rfl rfl (y_move rfl) ?_
              refine l_y rfl rfl (y_move rfl) ?_
              repeat refine M2 ?_
              refine l_y rfl rfl (y_pick_f rfl rfl) ?_
              refine K2 (K3 (L9 (K5 (K3 (K0 ?_)))))
              have hnt : ¬ (tmpl sp nm ∧ A.length = 32767) := by
                rintro ⟨⟨q1, q2⟩, q3⟩
                first | exact h13_1 q1 | exact h13_4 q2 | omega
              refine K1 ?_
              refine l_y rfl rfl (y_move rfl) ?_
              refine l_y rfl rfl (y_move rfl) ?_
              refine l_y rfl rfl (y_move rfl) ?_
              refine l_y rfl rfl (y_move rfl) ?_
              refine CK [] hO rfl (fun k' hx hr hO' => own_spec (hs.ext hO hx) (by omega) (hO := hO')) ?_
              rintro _ _ w ⟨b70, rfl, rfl⟩ hO
              simp only [List.cons_append, List.nil_append] at hO
              refine s_build (parts := [(0, .const (.int .i64 1)), (1, .tmp 67), (2, .tmp 68), (3, .tmp 70)]) (cs := [.int .i64 1, .int .i64 sp, .string nm, .slice (some ⟨b70, 0, none⟩) xs.length xs.length, .string ⟨#[]⟩, .string ⟨#[]⟩, .int .i64 0, .int .i64 0, .int .i64 0, .int .i64 0, .int .i64 0, .int .i64 0]) rfl rfl (fun a ha => partsOf_sound ha _ _ rfl) (by kernel_rfl) ?_
              refine l_y rfl rfl (y_move rfl) ?_
              have hO := arenaL_shut (hO.ks [.s, .b a, .p p])
              refine CK [.o a, .p (some ⟨b70, 0, none⟩)] hO rfl (fun k' hx hr hO' => addC_spec (n := elementN (some ⟨b70, 0, none⟩) xs.length sp nm xs) (ts := ts) hn hc (sls_roK hr (sls_fct (p := tp) hO)) (by omega) (hO := hO')) ?_
              rintro _ _ w (⟨ha1, rfl, rfl⟩ | ⟨ha1, ha2, rfl, rfl⟩ | ⟨ha1, ha2, rfl, rfl⟩) hO
              · simp only [List.cons_append, List.nil_append] at hO
                refine l_y rfl rfl (y_move rfl) ?_
                refine l_y rfl rfl (y_extract rfl rfl) ?_
                refine l_y rfl rfl (y_extract rfl rfl) ?_
                refine l_y rfl rfl (y_assign rfl) ?_
                refine l_y rfl rfl (y_assign rfl) ?_
                refine K2 (K3 (K0 (K0 (K1 ?_))))
                refine l_y rfl rfl (y_move rfl) ?_
                refine N3 ?_
                refine l_y rfl rfl (y_move rfl) ?_
                repeat refine M2 ?_
                refine l_y rfl rfl (y_pick_f rfl rfl) ?_
                refine K2 (K3 (L9 (K5 (K3 (K0 (K1 ?_))))))
                refine l_y rfl rfl (y_move rfl) ?_
                refine l_y rfl rfl (y_move rfl) ?_
                refine l_y rfl rfl (y_assign rfl) ?_
                refine l_y rfl rfl (y_assign rfl) ?_
                refine K2 (K3 (K6 ?_))
                have e : elementL A sp nm xs none 0 = (0, 2, A) := by rw [elementL, if_neg (by omega), if_neg (by omega), if_neg hnt, if_pos (ht ▸ ha1)]
                exact fin2 rfl rfl rfl ⟨_, ⟨none, 0, by rw [e], rfl⟩, by rw [e]; exact hO.one⟩
              · simp only [List.cons_append, List.nil_append] at hO
                refine l_y rfl rfl (y_move rfl) ?_
                refine l_y rfl rfl (y_extract rfl rfl) ?_
                refine l_y rfl rfl (y_extract rfl rfl) ?_
                refine l_y rfl rfl (y_assign rfl) ?_
                refine l_y rfl rfl (y_assign rfl) ?_
                refine K2 (K3 (K0 (K0 (K1 ?_))))
                refine l_y rfl rfl (y_move rfl) ?_
                refine N3 ?_
                refine l_y rfl rfl (y_move rfl) ?_
                repeat refine M2 ?_
                refine l_y rfl rfl (y_pick_f rfl rfl) ?_
                refine K2 (K3 (L9 (K5 (K3 (K0 (K1 ?_))))))
                refine l_y rfl rfl (y_move rfl) ?_
                refine l_y rfl rfl (y_move rfl) ?_
                refine l_y rfl rfl (y_assign rfl) ?_
                refine l_y rfl rfl (y_assign rfl) ?_
                refine K2 (K3 (K6 ?_))
                have e : elementL A sp nm xs none 0 = (0, 9, A) := by rw [elementL, if_neg (by omega), if_neg (by omega), if_neg hnt, if_neg (by rw [← ht, ha1]; simp), if_pos ha2]
                exact fin2 rfl rfl rfl ⟨_, ⟨none, 0, by rw [e], rfl⟩, by rw [e]; exact hO.one⟩
              · simp only [List.cons_append, List.nil_append] at hO
                refine l_y rfl rfl (y_move rfl) ?_
                refine l_y rfl rfl (y_extract rfl rfl) ?_
                refine l_y rfl rfl (y_extract rfl rfl) ?_
                refine l_y rfl rfl (y_assign rfl) ?_
                refine l_y rfl rfl (y_assign rfl) ?_
                refine K2 (K3 (K0 (K0 (K1 ?_))))
                refine l_y rfl rfl (y_move rfl) ?_
                refine N2 ?_
                refine l_y rfl rfl (y_move rfl) ?_
                refine l_y rfl rfl (y_move rfl) ?_
                refine l_y rfl rfl (y_pick_t rfl rfl) ?_
                refine K2 (K3 (L9 (K5 (K3 (K0 (K1 ?_))))))
                refine l_y rfl rfl (y_move rfl) ?_
                refine l_y rfl rfl (y_move rfl) ?_
                refine l_y rfl rfl (y_assign rfl) ?_
                refine l_y rfl rfl (y_assign rfl) ?_
                refine K2 (K3 (K6 ?_))
                have e : elementL A sp nm xs (some ⟨b70, 0, none⟩) xs.length = ((A.length : Int), 0, A ++ [blankN (elementN (some ⟨b70, 0, none⟩) xs.length sp nm xs)]) := by
                  rw [elementL, if_neg (by omega), if_neg (by omega), if_neg hnt, if_neg (by rw [← ht, ha1]; simp), if_neg (by omega), if_neg (by rintro ⟨q1, q2⟩; first | exact h13_1 q1 | exact h13_4 q2)]
                exact fin2 rfl rfl rfl ⟨_, ⟨some ⟨b70, 0, none⟩, xs.length, by rw [e], rfl⟩, by rw [e]; exact hO.one⟩
          · refine l_y rfl rfl (y_move rfl) ?_
            repeat refine M2 ?_
            refine l_y rfl rfl (y_pick_f rfl rfl) ?_
            refine l_y rfl rfl (y_assign rfl) ?_
            refine K2 (K3 (K0 (K0 (K1 ?_))))
            refine l_y rfl rfl (y_move rfl) ?_
            refine l_y rfl rfl (y_move rfl) ?_
            repeat refine M2 ?_
            refine l_y rfl rfl (y_pick_f rfl rfl) ?_
            refine K2 (K3 (L9 (K5 (K3 (K0 ?_)))))
            have hnt : ¬ (tmpl sp nm ∧ A.length = 32767) := by
              rintro ⟨⟨q1, q2⟩, q3⟩
              first | exact h13_1 q1 | exact h13_4 q2 | omega
            refine K1 ?_
            refine l_y rfl rfl (y_move rfl) ?_
            refine l_y rfl rfl (y_move rfl) ?_
            refine l_y rfl rfl (y_move rfl) ?_
            refine l_y rfl rfl (y_move rfl) ?_
            refine CK [] hO rfl (fun k' hx hr hO' => own_spec (hs.ext hO hx) (by omega) (hO := hO')) ?_
            rintro _ _ w ⟨b70, rfl, rfl⟩ hO
            simp only [List.cons_append, List.nil_append] at hO
            refine s_build (parts := [(0, .const (.int .i64 1)), (1, .tmp 67), (2, .tmp 68), (3, .tmp 70)]) (cs := [.int .i64 1, .int .i64 sp, .string nm, .slice (some ⟨b70, 0, none⟩) xs.length xs.length, .string ⟨#[]⟩, .string ⟨#[]⟩, .int .i64 0, .int .i64 0, .int .i64 0, .int .i64 0, .int .i64 0, .int .i64 0]) rfl rfl (fun a ha => partsOf_sound ha _ _ rfl) (by kernel_rfl) ?_
            refine l_y rfl rfl (y_move rfl) ?_
            have hO := arenaL_shut (hO.ks [.s, .b a, .p p])
            refine CK [.o a, .p (some ⟨b70, 0, none⟩)] hO rfl (fun k' hx hr hO' => addC_spec (n := elementN (some ⟨b70, 0, none⟩) xs.length sp nm xs) (ts := ts) hn hc (sls_roK hr (sls_fct (p := tp) hO)) (by omega) (hO := hO')) ?_
            rintro _ _ w (⟨ha1, rfl, rfl⟩ | ⟨ha1, ha2, rfl, rfl⟩ | ⟨ha1, ha2, rfl, rfl⟩) hO
            · simp only [List.cons_append, List.nil_append] at hO
              refine l_y rfl rfl (y_move rfl) ?_
              refine l_y rfl rfl (y_extract rfl rfl) ?_
              refine l_y rfl rfl (y_extract rfl rfl) ?_
              refine l_y rfl rfl (y_assign rfl) ?_
              refine l_y rfl rfl (y_assign rfl) ?_
              refine K2 (K3 (K0 (K0 (K1 ?_))))
              refine l_y rfl rfl (y_move rfl) ?_
              refine N3 ?_
              refine l_y rfl rfl (y_move rfl) ?_
              repeat refine M2 ?_
              refine l_y rfl rfl (y_pick_f rfl rfl) ?_
              refine K2 (K3 (L9 (K5 (K3 (K0 (K1 ?_))))))
              refine l_y rfl rfl (y_move rfl) ?_
              refine l_y rfl rfl (y_move rfl) ?_
              refine l_y rfl rfl (y_assign rfl) ?_
              refine l_y rfl rfl (y_assign rfl) ?_
              refine K2 (K3 (K6 ?_))
              have e : elementL A sp nm xs none 0 = (0, 2, A) := by rw [elementL, if_neg (by omega), if_neg (by omega), if_neg hnt, if_pos (ht ▸ ha1)]
              exact fin2 rfl rfl rfl ⟨_, ⟨none, 0, by rw [e], rfl⟩, by rw [e]; exact hO.one⟩
            · simp only [List.cons_append, List.nil_append] at hO
              refine l_y rfl rfl (y_move rfl) ?_
              refine l_y rfl rfl (y_extract rfl rfl) ?_
              refine l_y rfl rfl (y_extract rfl rfl) ?_
              refine l_y rfl rfl (y_assign rfl) ?_
              refine l_y rfl rfl (y_assign rfl) ?_
              refine K2 (K3 (K0 (K0 (K1 ?_))))
              refine l_y rfl rfl (y_move rfl) ?_
              refine N3 ?_
              refine l_y rfl rfl (y_move rfl) ?_
              repeat refine M2 ?_
              refine l_y rfl rfl (y_pick_f rfl rfl) ?_
              refine K2 (K3 (L9 (K5 (K3 (K0 (K1 ?_))))))
              refine l_y rfl rfl (y_move rfl) ?_
              refine l_y rfl rfl (y_move rfl) ?_
              refine l_y rfl rfl (y_assign rfl) ?_
              refine l_y rfl rfl (y_assign rfl) ?_
              refine K2 (K3 (K6 ?_))
              have e : elementL A sp nm xs none 0 = (0, 9, A) := by rw [elementL, if_neg (by omega), if_neg (by omega), if_neg hnt, if_neg (by rw [← ht, ha1]; simp), if_pos ha2]
              exact fin2 rfl rfl rfl ⟨_, ⟨none, 0, by rw [e], rfl⟩, by rw [e]; exact hO.one⟩
            · simp only [List.cons_append, List.nil_append] at hO
              refine l_y rfl rfl (y_move rfl) ?_
              refine l_y rfl rfl (y_extract rfl rfl) ?_
              refine l_y rfl rfl (y_extract rfl rfl) ?_
              refine l_y rfl rfl (y_assign rfl) ?_
              refine l_y rfl rfl (y_assign rfl) ?_
              refine K2 (K3 (K0 (K0 (K1 ?_))))
              refine l_y rfl rfl (y_move rfl) ?_
              refine N2 ?_
              refine l_y rfl rfl (y_move rfl) ?_
              refine l_y rfl rfl (y_move rfl) ?_
              refine l_y rfl rfl (y_pick_t rfl rfl) ?_
              refine K2 (K3 (L9 (K5 (K3 (K0 (K1 ?_))))))
              refine l_y rfl rfl (y_move rfl) ?_
              refine l_y rfl rfl (y_move rfl) ?_
              refine l_y rfl rfl (y_assign rfl) ?_
              refine l_y rfl rfl (y_assign rfl) ?_
              refine K2 (K3 (K6 ?_))
              have e : elementL A sp nm xs (some ⟨b70, 0, none⟩) xs.length = ((A.length : Int), 0, A ++ [blankN (elementN (some ⟨b70, 0, none⟩) xs.length sp nm xs)]) := by
                rw [elementL, if_neg (by omega), if_neg (by omega), if_neg hnt, if_neg (by rw [← ht, ha1]; simp), if_neg (by omega), if_neg (by rintro ⟨q1, q2⟩; first | exact h13_1 q1 | exact h13_4 q2)]
              exact fin2 rfl rfl rfl ⟨_, ⟨some ⟨b70, 0, none⟩, xs.length, by rw [e], rfl⟩, by rw [e]; exact hO.one⟩
end Go.Proofs.YtpejdlfkaaiehaaGreatDoor
end
section
set_option linter.unusedVariables false
set_option linter.unusedSimpArgs false
set_option maxRecDepth 100000
namespace Go.Proofs.YtpejdlfkaaiehaaGreatDoor
open Go Go.Hb Go.RowKit
/-- what Node tells, with attributes of its own -/
def ownN (n : Api_node) (q : Option Addr) (d : Nat) : Api_node := { n with AttrsP := q, AttrsC := d }
theorem Node_spec {k : Ctx} {w : World} {a : Nat} {A : List Node_one} {id : Int} (hn : 0 < A.length) (ha : AttrsOk A) (hO : Own k w [arenaL a A]) :
    Tri Tryz.prog 10 #[.pointer (some ⟨a, 0, none⟩), .int .i64 id] k w fun v m =>
      (hasB A id = false ∧ v = .tuple #[.agg (Api_node.cells default).toArray, .int .i64 6] ∧ m = [arenaL a A]) ∨
      (hasB A id = true ∧ ∃ q d, v = .tuple #[.agg (Api_node.cells (ownN (at_ A id.toNat).Node q d)).toArray, .int .i64 0] ∧ m = [arenaL a A, sls q d 81 4 Api_attr.cells (at_ A id.toNat).Node.Attrs]) := by
  refine enter (args := [.pointer (some ⟨a, 0, none⟩), .int .i64 id]) Tryz.func10 rfl rfl ?_
  obtain ⟨p, c, hg, hO⟩ := arenaL_open hO
  refine K0 (K1 ?_)
  refine s_alloc (vs := [.int .i64 0, .int .i64 0, .string ⟨#[]⟩, .slice none 0 0, .string ⟨#[]⟩, .string ⟨#[]⟩, .int .i64 0, .int .i64 0, .int .i64 0, .int .i64 0, .int .i64 0, .int .i64 0]) hO rfl rfl rfl fun b4 w hO => ?_
  refine l_y rfl rfl (y_assign rfl) ?_
  refine K2 (K3 (K0 (K4 (K0 (K1 ?_)))))
  refine l_y rfl rfl (y_move rfl) ?_
  refine CK [.b a, .p p] hO rfl (fun k' hx hr hO' => none_spec (hO := hO')) ?_
  rintro _ _ w ⟨rfl, rfl⟩ hO
  simp only [List.cons_append, List.nil_append] at hO
  refine l_y rfl rfl (y_assign rfl) ?_
  refine K2 (K3 (L9 (K0 (K1 ?_))))
  refine l_y rfl rfl (y_move rfl) ?_
  refine l_y rfl rfl (y_move rfl) ?_
  refine CK [.b a, .p p] hO rfl (fun k' hx hr hO' => has_spec (hO := hO')) ?_
  rintro _ _ w ⟨rfl, rfl⟩ hO
  simp only [List.cons_append, List.nil_append] at hO
  refine l_y rfl rfl (y_not rfl rfl) ?_
  refine l_y rfl rfl (y_assign rfl) ?_
  refine K2 (K3 ?_)
  refine c_split rfl (fun hc11 => ?_) (fun hc11 => ?_)
  · simp only [Bool.not_eq_true', Bool.not_eq_false'] at hc11
    refine K0 (K1 ?_)
    refine s_build (parts := []) (cs := [.int .i64 0, .int .i64 0, .string ⟨#[]⟩, .slice none 0 0, .string ⟨#[]⟩, .string ⟨#[]⟩, .int .i64 0, .int .i64 0, .int .i64 0, .int .i64 0, .int .i64 0, .int .i64 0]) rfl rfl (fun a ha => partsOf_sound ha _ _ rfl) (by kernel_rfl) ?_
    refine Y3 hO rfl rfl (fun w hO => ?_)
    refine l_y rfl rfl (y_assign rfl) ?_
    refine K2 (K3 (K6 (L0 (K9 ?_))))
    exact finC1 hO rfl rfl rfl ⟨_, .inl ⟨hc11, rfl, rfl⟩, (arenaL_shut (hO.ks [.s, .b a, .p p])).one⟩
  · simp only [Bool.not_eq_true', Bool.not_eq_false'] at hc11
    refine K5 (K8 (K3 (K0 ?_)))
    have hid := hasB_true hc11
    have hli := ha id.toNat (by omega)
    refine K1 ?_
    refine l_y rfl rfl (y_move rfl) ?_
    refine l_y rfl rfl (y_nilCheck rfl rfl) ?_
    refine l_y rfl rfl (y_fldb (o' := 0) rfl) ?_
    refine l_y rfl rfl (D5 hO rfl) ?_
    refine l_y rfl rfl (y_move rfl) ?_
    refine l_y rfl rfl (y_idx rfl rfl) ?_
    refine l_y rfl rfl (y_fld (j' := 0) rfl) ?_
    refine l_y rfl rfl (y_eA (x0 := 0) (cs := [.int .i64 (at_ A (id : Int).toNat).Node.Kind, .int .i64 (at_ A (id : Int).toNat).Node.Space, .string (at_ A (id : Int).toNat).Node.Name, .slice (at_ A (id : Int).toNat).Node.AttrsP (at_ A (id : Int).toNat).Node.Attrs.length (at_ A (id : Int).toNat).Node.AttrsC, .string (at_ A (id : Int).toNat).Node.Data, .string (at_ A (id : Int).toNat).Node.System, .int .i64 (at_ A (id : Int).toNat).Node.Parent, .int .i64 (at_ A (id : Int).toNat).Node.First, .int .i64 (at_ A (id : Int).toNat).Node.Last, .int .i64 (at_ A (id : Int).toNat).Node.Prev, .int .i64 (at_ A (id : Int).toNat).Node.Next, .int .i64 (at_ A (id : Int).toNat).Node.Inner]) hO rfl) ?_
    refine s_alloc (vs := [.int .i64 0, .int .i64 0, .string ⟨#[]⟩, .slice none 0 0, .string ⟨#[]⟩, .string ⟨#[]⟩, .int .i64 0, .int .i64 0, .int .i64 0, .int .i64 0, .int .i64 0, .int .i64 0]) hO rfl rfl rfl fun b6 w hO => ?_
    refine Y3 hO rfl rfl (fun w hO => ?_)
    refine K2 (K3 (K0 ?_))
    have hO := arena_pick (i := id.toNat) (by omega) (hO.ks [.s, .b a, .p p])
    refine K1 ?_
    refine l_y rfl rfl (y_fldb (o' := 3) rfl) ?_
    refine l_y rfl rfl (D5 hO rfl) ?_
    refine CK [] hO rfl (fun k' hx hr hO' => own_spec (sls_roK hr (sls_fct (p := (at_ A id.toNat).Node.AttrsP) hO)) (by omega) (hO := hO')) ?_
    rintro _ _ w ⟨q, rfl, rfl⟩ hO
    refine l_y rfl rfl (y_fldb (o' := 3) rfl) ?_
    refine Y1 hO rfl rfl (fun w hO => ?_)
    simp only [List.set_cons_zero, List.set_cons_succ] at hO
    refine K2 (K3 (K0 (K1 ?_)))
    refine l_y rfl rfl (D8 (cs := [.int .i64 (at_ A (id : Int).toNat).Node.Kind, .int .i64 (at_ A (id : Int).toNat).Node.Space, .string (at_ A (id : Int).toNat).Node.Name, .slice (some ⟨q, 0, none⟩) (at_ A id.toNat).Node.Attrs.length (at_ A id.toNat).Node.Attrs.length, .string (at_ A (id : Int).toNat).Node.Data, .string (at_ A (id : Int).toNat).Node.System, .int .i64 (at_ A (id : Int).toNat).Node.Parent, .int .i64 (at_ A (id : Int).toNat).Node.First, .int .i64 (at_ A (id : Int).toNat).Node.Last, .int .i64 (at_ A (id : Int).toNat).Node.Prev, .int .i64 (at_ A (id : Int).toNat).Node.Next, .int .i64 (at_ A (id : Int).toNat).Node.Inner]) hO rfl) ?_
    refine Y3 hO rfl rfl (fun w hO => ?_)
    refine l_y rfl rfl (y_assign rfl) ?_
    refine K2 (K3 (K6 ?_))
    have hO2 := arena_put (y := at_ A id.toNat) (by omega) (hO.ks [.p (at_ A id.toNat).Node.AttrsP, .s])
    rw [set_at (by omega)] at hO2
    exact finC1 hO rfl rfl rfl ⟨_, .inr ⟨hc11, some ⟨q, 0, none⟩, _, rfl, rfl⟩, ((arenaL_shut (hO2.ks [.s, .b a, .p p])).ks [.o a, .p (some ⟨q, 0, none⟩)]).two⟩
/-- the children from one on -/
def Chain (A : List Node_one) : Int → List Int → Prop
  | c, [] => c = -1
  | c, x :: xs => c = x ∧ x ≠ -1 ∧ hasB A x = true ∧ Chain A (at_ A x.toNat).Node.Next xs
abbrev itF (a : Nat) (p : Option Addr) (c : Nat) (A : List Node_one) (b2 b3 : Nat) (id : Int) : List HP := [arB a p A.length c, arS p c A, blk b2 22 [.pointer (some ⟨a, 0, none⟩)], blk b3 3 [.int .i64 id]]
theorem children_spec {k : Ctx} {w : World} {a : Nat} {id : Int} (hO : Own k w []) :
    Tri Tryz.prog 84 #[.pointer (some ⟨a, 0, none⟩), .int .i64 id] k w fun v m => ∃ b2 b3, v = .func (.func 143) #[] #[.pointer (some ⟨b2, 0, none⟩), .pointer (some ⟨b3, 0, none⟩)] ∧ m = [blk b2 22 [.pointer (some ⟨a, 0, none⟩)], blk b3 3 [.int .i64 id]] := by
  refine enter (args := [.pointer (some ⟨a, 0, none⟩), .int .i64 id]) Tryz.func84 rfl rfl ?_
  refine K0 (K1 ?_)
  refine s_box (vs := [.pointer (some ⟨a, 0, none⟩)]) hO rfl rfl rfl (by rfl) fun b2 w hO => ?_
  refine s_box (vs := [.int .i64 id]) hO rfl rfl rfl (by rfl) fun b3 w hO => ?_
  refine l_y rfl rfl (y_assign rfl) ?_
  refine K2 (K3 (K0 (K1 ?_)))
  refine l_y rfl rfl (y_makeFunc rfl rfl) ?_
  refine l_y rfl rfl (y_assign rfl) ?_
  refine K2 (K3 (K6 ?_))
  exact fin1 rfl rfl ⟨_, ⟨b2, b3, rfl, rfl⟩, hO.only [.b b2, .b b3]⟩
end Go.Proofs.YtpejdlfkaaiehaaGreatDoor
end
section
set_option linter.unusedVariables false
set_option linter.unusedSimpArgs false
set_option maxRecDepth 100000
namespace Go.Proofs.YtpejdlfkaaiehaaGreatDoor
open Go Go.Hb Go.RowKit
theorem lift2 {f : FuncId} {args : Array Value} {R : Value → Prop} {k : Ctx} {w : World} {a : Nat} {A A' : List Node_one} (hO : Own k w [arenaL a A]) (hl : A'.length = A.length) (ht : A'.map attrsP = A.map attrsP)
    (h : ∀ k' p c, Gs p A.length → Own k' w [arB a p A.length c, arS p c A] → Tri Tryz.prog f args k' w fun v m => R v ∧ m = [arB a p A.length c, arS p c A']) :
    Tri Tryz.prog f args k w fun v m => R v ∧ m = [arenaL a A'] := by
  obtain ⟨p, c, hg, hO⟩ := arenaL_open hO
  refine Ret.mono (Ret.framed hO (.cons (.hd _ _) (.cons (.hd _ _) (.nil _))) fun k' _ _ hO' => h k' p c hg hO') ?_
  rintro v w' ⟨m, ⟨hv, rfl⟩, hO⟩
  have hO : Own k w' [arB a p A.length c, arS p c A', sep (A.map attrsP)] := hO
  refine ⟨_, ⟨hv, rfl⟩, (arenaL_shut (hO.ks [.s, .b a, .p p]) ht.symm hl.symm).one⟩
theorem LenC_spec {k : Ctx} {w : World} {a : Nat} {A : List Node_one} (hn : 0 < A.length) (hO : Own k w [arenaL a A]) :
    Tri Tryz.prog 21 #[.pointer (some ⟨a, 0, none⟩)] k w fun v m => v = .int .i64 (A.length : Int) ∧ m = [arenaL a A] := lift2 hO rfl rfl fun k' p c hg hO => Len_spec hn hO
theorem setLinks_len {A : List Node_one} {id up p n : Int} : (setLinks A id up p n).length = A.length := by simp [setLinks]
theorem setLinks_attrs {A : List Node_one} {id up p n : Int} : (setLinks A id up p n).map attrsP = A.map attrsP := attrs_set rfl
theorem linkL_len {A : List Node_one} {up id before : Int} : (linkL A up id before).2.length = A.length := by unfold linkL; (repeat' split) <;> simp only [joinL_len, setLinks_len]
theorem linkL_attrs {A : List Node_one} {up id before : Int} : (linkL A up id before).2.map attrsP = A.map attrsP := by unfold linkL; (repeat' split) <;> simp only [joinL_attrs, setLinks_attrs]
theorem unlinkL_len {A : List Node_one} {id : Int} : (unlinkL A id).2.length = A.length := by unfold unlinkL; (repeat' split) <;> simp only [joinL_len, setLinks_len]
theorem unlinkL_attrs {A : List Node_one} {id : Int} : (unlinkL A id).2.map attrsP = A.map attrsP := by unfold unlinkL; (repeat' split) <;> simp only [joinL_attrs, setLinks_attrs]
theorem LinkC_spec {k : Ctx} {w : World} {a : Nat} {A : List Node_one} {up id before : Int} (hn : 0 < A.length) (hrk : Ranked A) (hL : LinksOk A) (hO : Own k w [arenaL a A]) :
    Tri Tryz.prog 12 #[.pointer (some ⟨a, 0, none⟩), .int .i64 up, .int .i64 id, .int .i64 before] k w fun v m => v = .int .i64 (linkL A up id before).1 ∧ m = [arenaL a (linkL A up id before).2] := lift2 hO linkL_len linkL_attrs fun k' p c hg hO => Link_spec hn hg hrk hL hO
theorem UnlinkC_spec {k : Ctx} {w : World} {a : Nat} {A : List Node_one} {id : Int} (hn : 0 < A.length) (hL : LinksOk A) (hO : Own k w [arenaL a A]) :
    Tri Tryz.prog 192 #[.pointer (some ⟨a, 0, none⟩), .int .i64 id] k w fun v m => v = .int .i64 (unlinkL A id).1 ∧ m = [arenaL a (unlinkL A id).2] := lift2 hO unlinkL_len unlinkL_attrs fun k' p c hg hO => Unlink_spec hn hg hL hO
end Go.Proofs.YtpejdlfkaaiehaaGreatDoor
end
section
set_option linter.unusedVariables false
set_option linter.unusedSimpArgs false
set_option maxRecDepth 100000
namespace Go.Proofs.YtpejdlfkaaiehaaGreatDoor
open Go Go.Hb Go.RowKit
abbrev docD : Node_one := blankN documentN
end Go.Proofs.YtpejdlfkaaiehaaGreatDoor
end
section
set_option linter.unusedVariables false
set_option linter.unusedSimpArgs false
set_option maxRecDepth 100000
namespace Go.Proofs.YtpejdlfkaaiehaaGreatDoor
open Go Go.Hb Go.RowKit
instance : DecidableEq Api_attr := fun a b => decidable_of_iff (a.Space = b.Space ∧ a.Prefix = b.Prefix ∧ a.Name = b.Name ∧ a.Value = b.Value) ⟨fun ⟨h1, h2, h3, h4⟩ => Api_attr.ext h1 h2 h3 h4, fun h => by subst h; exact ⟨rfl, rfl, rfl, rfl⟩⟩
instance : EqT Tryz.prog 81 Api_attr.cells := ⟨by kernel_rfl, fun x y w => by
  have u3 := Tryz.underlying3
  have u9 := Tryz.underlying9
  have hS : Tryz.prog.underlying 81 = some (.struct (Tryz.prog.fieldsOf 81)) := by kernel_rfl
  have hp : Tryz.prog.stoodInHeld 81 = false := by kernel_rfl
  rw [show (10000 : Nat) = 9999 + 1 from rfl, run_equalIn_agg w 9999 81 _ _ hS hp]
  simp only [Program.fieldsOf, Tryz.underlying81, Api_attr.cells]
  go_simp
  simp only [ba_inj]
  have e : (x = y) ↔ x.Space = y.Space ∧ x.Prefix = y.Prefix ∧ x.Name = y.Name ∧ x.Value = y.Value := Api_attr.ext_iff
  by_cases h1 : x.Space = y.Space <;> by_cases h2 : x.Prefix = y.Prefix <;> by_cases h3 : x.Name = y.Name <;> by_cases h4 : x.Value = y.Value <;> simp [e, h1, h2, h3, h4]⟩
def pS : ByteArray := ⟨#[112]⟩
end Go.Proofs.YtpejdlfkaaiehaaGreatDoor
end
section
set_option linter.unusedVariables false
set_option linter.unusedSimpArgs false
set_option maxRecDepth 100000
namespace Go.Proofs.YtpejdlfkaaiehaaGreatDoor
open Go Go.Hb Go.RowKit
theorem chain_cons {A : List Node_one} {c : Int} {l : List Int} (h : Chain A c l) (hc : ¬ c = -1) : ∃ s, l = c :: s ∧ hasB A c = true ∧ Chain A (at_ A c.toNat).Node.Next s := by
  cases l with
  | nil => exact absurd h hc
  | cons x s =>
    obtain ⟨rfl, _, hh, hs⟩ := h
    exact ⟨s, rfl, hh, hs⟩
theorem chain_nil {A : List Node_one} {c : Int} {l : List Int} (h : Chain A c l) (hc : c = -1) : l = [] := by
  cases l with
  | nil => rfl
  | cons x s => obtain ⟨rfl, h1, _⟩ := h; exact absurd hc h1
theorem iter_spec {k : Ctx} {w : World} {a b2 b3 L D : Nat} {A : List Node_one} {p : Option Addr} {c : Nat} {id : Int} {xs : List Int} {M0 : List HP} {B : List Int → List HP → Prop} {stop : Code → List HP → Prop} {fn : FuncId} {tmps : Array Value} {ps : Array Tmp} {assign body : Code}
    (hg : Gs p A.length) (hid : hasB A id = true) (hch : Chain A (at_ A id.toNat).Node.First xs) (hps : ps.size = 1) (hB : B [] M0) (hO : Own k w (obj L (loopO .ready none fn tmps ps assign body D) :: (itF a p c A b2 b3 id ++ M0)))
    (hround : ∀ pre x suf M w, xs = pre ++ x :: suf → B pre M → Own k w (obj L (loopO .ready none fn tmps ps assign body D) :: (itF a p c A b2 b3 id ++ M)) →
      RoundIn Fence.wide 0 Tryz.prog L fn ((ps.zip #[.int .i64 x]).foldl (fun tmps (t, a) => tmps.setIfInBounds t a) tmps) assign body w (RP k L fn tmps ps assign body D (fun M' => ∃ M, B (pre ++ [x]) M ∧ M' = itF a p c A b2 b3 id ++ M) stop)) :
    Ret Tryz.prog 143 #[.func (.yield L) #[] #[], .pointer (some ⟨b2, 0, none⟩), .pointer (some ⟨b3, 0, none⟩)] w fun _ w2 =>
      (∃ M, (∃ M', B xs M' ∧ M = itF a p c A b2 b3 id ++ M') ∧ Own k w2 (obj L (loopO .ready none fn tmps ps assign body D) :: M)) ∨ (∃ c M, stop c M ∧ Own k w2 (obj L (loopO .done (some c) fn tmps ps assign body D) :: M)) := by
  refine enter (args := [.func (.yield L) #[] #[], .pointer (some ⟨b2, 0, none⟩), .pointer (some ⟨b3, 0, none⟩)]) Tryz.func143 rfl rfl ?_
  have hid2 := hasB_true hid
  simp only [List.cons_append, List.nil_append] at hO
  refine K0 ?_
  refine da_region (by intro c a d v w h; cases d <;> exact h) ?_
  have hO := hO.drew
  refine da_phase _ [] (SO.ks [.b b2, .b a, .b b3, .p p] hO) ?_
  refine dx_y 0 (by kernel_rfl) rfl rfl rfl (fun w ⟨m, hw⟩ => D5 hw rfl) ?_
  refine dx_u 1 (by kernel_rfl) rfl rfl rfl (fun w => y_nilCheck rfl rfl) ?_
  refine dx_u 2 (by kernel_rfl) rfl rfl rfl (fun w => y_fldb (o' := 0) rfl) ?_
  refine dx_y 3 (by kernel_rfl) rfl rfl rfl (fun w ⟨m, hw⟩ => D5 hw rfl) ?_
  refine dx_y 4 (by kernel_rfl) rfl rfl rfl (fun w ⟨m, hw⟩ => D5 hw rfl) ?_
  refine dx_u 5 (by kernel_rfl) rfl rfl rfl (fun w => y_idx rfl rfl) ?_
  refine dx_u 6 (by kernel_rfl) rfl rfl rfl (fun w => y_fld (j' := 0) rfl) ?_
  refine dx_u 7 (by kernel_rfl) rfl rfl rfl (fun w => y_fld (j' := 7) rfl) ?_
  refine dx_y 8 (by kernel_rfl) rfl rfl rfl (fun w ⟨m, hw⟩ => y_e1 (x0 := 7) hw rfl) ?_
  refine dx_u 9 (by kernel_rfl) rfl rfl rfl (fun w => y_assign rfl) ?_
  refine dx_end (by kernel_rfl) ?_
  refine K3 (K4 ?_)
  refine c_rounds (X := Int × List Int × List Int × List HP) (fun x => [(0, .func (.yield L) #[] #[]), (1, .pointer (some ⟨b2, 0, none⟩)), (4, .int .i64 x.1)]) (fun x w => Own k w (obj L (loopO .ready none fn tmps ps assign body D) :: arB a p A.length c :: arS p c A :: blk b2 22 [.pointer (some ⟨a, 0, none⟩)] :: blk b3 3 [.int .i64 id] :: x.2.2.2) ∧ (xs = x.2.1 ++ x.2.2.1) ∧ (Chain A x.1 x.2.2.1) ∧ (B x.2.1 x.2.2.2)) (fun x => x.2.2.1.length) ((_, [], xs, M0)) ⟨rfl, rfl, rfl, trivial⟩ ⟨hO, rfl, hch, hB⟩ ?_
  rintro x w m hm ⟨hO, hx, hc, hb⟩
  refine K0 (K0 ?_)
  refine x_region ?_
  refine x_y rfl rfl (y_move rfl) ?_
  refine x_y rfl rfl (y_cmpI rfl rfl rfl) ?_
  refine x_y rfl rfl (y_move rfl) ?_
  refine x_split 16 rfl (fun hg16 => ?_) (fun hg16 => ?_)
  · have h1_1 := ndt hg16
    refine x_y rfl rfl (y_move rfl) ?_
    refine x_y rfl rfl (y_move rfl) ?_
    obtain ⟨s, hs, hh, hch2⟩ := chain_cons hc h1_1
    have hh2 := hasB_true hh
    refine x_yield hO rfl rfl (by simp [hps]) (hround x.2.1 x.1 s x.2.2.2 w (by rw [hx, hs]) hb hO) (fun w M2 hM hO => ?_) (fun w c2 M2 hM hO => ?_)
    · obtain ⟨M3, hb2, rfl⟩ := hM
      simp only [List.cons_append, List.nil_append] at hO
      refine x_y rfl rfl (y_pick_t rfl rfl) ?_
      refine x_nil (K3 (L8 (K5 (K3 (K0 (K4 (K5 (K8 (K3 (K1 ?_))))))))))
      refine l_y rfl rfl (D5 hO rfl) ?_
      refine l_y rfl rfl (y_nilCheck rfl rfl) ?_
      refine l_y rfl rfl (y_fldb (o' := 0) rfl) ?_
      refine l_y rfl rfl (D5 hO rfl) ?_
      refine l_y rfl rfl (y_move rfl) ?_
      refine l_y rfl rfl (y_idx rfl rfl) ?_
      refine l_y rfl rfl (y_fld (j' := 0) rfl) ?_
      refine l_y rfl rfl (y_fld (j' := 10) rfl) ?_
      refine l_y rfl rfl (y_e1 (x0 := 10) hO rfl) ?_
      refine l_y rfl rfl (y_assign rfl) ?_
      refine K2 ?_
      have hO : Own k w (obj L (loopO .ready none fn tmps ps assign body D) :: arB a p A.length c :: arS p c A :: blk b2 22 [.pointer (some ⟨a, 0, none⟩)] :: blk b3 3 [.int .i64 id] :: M3) := hO
      exact q_next (((at_ A (x.1 : Int).toNat).Node.Next, x.2.1 ++ [x.1], s, M3)) ⟨rfl, rfl, rfl, trivial⟩ ⟨hO, by dsimp only; simp [hx, hs], hch2, hb2⟩ (by dsimp only; rw [hs] at hm; simp at hm; omega)
    · refine x_y rfl rfl (y_pick_t rfl rfl) ?_
      refine x_nil (K3 (L9 (K7 (L1 (L1 (L2 ?_))))))
      exact fin0 rfl (.inr ⟨_, _, hM, hO⟩)
  · have h1_1 := ndf hg16
    refine x_pass rfl rfl ?_
    refine x_pass rfl rfl ?_
    refine x_pass rfl rfl ?_
    refine x_y rfl rfl (y_pick_f rfl rfl) ?_
    refine x_nil (K3 (L9 (K7 (L1 (L1 (L2 ?_))))))
    have he := chain_nil hc h1_1
    exact fin0 rfl (.inl ⟨_, ⟨x.2.2.2, by rw [hx, he, List.append_nil]; exact hb, rfl⟩, hO⟩)
abbrev kidB (b5 : Nat) (A : List Node_one) (D : Nat) (pre : List Int) (M : List HP) : Prop := ∃ q d, M = [blk b5 33 [.slice q pre.length d], sls q d 3 1 (eI .i64) pre, sep (A.map attrsP), obj D (.deferred (some []))]
set_option maxHeartbeats 1000000 in
theorem Kids_spec {k : Ctx} {w : World} {a : Nat} {A : List Node_one} {id : Int} {xs : List Int} (hn : 0 < A.length) (hxl : xs.length ≤ 1000000) (hch : hasB A id = true → Chain A (at_ A id.toNat).Node.First xs) (hO : Own k w [arenaL a A]) :
    Tri Tryz.prog 40 #[.pointer (some ⟨a, 0, none⟩), .int .i64 id] k w fun v m =>
      (hasB A id = false ∧ v = .slice none 0 0 ∧ m = [arenaL a A]) ∨ (hasB A id = true ∧ ∃ q d, v = .slice q xs.length d ∧ m = [arenaL a A, sls q d 3 1 (eI .i64) xs]) := by
  refine enterM (args := [.pointer (some ⟨a, 0, none⟩), .int .i64 id]) Tryz.func40 rfl rfl ?_
  obtain ⟨p, c, hg, hO⟩ := arenaL_open hO
  refine K0 (K1 ?_)
  refine l_y rfl rfl (y_assign rfl) ?_
  refine K2 (K3 (K0 (K0 (K1 ?_))))
  refine l_y rfl rfl (y_move rfl) ?_
  refine CK [.b a, .p p] hO rfl (fun k' hx hr hO' => none_spec (hO := hO')) ?_
  rintro _ _ w ⟨rfl, rfl⟩ hO
  simp only [List.cons_append, List.nil_append] at hO
  refine l_y rfl rfl (y_move rfl) ?_
  refine l_y rfl rfl (y_move rfl) ?_
  refine l_y rfl rfl (y_move rfl) ?_
  refine CK [.b a, .p p] hO rfl (fun k' hx hr hO' => has_spec (hO := hO')) ?_
  rintro _ _ w ⟨rfl, rfl⟩ hO
  simp only [List.cons_append, List.nil_append] at hO
  refine l_y rfl rfl (y_not rfl rfl) ?_
  refine l_y rfl rfl (y_pick_f rfl rfl) ?_
  refine K2 (K3 ?_)
  refine c_split rfl (fun hc14 => ?_) (fun hc14 => ?_)
  · simp only [Bool.not_eq_true', Bool.not_eq_false'] at hc14
    refine K0 (K1 ?_)
    refine l_y rfl rfl (y_assign rfl) ?_
    refine K2 (K3 (K6 (K9 ?_)))
    refine finM0 (R := fun _ _ => True) ?_
    exact fin1 rfl rfl ⟨_, .inl ⟨by first | exact hc14 | exact hg12, rfl, rfl⟩, (arenaL_shut (hO.ks [.s, .b a, .p p])).one⟩
  · simp only [Bool.not_eq_true', Bool.not_eq_false'] at hc14
    refine K5 (K3 (K0 (K1 ?_)))
    refine s_alloc (vs := [.slice none 0 0]) hO rfl rfl rfl fun b5 w hO => ?_
    refine K2 (K3 (K0 (K0 ?_)))
    have hid := hc14
    have hO : Own k w (sls none 0 3 1 (eI .i64) ([] : List Int) :: _) := sl_nil 3 1 hO
    refine K1 ?_
    refine l_y rfl rfl (y_move rfl) ?_
    refine l_y rfl rfl (y_move rfl) ?_
    refine CK [] hO rfl (fun k' hx hr hO' => children_spec (hO := hO')) ?_
    rintro _ _ w ⟨b2, b3, rfl, rfl⟩ hO
    simp only [List.cons_append, List.nil_append] at hO
    refine K2 (K3 (K4 ?_))
    refine c_range (gf := 143) (lb := [.pointer (some ⟨b2, 0, none⟩), .pointer (some ⟨b3, 0, none⟩)]) (done := fun M => ∃ q d, M = itF a p c A b2 b3 id ++ [blk b5 33 [.slice q xs.length d], sls q d 3 1 (eI .i64) xs, sep (A.map attrsP)]) (stop := fun _ _ => False) hO rfl (fun fn tmps L D w hF hO => ?_) (fun D w M hM hO => ?_) (fun D w c M hM hO => ?_)
    · have hO2 : Own k w (obj L (loopO .ready none fn tmps _ _ _ D) :: (itF a p c A b2 b3 id ++ [blk b5 33 [.slice none ([] : List Int).length 0], sls none 0 3 1 (eI .i64) [], sep (A.map attrsP), obj D (.deferred (some []))])) := hO.ks [.o L, .b a, .p p, .b b2, .b b3, .b b5, .p none, .s, .o D]
      refine Ret.mono (iter_spec (B := kidB b5 A D) (stop := fun _ _ => False) hg hid (hch hid) rfl ⟨none, 0, rfl⟩ hO2 ?_) (fun v w2 h => ?_)
      rotate_left
      · rcases h with ⟨M, ⟨M', ⟨q, d, rfl⟩, rfl⟩, hO⟩ | ⟨_, _, h, _⟩
        · exact .inl ⟨_, ⟨q, d, rfl⟩, hO.ks [.o L, .o D]⟩
        · exact h.elim
      rintro pre x suf _ w hxs ⟨q, d, rfl⟩ hO
      have hpl : pre.length < xs.length := by rw [hxs]; simp
      simp only [List.cons_append, List.nil_append] at hO
      refine round_ok (n := Tryz.f40.ntmps) (E := [(5, .pointer (some ⟨b5, 0, none⟩)), (18, .int .i64 x)]) ?_ hO ?_
      · have e1 : (#[18].zip #[Value.int .i64 x]).foldl (fun tmps (t, a) => tmps.setIfInBounds t a) tmps = tmps.setIfInBounds 18 (.int .i64 x) := by simp
        rw [e1]
        exact (hF.put (d := some 18) rfl (.int .i64 x)).weaken (E' := [(5, .pointer (some ⟨b5, 0, none⟩)), (18, .int .i64 x)]) ⟨rfl, rfl, trivial⟩
      · refine CR1 ?_
        refine l_y rfl rfl (y_assign rfl) ?_
        refine K2 ?_
        refine q_assign hO (fun w hO => ?_)
        refine CR4 (CR1 ?_)
        refine l_y rfl rfl (D5 hO rfl) ?_
        refine l_y rfl rfl (y_move rfl) ?_
        refine s_lit (parts := [(0, .tmp 20)]) (enc := (eI .i64)) [x] [.int .i64 x] hO rfl (fun b21 w hO => ?_)
        refine s_app hO rfl rfl (src_own hO) (fun p22 c22 w hO gs22 => ?_)
        refine Y1 hO rfl rfl (fun w hO => ?_)
        simp only [List.set_cons_zero, List.set_cons_succ] at hO
        refine K2 (K8 ?_)
        exact q_bodyend ⟨_, ⟨_, _, rfl⟩, rfl⟩ (hO.only [.o L, .b a, .p p, .b b2, .b b3, .b b5, .p p22, .s, .o D])
    · obtain ⟨q, d, rfl⟩ := hM
      simp only [List.cons_append, List.nil_append] at hO
      refine K8 (K3 (K0 (K1 ?_)))
      refine l_y rfl rfl (D5 hO rfl) ?_
      refine l_y rfl rfl (y_assign rfl) ?_
      refine K2 (K3 (K6 ?_))
      refine finM hO (fun w hO => ?_)
      exact fin1 rfl rfl ⟨_, .inr ⟨hid, q, d, rfl, rfl⟩, ((arenaL_shut (hO.ks [.s, .b a, .p p])).ks [.o a, .p q]).two⟩
    · exact hM.elim
end Go.Proofs.YtpejdlfkaaiehaaGreatDoor
end
section
set_option linter.unusedVariables false
set_option linter.unusedSimpArgs false
set_option maxRecDepth 100000
namespace Go.Proofs.YtpejdlfkaaiehaaGreatDoor
open Go Go.Hb Go.RowKit
def NV (A : List Node_one) (id : Int) (n : Api_node) : Prop := (hasB A id = false ∧ n = default) ∨ (hasB A id = true ∧ ∃ q d, n = ownN (at_ A id.toNat).Node q d)
def errN (A : List Node_one) (id : Int) : Int := if hasB A id = true then 0 else 6
theorem NodeU_spec {k : Ctx} {w : World} {a : Nat} {A : List Node_one} {id : Int} (hn : 0 < A.length) (ha : AttrsOk A) (hO : Own k w [arenaL a A]) :
    Tri Tryz.prog 10 #[.pointer (some ⟨a, 0, none⟩), .int .i64 id] k w fun v m => ∃ n, NV A id n ∧ v = .tuple #[.agg (Api_node.cells n).toArray, .int .i64 (errN A id)] ∧ m = [arenaL a A, sls n.AttrsP n.AttrsC 81 4 Api_attr.cells n.Attrs] := by
  refine Ret.mono (Node_spec hn ha hO) ?_
  rintro v w' ⟨m, (⟨h, rfl, rfl⟩ | ⟨h, q, d, rfl, rfl⟩), hO⟩
  · refine ⟨_, ⟨default, .inl ⟨h, rfl⟩, by rw [errN, h]; rfl, rfl⟩, ?_⟩
    exact (sl_nil 81 4 hO).swap
  · exact ⟨_, ⟨_, .inr ⟨h, q, d, rfl⟩, by rw [errN, h]; rfl, rfl⟩, hO⟩
theorem NodeD_spec {k : Ctx} {w : World} {a : Nat} {A : List Node_one} {id : Int} (hn : 0 < A.length) (ha : AttrsOk A) (hO : Own k w [arenaL a A]) :
    Tri Tryz.prog 10 #[.pointer (some ⟨a, 0, none⟩), .int .i64 id] k w fun v m => ∃ n, NV A id n ∧ v = .tuple #[.agg (Api_node.cells n).toArray, .int .i64 (errN A id)] ∧ m = [arenaL a A] := by
  refine Ret.mono (NodeU_spec hn ha hO) ?_
  rintro v w' ⟨m, ⟨n, h, rfl, rfl⟩, hO⟩
  exact ⟨_, ⟨n, h, rfl, rfl⟩, hO.swap.drop⟩
def elB (A : List Node_one) (id : Int) : Bool := hasB A id && decide ((at_ A id.toNat).Node.Kind = 1)
theorem elB_has {A : List Node_one} {id : Int} (h : elB A id = true) : hasB A id = true := by rw [elB, Bool.and_eq_true] at h; exact h.1
theorem NV.el {A : List Node_one} {id : Int} {n : Api_node} (h : NV A id n) : elB A id = (decide (errN A id = 0) && decide (n.Kind = 1)) := by
  rcases h with ⟨h, rfl⟩ | ⟨h, q, d, rfl⟩
  · simp [elB, errN, h]
  · rw [elB, errN, h]; rfl
theorem NV.kind {A : List Node_one} {id : Int} {n : Api_node} (h : NV A id n) (hb : hasB A id = true) : n.Kind = (at_ A id.toNat).Node.Kind := by
  rcases h with ⟨h, _⟩ | ⟨_, q, d, rfl⟩
  · rw [hb] at h; cases h
  · rfl
theorem NV.space {A : List Node_one} {id : Int} {n : Api_node} (h : NV A id n) (hb : hasB A id = true) : n.Space = (at_ A id.toNat).Node.Space := by
  rcases h with ⟨h, _⟩ | ⟨_, q, d, rfl⟩
  · rw [hb] at h; cases h
  · rfl
theorem NV.name {A : List Node_one} {id : Int} {n : Api_node} (h : NV A id n) (hb : hasB A id = true) : n.Name = (at_ A id.toNat).Node.Name := by
  rcases h with ⟨h, _⟩ | ⟨_, q, d, rfl⟩
  · rw [hb] at h; cases h
  · rfl
abbrev sB (s a : Nat) (p : Option Addr) (n c : Nat) : HP := blk s 100 [.pointer (some ⟨a, 0, none⟩), .slice p n c]
abbrev sI (p : Option Addr) (c : Nat) (l : List Int) : HP := sls p c 3 1 (eI .i64) l
def stkL (s a : Nat) (l : List Int) : HP := fun h => ∃ x : Option Addr × Nat, sep [sB s a x.1 l.length x.2, sI x.1 x.2 l] h
theorem stkL_open {k : Ctx} {w : World} {L : List HP} {s a : Nat} {l : List Int} (hO : Own k w (stkL s a l :: L)) : ∃ p c, Gs p l.length ∧ l.length ≤ c ∧ Own k w (sB s a p l.length c :: sI p c l :: L) := by
  obtain ⟨⟨p, c⟩, hO⟩ := Own.ex (A := fun (x : Option Addr × Nat) => sep [sB s a x.1 l.length x.2, sI x.1 x.2 l]) hO
  have hO := Own.open hO
  simp only [List.cons_append, List.nil_append] at hO
  exact ⟨p, c, (sls_fct (p := p) hO).2, (sls_fct (p := p) hO).1, hO⟩
theorem stkL_shut {k : Ctx} {w : World} {L : List HP} {s a n : Nat} {l : List Int} {p : Option Addr} {c : Nat} (hO : Own k w (sB s a p n c :: sI p c l :: L)) (hn : n = l.length := by first | rfl | simp) : Own k w (stkL s a l :: L) := by
  subst hn
  exact (Own.shut (l := [sB s a p l.length c, sI p c l]) hO).tell fun h hA => ⟨(p, c), hA⟩
instance (priority := high) AtK.hstk (s a : Nat) (l : List Int) (L : List HP) : AtK (stkL s a l :: L) (.o s) (stkL s a l) L := ⟨.hd _ L⟩
theorem snone_spec {k : Ctx} {w : World} {s a n c : Nat} {p : Option Addr} (hO : Own k w [sB s a p n c]) :
    Tri Tryz.prog 83 #[.pointer (some ⟨s, 0, none⟩)] k w fun v m => v = .bool false ∧ m = [sB s a p n c] := by
  refine enter (args := [.pointer (some ⟨s, 0, none⟩)]) Tryz.func83 rfl rfl ?_
  refine K0 (K1 ?_)
  refine l_y rfl rfl (y_assign rfl) ?_
  refine K2 (K3 (K0 (K1 ?_)))
  refine l_y rfl rfl (y_move rfl) ?_
  refine l_y rfl rfl (y_eqPnil rfl rfl rfl) ?_
  refine l_y rfl rfl (y_move rfl) ?_
  refine l_y rfl rfl (y_move rfl) ?_
  refine l_y rfl rfl (y_nilCheck rfl rfl) ?_
  refine l_y rfl rfl (y_fldb (o' := 0) rfl) ?_
  refine l_y rfl rfl (D5 hO rfl) ?_
  refine l_y rfl rfl (y_eqPnil rfl rfl rfl) ?_
  refine l_y rfl rfl (y_pick_f rfl rfl) ?_
  refine l_y rfl rfl (y_assign rfl) ?_
  refine K2 (K3 (K6 ?_))
  exact fin1 rfl rfl ⟨_, ⟨rfl, rfl⟩, hO⟩
theorem sLen_spec {k : Ctx} {w : World} {s a n c : Nat} {p : Option Addr} (hO : Own k w [sB s a p n c]) :
    Tri Tryz.prog 27 #[.pointer (some ⟨s, 0, none⟩)] k w fun v m => v = .int .i64 ((n : Nat) : Int) ∧ m = [sB s a p n c] := by
  refine enter (args := [.pointer (some ⟨s, 0, none⟩)]) Tryz.func27 rfl rfl ?_
  refine K0 (K1 ?_)
  refine l_y rfl rfl (y_assign rfl) ?_
  refine K2 (K3 (K0 (K0 (K1 ?_))))
  refine l_y rfl rfl (y_move rfl) ?_
  refine CK [.b s] hO rfl (fun k' hx hr hO' => snone_spec (hO := hO')) ?_
  rintro _ _ w ⟨rfl, rfl⟩ hO
  simp only [List.cons_append, List.nil_append] at hO
  refine K2 (K3 (L9 (K5 (K3 (K0 (K1 ?_))))))
  refine l_y rfl rfl (y_move rfl) ?_
  refine l_y rfl rfl (y_nilCheck rfl rfl) ?_
  refine l_y rfl rfl (y_fldb (o' := 1) rfl) ?_
  refine l_y rfl rfl (y_fldb (o' := 1) rfl) ?_
  refine l_y rfl rfl (D5 hO rfl) ?_
  refine l_y rfl rfl (y_lenL rfl) ?_
  refine l_y rfl rfl (y_assign rfl) ?_
  refine K2 (K3 (K6 ?_))
  exact fin1 rfl rfl ⟨_, ⟨rfl, rfl⟩, hO⟩
def atI (l : List Int) (i : Int) : Int := if i < 0 ∨ (l.length : Int) ≤ i then -1 else at_ l i.toNat
theorem sAt_spec {k : Ctx} {w : World} {s a c : Nat} {p : Option Addr} {l : List Int} {i : Int} (hg : Gs p l.length) (hO : Own k w [sB s a p l.length c, sI p c l]) :
    Tri Tryz.prog 28 #[.pointer (some ⟨s, 0, none⟩), .int .i64 i] k w fun v m => v = .int .i64 (atI l i) ∧ m = [sB s a p l.length c, sI p c l] := by
  refine enter (args := [.pointer (some ⟨s, 0, none⟩), .int .i64 i]) Tryz.func28 rfl rfl ?_
  refine K0 (K1 ?_)
  refine l_y rfl rfl (y_assign rfl) ?_
  refine K2 (K3 (K0 (K0 (K1 ?_))))
  refine l_y rfl rfl (y_move rfl) ?_
  refine Z0 (fun h1_1 => ?_) (fun h1_1 => ?_)
  · refine l_y rfl rfl (y_move rfl) ?_
    repeat refine M2 ?_
    refine l_y rfl rfl (y_pick_t rfl rfl) ?_
    refine K2 (K3 (L8 (K0 (K1 ?_))))
    refine l_y rfl rfl (y_assign rfl) ?_
    refine K2 (K3 (K6 (K9 ?_)))
    exact fin1 rfl rfl ⟨_, ⟨by rw [atI, if_pos (by omega)], rfl⟩, hO.only [.b s, .p p]⟩
  · refine l_y rfl rfl (y_move rfl) ?_
    refine l_y rfl rfl (y_move rfl) ?_
    refine l_y rfl rfl (y_move rfl) ?_
    refine CK [.b s] hO rfl (fun k' hx hr hO' => sLen_spec (hO := hO')) ?_
    rintro _ _ w ⟨rfl, rfl⟩ hO
    simp only [List.cons_append, List.nil_append] at hO
    refine Z0 (fun h1_6 => ?_) (fun h1_6 => ?_)
    · refine l_y rfl rfl (y_pick_f rfl rfl) ?_
      refine K2 (K3 (L8 (K0 (K1 ?_))))
      refine l_y rfl rfl (y_assign rfl) ?_
      refine K2 (K3 (K6 (K9 ?_)))
      exact fin1 rfl rfl ⟨_, ⟨by rw [atI, if_pos (by omega)], rfl⟩, hO.only [.b s, .p p]⟩
    · refine l_y rfl rfl (y_pick_f rfl rfl) ?_
      refine K2 (K3 (L9 (K5 (K3 (K0 (K1 ?_))))))
      refine l_y rfl rfl (y_move rfl) ?_
      refine l_y rfl rfl (y_nilCheck rfl rfl) ?_
      refine l_y rfl rfl (y_fldb (o' := 1) rfl) ?_
      refine l_y rfl rfl (y_fldb (o' := 1) rfl) ?_
      refine l_y rfl rfl (D5 hO rfl) ?_
      refine l_y rfl rfl (y_move rfl) ?_
      refine l_y rfl rfl (y_idx rfl rfl) ?_
      refine l_y rfl rfl (y_e1 (x0 := 0) hO rfl) ?_
      refine l_y rfl rfl (y_assign rfl) ?_
      refine K2 (K3 (K6 ?_))
      exact fin1 rfl rfl ⟨_, ⟨by rw [atI, if_neg (by omega)], rfl⟩, hO.only [.b s, .p p]⟩
def topI (l : List Int) : Int := atI l ((l.length : Int) - 1)
theorem sTop_spec {k : Ctx} {w : World} {s a c : Nat} {p : Option Addr} {l : List Int} (hg : Gs p l.length) (hl : l.length ≤ 1000000) (hO : Own k w [sB s a p l.length c, sI p c l]) :
    Tri Tryz.prog 72 #[.pointer (some ⟨s, 0, none⟩)] k w fun v m => v = .int .i64 (topI l) ∧ m = [sB s a p l.length c, sI p c l] := by
  refine enter (args := [.pointer (some ⟨s, 0, none⟩)]) Tryz.func72 rfl rfl ?_
  refine K0 (K1 ?_)
  refine l_y rfl rfl (y_assign rfl) ?_
  refine K2 (K3 (K0 (K1 ?_)))
  refine l_y rfl rfl (y_move rfl) ?_
  refine l_y rfl rfl (y_move rfl) ?_
  refine CK [.b s] hO rfl (fun k' hx hr hO' => sLen_spec (hO := hO')) ?_
  rintro _ _ w ⟨rfl, rfl⟩ hO
  simp only [List.cons_append, List.nil_append] at hO
  refine l_y rfl rfl (D4) ?_
  refine CK [.b s, .p p] hO rfl (fun k' hx hr hO' => sAt_spec hg (hO := hO')) ?_
  rintro _ _ w ⟨rfl, rfl⟩ hO
  simp only [List.cons_append, List.nil_append] at hO
  refine l_y rfl rfl (y_assign rfl) ?_
  refine K2 (K3 (K6 ?_))
  exact fin1 rfl rfl ⟨_, ⟨rfl, rfl⟩, hO⟩
def findI (l : List Int) (x : Int) : Int := idx (fun y => decide (y = x)) l
theorem srow_find_spec {k : Ctx} {w : World} {s a c : Nat} {p : Option Addr} {l : List Int} {x : Int} (hg : Gs p l.length) (hl : l.length ≤ 1000000) (hO : Own k w [sB s a p l.length c, sI p c l]) :
    Tri Tryz.prog 198 #[.pointer (some ⟨s, 1, none⟩), .int .i64 x] k w fun v m => v = .int .i64 (findI l x) ∧ m = [sB s a p l.length c, sI p c l] := by
  refine enter (args := [.pointer (some ⟨s, 1, none⟩), .int .i64 x]) Tryz.func198 rfl rfl ?_
  refine K0 (K1 ?_)
  refine l_y rfl rfl (y_assign rfl) ?_
  refine K2 (K3 (K0 (K0 (K1 ?_))))
  refine l_y rfl rfl (y_move rfl) ?_
  refine l_y rfl rfl (y_nilCheck rfl rfl) ?_
  refine l_y rfl rfl (y_fldb (o' := 1) rfl) ?_
  refine l_y rfl rfl (D5 hO rfl) ?_
  refine l_y rfl rfl (y_lenL rfl) ?_
  refine l_y rfl rfl (y_move rfl) ?_
  refine K2 (K3 (K4 ?_))
  refine c_rounds (X := Nat) (fun i => [(1, .int .i64 x), (4, .int .i64 0), (10, .slice p l.length c), (11, .int .i64 ((l.length : Nat) : Int)), (12, .int .i64 (i : Int))]) (fun i w => Own k w [sB s a p l.length c, sI p c l] ∧ (i ≤ l.length) ∧ (∀ j, j < i → decide (at_ l j = x) = false)) (fun i => l.length - i) (0) ⟨rfl, rfl, rfl, rfl, rfl, trivial⟩ ⟨hO.only [.b s, .p p], Nat.zero_le _, fun j hj => absurd hj (Nat.not_lt_zero j)⟩ ?_
  rintro i w m hm ⟨hO, hi, hn⟩
  refine K0 (K1 ?_)
  refine Z0 (fun h2_0 => ?_) (fun h2_0 => ?_)
  · refine K2 (K3 (K0 (L8 (K5 (K3 (K0 (K4 (K0 (K1 ?_)))))))))
    refine l_y rfl rfl (y_move rfl) ?_
    refine l_y rfl rfl (y_idx rfl rfl) ?_
    refine l_y rfl rfl (y_e1 (x0 := 0) hO rfl) ?_
    refine l_y rfl rfl (y_assign rfl) ?_
    refine l_y rfl rfl (y_assign rfl) ?_
    refine K2 (K3 (K0 (K1 ?_)))
    refine l_y rfl rfl (y_move rfl) ?_
    refine l_y rfl rfl (y_move rfl) ?_
    refine Z0 (fun h4_2 => ?_) (fun h4_2 => ?_)
    · refine K2 (K3 (L8 (K0 (K1 ?_))))
      refine l_y rfl rfl (y_move rfl) ?_
      refine l_y rfl rfl (y_assign rfl) ?_
      refine K2 (K3 (K6 (L0 (K9 (K9 (L0 (K9 ?_)))))))
      rw [show findI l x = i from idx_at (i := i) (by omega) (decide_eq_true h4_2.symm) hn]
      exact fin1 rfl rfl ⟨_, ⟨rfl, rfl⟩, hO.only [.b s, .p p]⟩
    · refine K2 (K3 (L9 (K5 (K8 (K3 (K1 ?_))))))
      refine l_y rfl rfl (D4) ?_
      refine l_y rfl rfl (y_move rfl) ?_
      refine K2 ?_
      exact q_next (i + 1) ⟨rfl, rfl, rfl, rfl, rfl, trivial⟩ ⟨hO.only [.b s, .p p], by omega, fun j hj => (by by_cases e : j = i; (subst e; exact decide_eq_false (fun h => h4_2 h.symm)); exact hn j (by omega))⟩ (by omega)
  · refine K2 (K3 (K0 (L9 (K7 (L1 (L1 (L2 (K3 (K0 (K1 ?_))))))))))
    refine l_y rfl rfl (y_assign rfl) ?_
    refine K2 (K3 (K6 ?_))
    rw [show findI l x = -1 from idx_none (fun j hj => hn j (by omega))]
    exact fin1 rfl rfl ⟨_, ⟨rfl, rfl⟩, hO.only [.b s, .p p]⟩
theorem sFind_spec {k : Ctx} {w : World} {s a c : Nat} {p : Option Addr} {l : List Int} {x : Int} (hg : Gs p l.length) (hl : l.length ≤ 1000000) (hO : Own k w [sB s a p l.length c, sI p c l]) :
    Tri Tryz.prog 155 #[.pointer (some ⟨s, 0, none⟩), .int .i64 x] k w fun v m => v = .int .i64 (findI l x) ∧ m = [sB s a p l.length c, sI p c l] := by
  refine enter (args := [.pointer (some ⟨s, 0, none⟩), .int .i64 x]) Tryz.func155 rfl rfl ?_
  refine K0 (K1 ?_)
  refine l_y rfl rfl (y_assign rfl) ?_
  refine K2 (K3 (K0 (K0 (K1 ?_))))
  refine l_y rfl rfl (y_move rfl) ?_
  refine CK [.b s] hO rfl (fun k' hx hr hO' => snone_spec (hO := hO')) ?_
  rintro _ _ w ⟨rfl, rfl⟩ hO
  simp only [List.cons_append, List.nil_append] at hO
  refine K2 (K3 (L9 (K5 (K3 (K0 (K1 ?_))))))
  refine l_y rfl rfl (y_move rfl) ?_
  refine l_y rfl rfl (y_nilCheck rfl rfl) ?_
  refine l_y rfl rfl (y_fldb (o' := 1) rfl) ?_
  refine l_y rfl rfl (y_move rfl) ?_
  refine CK [.b s, .p p] hO rfl (fun k' hx hr hO' => srow_find_spec hg hl (hO := hO')) ?_
  rintro _ _ w ⟨rfl, rfl⟩ hO
  simp only [List.cons_append, List.nil_append] at hO
  refine l_y rfl rfl (y_assign rfl) ?_
  refine K2 (K3 (K6 ?_))
  exact fin1 rfl rfl ⟨_, ⟨rfl, rfl⟩, hO.only [.b s, .p p]⟩
theorem look_spec {k : Ctx} {w : World} {s a n c : Nat} {p : Option Addr} {A : List Node_one} {id : Int} (hn : 0 < A.length) (ha : AttrsOk A) (hO : Own k w [arenaL a A, sB s a p n c]) :
    Tri Tryz.prog 177 #[.pointer (some ⟨s, 0, none⟩), .int .i64 id] k w fun v m => ∃ x, NV A id x ∧ v = .tuple #[.agg (Api_node.cells x).toArray, .bool (elB A id)] ∧ m = [arenaL a A, sB s a p n c] := by
  refine enter (args := [.pointer (some ⟨s, 0, none⟩), .int .i64 id]) Tryz.func177 rfl rfl ?_
  refine K0 (K1 ?_)
  refine s_alloc (vs := [.int .i64 0, .int .i64 0, .string ⟨#[]⟩, .slice none 0 0, .string ⟨#[]⟩, .string ⟨#[]⟩, .int .i64 0, .int .i64 0, .int .i64 0, .int .i64 0, .int .i64 0, .int .i64 0]) hO rfl rfl rfl fun b4 w hO => ?_
  refine l_y rfl rfl (y_assign rfl) ?_
  refine K2 (K3 (K0 (K1 ?_)))
  refine l_y rfl rfl (y_move rfl) ?_
  refine l_y rfl rfl (y_nilCheck rfl rfl) ?_
  refine l_y rfl rfl (y_fldb (o' := 0) rfl) ?_
  refine l_y rfl rfl (D5 hO rfl) ?_
  refine l_y rfl rfl (y_move rfl) ?_
  refine CK [.o a] hO rfl (fun k' hx hr hO' => NodeD_spec hn ha (hO := hO')) ?_
  rintro _ _ w ⟨x, hx, rfl, rfl⟩ hO
  simp only [List.cons_append, List.nil_append] at hO
  have hel := hx.el
  refine l_y rfl rfl (y_move rfl) ?_
  refine l_y rfl rfl (y_extract rfl rfl) ?_
  refine l_y rfl rfl (y_extract rfl rfl) ?_
  refine s_alloc (vs := [.int .i64 0, .int .i64 0, .string ⟨#[]⟩, .slice none 0 0, .string ⟨#[]⟩, .string ⟨#[]⟩, .int .i64 0, .int .i64 0, .int .i64 0, .int .i64 0, .int .i64 0, .int .i64 0]) hO rfl rfl rfl fun b6 w hO => ?_
  refine Y3 hO rfl rfl (fun w hO => ?_)
  refine l_y rfl rfl (y_assign rfl) ?_
  refine K2 (K3 (K0 ?_))
  refine da_region (by intro c a d v w h; cases d <;> exact h) ?_
  have hO := hO.drew
  refine da_phase _ [] (SO.ks [.b b6] hO) ?_
  refine dx_y 0 (by kernel_rfl) rfl rfl rfl (fun w ⟨m, hw⟩ => D8 (cs := [.int .i64 x.Kind, .int .i64 x.Space, .string x.Name, .slice x.AttrsP x.Attrs.length x.AttrsC, .string x.Data, .string x.System, .int .i64 x.Parent, .int .i64 x.First, .int .i64 x.Last, .int .i64 x.Prev, .int .i64 x.Next, .int .i64 x.Inner]) hw rfl) ?_
  refine dx_u 1 (by kernel_rfl) rfl rfl rfl (fun w => y_move rfl) ?_
  refine dx_u 2 (by kernel_rfl) rfl rfl rfl (fun w => y_cmpI rfl rfl rfl) ?_
  refine dx_u 3 (by kernel_rfl) rfl rfl rfl (fun w => y_move rfl) ?_
  refine dx_split 20 rfl (fun hg20 => ?_) (fun hg20 => ?_)
  · have h2_2 := of_decide_eq_true hg20
    refine dx_u 4 (by kernel_rfl) rfl rfl rfl (fun w => y_fldb (o' := 0) rfl) ?_
    refine dx_y 5 (by kernel_rfl) rfl rfl rfl (fun w ⟨m, hw⟩ => D5 hw rfl) ?_
    refine dx_u 6 (by kernel_rfl) rfl rfl rfl (fun w => y_cmpI rfl rfl rfl) ?_
    refine dx_u 7 (by kernel_rfl) rfl rfl rfl (fun w => y_pick_t rfl rfl) ?_
    refine dx_only 8 (by kernel_rfl) rfl rfl ?_
    refine Y3 hO rfl rfl (fun w hO => ?_)
    refine o_done ?_
    refine ⟨SO.ks [.b b6] hO, ?_⟩
    refine dx_u 9 (by kernel_rfl) rfl rfl rfl (fun w => y_assign rfl) ?_
    refine dx_end (by kernel_rfl) ?_
    refine K3 (K6 ?_)
    refine finC1 hO rfl rfl rfl ⟨_, ⟨x, hx, ?_, rfl⟩, hO.only [.o a, .b s]⟩
    rw [hel]
    first | (simp [*]; done) | (simp [*]; rfl)
  · have h2_2 := of_decide_eq_false hg20
    refine dx_pass 4 (by kernel_rfl) rfl rfl rfl ?_
    refine dx_pass 5 (by kernel_rfl) rfl rfl rfl ?_
    refine dx_pass 6 (by kernel_rfl) rfl rfl rfl ?_
    refine dx_u 7 (by kernel_rfl) rfl rfl rfl (fun w => y_pick_f rfl rfl) ?_
    refine dx_only 8 (by kernel_rfl) rfl rfl ?_
    refine Y3 hO rfl rfl (fun w hO => ?_)
    refine o_done ?_
    refine ⟨SO.ks [.b b6] hO, ?_⟩
    refine dx_u 9 (by kernel_rfl) rfl rfl rfl (fun w => y_assign rfl) ?_
    refine dx_end (by kernel_rfl) ?_
    refine K3 (K6 ?_)
    refine finC1 hO rfl rfl rfl ⟨_, ⟨x, hx, ?_, rfl⟩, hO.only [.o a, .b s]⟩
    rw [hel]
    first | (simp [*]; done) | (simp [*]; rfl)
end Go.Proofs.YtpejdlfkaaiehaaGreatDoor
end
section
set_option linter.unusedVariables false
set_option linter.unusedSimpArgs false
set_option maxRecDepth 100000
namespace Go.Proofs.YtpejdlfkaaiehaaGreatDoor
open Go Go.Hb Go.RowKit
def freshE (A : List Node_one) (l : List Int) (id : Int) : Int := if elB A id = false then 6 else if 0 ≤ findI l id then 1 else 0
theorem fresh_spec {k : Ctx} {w : World} {s a c : Nat} {p : Option Addr} {l : List Int} {A : List Node_one} {id : Int} (hn : 0 < A.length) (ha : AttrsOk A) (hg : Gs p l.length) (hl : l.length ≤ 1000000) (hO : Own k w [arenaL a A, sB s a p l.length c, sI p c l]) :
    Tri Tryz.prog 154 #[.pointer (some ⟨s, 0, none⟩), .int .i64 id] k w fun v m => v = .int .i64 (freshE A l id) ∧ m = [arenaL a A, sB s a p l.length c, sI p c l] := by
  refine enter (args := [.pointer (some ⟨s, 0, none⟩), .int .i64 id]) Tryz.func154 rfl rfl ?_
  refine K0 (K1 ?_)
  refine l_y rfl rfl (y_assign rfl) ?_
  refine K2 (K3 (K0 (K0 (K1 ?_))))
  refine l_y rfl rfl (y_move rfl) ?_
  refine CK [.b s] hO rfl (fun k' hx hr hO' => snone_spec (hO := hO')) ?_
  rintro _ _ w ⟨rfl, rfl⟩ hO
  simp only [List.cons_append, List.nil_append] at hO
  refine K2 (K3 (L9 (K5 (K3 (K0 (K0 (K1 ?_)))))))
  refine l_y rfl rfl (y_move rfl) ?_
  refine l_y rfl rfl (y_move rfl) ?_
  refine CK [.o a, .b s] hO rfl (fun k' hx hr hO' => look_spec hn ha (hO := hO')) ?_
  rintro _ _ w ⟨x3_2, hx3_2, rfl, rfl⟩ hO
  simp only [List.cons_append, List.nil_append] at hO
  refine l_y rfl rfl (y_move rfl) ?_
  refine l_y rfl rfl (y_extract rfl rfl) ?_
  refine l_y rfl rfl (y_extract rfl rfl) ?_
  refine s_alloc (vs := [.int .i64 0, .int .i64 0, .string ⟨#[]⟩, .slice none 0 0, .string ⟨#[]⟩, .string ⟨#[]⟩, .int .i64 0, .int .i64 0, .int .i64 0, .int .i64 0, .int .i64 0, .int .i64 0]) hO rfl rfl rfl fun b5 w hO => ?_
  refine Y3 hO rfl rfl (fun w hO => ?_)
  refine l_y rfl rfl (y_assign rfl) ?_
  refine K2 (K3 (K0 (K1 ?_)))
  refine l_y rfl rfl (y_move rfl) ?_
  refine l_y rfl rfl (y_not rfl rfl) ?_
  refine K2 (K3 ?_)
  refine c_split rfl (fun hc16 => ?_) (fun hc16 => ?_)
  · simp only [Bool.not_eq_true', Bool.not_eq_false'] at hc16
    refine K0 (K1 ?_)
    refine l_y rfl rfl (y_assign rfl) ?_
    refine K2 (K3 (K6 (K9 ?_)))
    exact fin1 rfl rfl ⟨_, ⟨by simp [freshE, *], rfl⟩, hO.only [.o a, .b s, .p p]⟩
  · simp only [Bool.not_eq_true', Bool.not_eq_false'] at hc16
    refine K5 (K3 (K0 (K0 (K1 ?_))))
    refine l_y rfl rfl (y_move rfl) ?_
    refine l_y rfl rfl (y_nilCheck rfl rfl) ?_
    refine l_y rfl rfl (y_fldb (o' := 1) rfl) ?_
    refine l_y rfl rfl (y_move rfl) ?_
    refine CK [.b s, .p p] hO rfl (fun k' hx hr hO' => srow_find_spec hg hl (hO := hO')) ?_
    rintro _ _ w ⟨rfl, rfl⟩ hO
    simp only [List.cons_append, List.nil_append] at hO
    refine Z0 (fun h6_5 => ?_) (fun h6_5 => ?_)
    · refine K2 (K3 (L8 (K0 (K1 ?_))))
      refine l_y rfl rfl (y_assign rfl) ?_
      refine K2 (K3 (K6 (K9 ?_)))
      exact fin1 rfl rfl ⟨_, ⟨by simp [freshE, *], rfl⟩, hO.only [.o a, .b s, .p p]⟩
    · refine K2 (K3 (L9 (K5 (K3 (K0 (K1 ?_))))))
      refine l_y rfl rfl (y_assign rfl) ?_
      refine K2 (K3 (K6 ?_))
      exact fin1 rfl rfl ⟨_, ⟨by simp [freshE, *], rfl⟩, hO.only [.o a, .b s, .p p]⟩
theorem sPush_spec {k : Ctx} {w : World} {s a : Nat} {l : List Int} {A : List Node_one} {id : Int} (hn : 0 < A.length) (ha : AttrsOk A) (hl : l.length ≤ 1000000) (hO : Own k w [arenaL a A, stkL s a l]) :
    Tri Tryz.prog 104 #[.pointer (some ⟨s, 0, none⟩), .int .i64 id] k w fun v m => v = .int .i64 (freshE A l id) ∧ m = [arenaL a A, stkL s a (if freshE A l id = 0 then l ++ [id] else l)] := by
  refine enter (args := [.pointer (some ⟨s, 0, none⟩), .int .i64 id]) Tryz.func104 rfl rfl ?_
  obtain ⟨p, c, hg, hlc, hO⟩ := stkL_open (hO.ks [.o s])
  refine K0 (K1 ?_)
  refine l_y rfl rfl (y_assign rfl) ?_
  refine K2 (K3 (K0 (K1 ?_)))
  refine l_y rfl rfl (y_move rfl) ?_
  refine l_y rfl rfl (y_move rfl) ?_
  refine CK [.o a, .b s, .p p] hO rfl (fun k' hx hr hO' => fresh_spec hn ha hg hl (hO := hO')) ?_
  rintro _ _ w ⟨rfl, rfl⟩ hO
  simp only [List.cons_append, List.nil_append] at hO
  refine l_y rfl rfl (y_assign rfl) ?_
  refine K2 (K3 (K0 (K0 (K1 ?_))))
  refine l_y rfl rfl (y_move rfl) ?_
  refine Z0 (fun h2_1 => ?_) (fun h2_1 => ?_)
  · refine K2 (K3 (L8 (K1 ?_)))
    refine l_y rfl rfl (y_move rfl) ?_
    refine l_y rfl rfl (y_move rfl) ?_
    refine l_y rfl rfl (y_nilCheck rfl rfl) ?_
    refine l_y rfl rfl (y_fldb (o' := 1) rfl) ?_
    refine l_y rfl rfl (y_fldb (o' := 1) rfl) ?_
    refine l_y rfl rfl (D5 hO rfl) ?_
    refine l_y rfl rfl (y_move rfl) ?_
    refine s_lit (parts := [(0, .tmp 17)]) (enc := (eI .i64)) [id] [.int .i64 id] hO rfl (fun b18 w hO => ?_)
    refine s_app hO rfl rfl (src_own hO) (fun p19 c19 w hO gs19 => ?_)
    refine l_y rfl rfl (y_nilCheck rfl rfl) ?_
    refine l_y rfl rfl (y_fldb (o' := 1) rfl) ?_
    refine l_y rfl rfl (y_fldb (o' := 1) rfl) ?_
    refine Y1 hO rfl rfl (fun w hO => ?_)
    simp only [List.set_cons_zero, List.set_cons_succ] at hO
    refine K2 (K3 (K0 (K1 ?_)))
    refine l_y rfl rfl (y_move rfl) ?_
    refine l_y rfl rfl (y_assign rfl) ?_
    refine K2 (K3 (K6 ?_))
    rw [if_pos h2_1]
    exact fin1 rfl rfl ⟨_, ⟨rfl, rfl⟩, ((stkL_shut (hO.ks [.b s, .p p19]) rfl).ks [.o a, .o s]).two⟩
  · refine K2 (K3 (L9 (K5 (K3 (K0 (K1 ?_))))))
    refine l_y rfl rfl (y_move rfl) ?_
    refine l_y rfl rfl (y_assign rfl) ?_
    refine K2 (K3 (K6 ?_))
    rw [if_neg h2_1]
    exact fin1 rfl rfl ⟨_, ⟨rfl, rfl⟩, ((stkL_shut (hO.ks [.b s, .p p]) rfl).ks [.o a, .o s]).two⟩
theorem cut_spec {k : Ctx} {w : World} {s a c i : Nat} {p : Option Addr} {l : List Int} (hi : i ≤ l.length) (hlc : l.length ≤ c) (hO : Own k w [sB s a p l.length c, sI p c l]) :
    Tri Tryz.prog 133 #[.pointer (some ⟨s, 0, none⟩), .int .i64 ((i : Nat) : Int)] k w fun v m => v = .tuple #[] ∧ m = [sB s a p (l.take i).length i, sI p i (l.take i)] := by
  refine enter (args := [.pointer (some ⟨s, 0, none⟩), .int .i64 ((i : Nat) : Int)]) Tryz.func133 rfl rfl ?_
  have hlen : (l.take i).length = i := by simp; omega
  refine K1 ?_
  refine l_y rfl rfl (y_move rfl) ?_
  refine l_y rfl rfl (y_move rfl) ?_
  refine l_y rfl rfl (y_nilCheck rfl rfl) ?_
  refine l_y rfl rfl (y_fldb (o' := 1) rfl) ?_
  refine l_y rfl rfl (y_fldb (o' := 1) rfl) ?_
  refine l_y rfl rfl (D5 hO rfl) ?_
  refine l_y rfl rfl (y_move rfl) ?_
  refine l_y rfl rfl (y_move rfl) ?_
  refine l_y rfl rfl (y_hd3 i i rfl rfl rfl) ?_
  refine l_y rfl rfl (y_nilCheck rfl rfl) ?_
  refine l_y rfl rfl (y_fldb (o' := 1) rfl) ?_
  refine l_y rfl rfl (y_fldb (o' := 1) rfl) ?_
  refine Y1 hO rfl rfl (fun w hO => ?_)
  simp only [List.set_cons_zero, List.set_cons_succ] at hO
  refine K2 ?_
  have hO : Own k w [sB s a p i i, sI p i (l.take i)] := (sls_cut (hO.ks [.p p]) i i hi (Nat.le_refl _) (by omega)).swap
  exact fin0 rfl ⟨_, ⟨rfl, rfl⟩, by rw [hlen]; exact hO⟩
theorem sCut_spec {k : Ctx} {w : World} {s a i : Nat} {l : List Int} {z : Int} (hz : z = (i : Int)) (hi : i ≤ l.length) (hO : Own k w [stkL s a l]) :
    Tri Tryz.prog 133 #[.pointer (some ⟨s, 0, none⟩), .int .i64 z] k w fun v m => v = .tuple #[] ∧ m = [stkL s a (l.take i)] := by
  subst hz
  obtain ⟨p, c, hg, hlc, hO⟩ := stkL_open hO
  refine Ret.mono (cut_spec hi hlc hO) ?_
  rintro v w' ⟨m, ⟨rfl, rfl⟩, hO⟩
  exact ⟨_, ⟨rfl, rfl⟩, stkL_shut hO⟩
theorem sPop_spec {k : Ctx} {w : World} {s a : Nat} {l : List Int} (hl : l.length ≤ 1000000) (hne : ∀ x ∈ l, x ≠ -1) (hO : Own k w [stkL s a l]) :
    Tri Tryz.prog 73 #[.pointer (some ⟨s, 0, none⟩)] k w fun v m => v = .int .i64 (topI l) ∧ m = [stkL s a (l.take (l.length - 1))] := by
  refine enter (args := [.pointer (some ⟨s, 0, none⟩)]) Tryz.func73 rfl rfl ?_
  obtain ⟨p, c, hg, hlc, hO⟩ := stkL_open hO
  refine K0 (K1 ?_)
  refine l_y rfl rfl (y_assign rfl) ?_
  refine K2 (K3 (K0 (K1 ?_)))
  refine l_y rfl rfl (y_move rfl) ?_
  refine CK [.b s, .p p] hO rfl (fun k' hx hr hO' => sTop_spec hg hl (hO := hO')) ?_
  rintro _ _ w ⟨rfl, rfl⟩ hO
  simp only [List.cons_append, List.nil_append] at hO
  refine l_y rfl rfl (y_assign rfl) ?_
  refine K2 (K3 (K0 (K0 (K1 ?_))))
  refine l_y rfl rfl (y_move rfl) ?_
  refine Z1 (fun h2_1 => ?_) (fun h2_1 => ?_)
  · refine K2 (K3 (L8 (K1 ?_)))
    refine l_y rfl rfl (y_move rfl) ?_
    refine l_y rfl rfl (y_move rfl) ?_
    refine CK [.b s] hO rfl (fun k' hx hr hO' => sLen_spec (hO := hO')) ?_
    rintro _ _ w ⟨rfl, rfl⟩ hO
    simp only [List.cons_append, List.nil_append] at hO
    refine l_y rfl rfl (D4) ?_
    have hpos : 0 < l.length := by
      rcases Nat.eq_zero_or_pos l.length with h0 | h0
      · exact absurd (by rw [topI, atI, if_pos (by omega)]) h2_1
      · exact h0
    refine CK [.b s, .p p] hO rfl (fun k' hx hr hO' => sCut_spec (i := l.length - 1) (by omega) (by omega) (hO := stkL_shut hO')) ?_
    rintro _ _ w ⟨rfl, rfl⟩ hO
    simp only [List.cons_append, List.nil_append] at hO
    refine K2 (K3 (K0 (K1 ?_)))
    refine l_y rfl rfl (y_move rfl) ?_
    refine l_y rfl rfl (y_assign rfl) ?_
    refine K2 (K3 (K6 ?_))
    exact fin1 rfl rfl ⟨_, ⟨rfl, rfl⟩, hO.one⟩
  · refine K2 (K3 (L9 (K5 (K3 (K0 (K1 ?_))))))
    refine l_y rfl rfl (y_move rfl) ?_
    refine l_y rfl rfl (y_assign rfl) ?_
    refine K2 (K3 (K6 ?_))
    have h0 : l.length = 0 := by
      rcases Nat.eq_zero_or_pos l.length with h0 | h0
      · exact h0
      · have h21 : topI l = -1 := by simpa using h2_1
        rw [topI, atI, if_neg (by omega)] at h21
        exact absurd h21 (hne _ (at_mem (by omega)))
    rw [show l.length - 1 = l.length by omega, List.take_length]
    exact fin1 rfl rfl ⟨_, ⟨rfl, rfl⟩, (stkL_shut (hO.ks [.b s, .p p])).one⟩
theorem sNew_spec {k : Ctx} {w : World} {a : Nat} {A : List Node_one} (hn : 0 < A.length) (hO : Own k w [arenaL a A]) :
    Tri Tryz.prog 16 #[.pointer (some ⟨a, 0, none⟩)] k w fun v m => ∃ s, v = .tuple #[.pointer (some ⟨s, 0, none⟩), .int .i64 0] ∧ m = [arenaL a A, stkL s a []] := by
  refine enter (args := [.pointer (some ⟨a, 0, none⟩)]) Tryz.func16 rfl rfl ?_
  refine K0 (K1 ?_)
  refine l_y rfl rfl (y_assign rfl) ?_
  refine l_y rfl rfl (y_assign rfl) ?_
  refine K2 (K3 (K0 (K0 (K1 ?_))))
  refine l_y rfl rfl (y_move rfl) ?_
  refine CK [.o a] hO rfl (fun k' hx hr hO' => LenC_spec hn (hO := hO')) ?_
  rintro _ _ w ⟨rfl, rfl⟩ hO
  simp only [List.cons_append, List.nil_append] at hO
  refine N3 ?_
  refine K2 (K3 (L9 (K5 (K3 (K0 (K1 ?_))))))
  refine l_y rfl rfl (y_move rfl) ?_
  refine s_build (parts := [(0, .tmp 7)]) (cs := [.pointer (some ⟨a, 0, none⟩), .slice none 0 0]) rfl rfl (fun a ha => partsOf_sound ha _ _ rfl) (by kernel_rfl) ?_
  refine s_box (vs := [.pointer (some ⟨a, 0, none⟩), .slice none 0 0]) hO rfl rfl rfl (by rfl) fun b9 w hO => ?_
  refine l_y rfl rfl (y_assign rfl) ?_
  refine l_y rfl rfl (y_assign rfl) ?_
  refine K2 (K3 (K6 ?_))
  have hO : Own k w (sls none 0 3 1 (eI .i64) ([] : List Int) :: _) := sl_nil 3 1 hO
  exact fin2 rfl rfl rfl ⟨_, ⟨_, rfl, rfl⟩, ((stkL_shut (l := []) (hO.ks [.b b9, .p none]) rfl).ks [.o a, .o b9]).two⟩
end Go.Proofs.YtpejdlfkaaiehaaGreatDoor
end
section
set_option linter.unusedVariables false
set_option linter.unusedSimpArgs false
set_option maxRecDepth 100000
namespace Go.Proofs.YtpejdlfkaaiehaaGreatDoor
open Go Go.Hb Go.RowKit
def inB (s : ByteArray) (ts : List ByteArray) : Bool := ts.any fun t => decide (s = t)
def namB (sp : Int) (nm : ByteArray) (ts : List ByteArray) : Bool := decide (sp = 0) && inB nm ts
theorem sin_spec {k : Ctx} {w : World} {x : ByteArray} {ts : List ByteArray} {tp : Option Addr} {n tc : Nat} (hs : Sli (Ro k) (.slice tp n tc) (ts.map eS)) (hl : ts.length ≤ 1000000) (hO : Own k w []) :
    Tri Tryz.prog 197 #[.string x, .slice tp n tc] k w fun v m => v = .bool (inB x ts) ∧ m = [] := by
  obtain rfl : n = ts.length := by have := hs.fits.1; simpa using this
  refine enter (args := [.string x, .slice tp ts.length tc]) Tryz.func197 rfl rfl ?_
  have hgs := sli_gs hs
  refine K0 (K1 ?_)
  refine l_y rfl rfl (y_assign rfl) ?_
  refine K2 (K3 (K0 (K0 (K1 ?_))))
  refine l_y rfl rfl (y_move rfl) ?_
  refine l_y rfl rfl (y_lenL rfl) ?_
  refine l_y rfl rfl (y_move rfl) ?_
  refine K2 (K3 (K4 ?_))
  refine c_rounds (X := Nat) (fun i => [(0, .string x), (4, .bool false), (7, .slice tp ts.length tc), (8, .int .i64 ((ts.length : Nat) : Int)), (9, .int .i64 (i : Int))]) (fun i w => Own k w [] ∧ (i ≤ ts.length ∧ inB x (ts.take i) = false)) (fun i => ts.length - i) (0) ⟨rfl, rfl, rfl, rfl, rfl, trivial⟩ ⟨hO.only [], ⟨Nat.zero_le _, rfl⟩⟩ ?_
  rintro i w m hm ⟨hO, hi⟩
  refine K0 (K1 ?_)
  refine Z0 (fun h2_0 => ?_) (fun h2_0 => ?_)
  · refine K2 (K3 (K0 (L8 (K5 (K3 (K0 (K4 (K0 (K1 ?_)))))))))
    refine l_y rfl rfl (y_idx rfl rfl) ?_
    refine l_y rfl rfl (y_r1 (x0 := 0) (enc := eS) (xs := ts) hO rfl) ?_
    refine l_y rfl rfl (y_assign rfl) ?_
    refine K2 (K3 (K0 (K1 ?_)))
    refine l_y rfl rfl (y_move rfl) ?_
    refine l_y rfl rfl (y_move rfl) ?_
    refine Z2 (fun h4_2 => ?_) (fun h4_2 => ?_)
    · refine K2 (K3 (L8 (K0 (K1 ?_))))
      refine l_y rfl rfl (y_assign rfl) ?_
      refine K2 (K3 (K6 (L0 (K9 (K9 (L0 (K9 ?_)))))))
      have hlt : inB x ts = true := List.any_eq_true.2 ⟨at_ ts i, at_mem (by omega), decide_eq_true h4_2⟩
      exact fin1 rfl rfl ⟨_, ⟨by rw [hlt], rfl⟩, hO⟩
    · refine K2 (K3 (L9 (K5 (K8 (K3 (K1 ?_))))))
      refine l_y rfl rfl (D4) ?_
      refine l_y rfl rfl (y_move rfl) ?_
      refine K2 ?_
      exact q_next (i + 1) ⟨rfl, rfl, rfl, rfl, rfl, trivial⟩ ⟨hO.only [], ⟨by omega, by rw [take_succ_at (by omega), inB, List.any_append]; simp only [List.any_cons, List.any_nil, Bool.or_false, Bool.or_eq_false_iff]; exact ⟨hi.2, decide_eq_false h4_2⟩⟩⟩ (by omega)
  · refine K2 (K3 (K0 (L9 (K7 (L1 (L1 (L2 (K3 (K0 (K1 ?_))))))))))
    refine l_y rfl rfl (y_assign rfl) ?_
    refine K2 (K3 (K6 ?_))
    have hlf : inB x ts = false := by rw [show ts = ts.take i by rw [List.take_of_length_le (by omega)]]; exact hi.2
    exact fin1 rfl rfl ⟨_, ⟨by rw [hlf], rfl⟩, hO⟩
theorem named_spec {k : Ctx} {w : World} {n : Api_node} {ts : List ByteArray} {tp : Option Addr} {tn tc : Nat} (hs : Sli (Ro k) (.slice tp tn tc) (ts.map eS)) (hl : ts.length ≤ 1000000) (hO : Own k w []) :
    Tri Tryz.prog 153 #[.agg (Api_node.cells n).toArray, .slice tp tn tc] k w fun v m => v = .bool (namB n.Space n.Name ts) ∧ m = [] := by
  refine enter (args := [.agg (Api_node.cells n).toArray, .slice tp tn tc]) Tryz.func153 rfl rfl ?_
  refine K0 (K1 ?_)
  refine s_box (vs := [.int .i64 n.Kind, .int .i64 n.Space, .string n.Name, .slice n.AttrsP n.Attrs.length n.AttrsC, .string n.Data, .string n.System, .int .i64 n.Parent, .int .i64 n.First, .int .i64 n.Last, .int .i64 n.Prev, .int .i64 n.Next, .int .i64 n.Inner]) hO rfl rfl rfl (by rfl) fun b2 w hO => ?_
  refine l_y rfl rfl (y_assign rfl) ?_
  refine K2 (K3 (K0 (K1 ?_)))
  refine l_y rfl rfl (y_fldb (o' := 1) rfl) ?_
  refine l_y rfl rfl (D5 hO rfl) ?_
  refine Z0 (fun h1_2 => ?_) (fun h1_2 => ?_)
  · refine l_y rfl rfl (y_move rfl) ?_
    refine l_y rfl rfl (y_fldb (o' := 2) rfl) ?_
    refine l_y rfl rfl (D5 hO rfl) ?_
    refine l_y rfl rfl (y_move rfl) ?_
    refine CK [] hO rfl (fun k' hx hr hO' => sin_spec (hs.ext hO hx) hl (hO := hO')) ?_
    rintro _ _ w ⟨rfl, rfl⟩ hO
    refine l_y rfl rfl (y_pick_t rfl rfl) ?_
    refine l_y rfl rfl (y_assign rfl) ?_
    refine K2 (K3 (K6 ?_))
    refine fin1 rfl rfl ⟨_, ⟨?_, rfl⟩, hO.none⟩
    simp [namB, *]
  · refine l_y rfl rfl (y_move rfl) ?_
    repeat refine M2 ?_
    refine l_y rfl rfl (y_pick_f rfl rfl) ?_
    refine l_y rfl rfl (y_assign rfl) ?_
    refine K2 (K3 (K6 ?_))
    refine fin1 rfl rfl ⟨_, ⟨?_, rfl⟩, hO.none⟩
    simp [namB, *]
def mathL : List ByteArray := [⟨#[109, 105]⟩, ⟨#[109, 111]⟩, ⟨#[109, 110]⟩, ⟨#[109, 115]⟩, ⟨#[109, 116, 101, 120, 116]⟩, ⟨#[97, 110, 110, 111, 116, 97, 116, 105, 111, 110, 45, 120, 109, 108]⟩]
def drawL : List ByteArray := [⟨#[102, 111, 114, 101, 105, 103, 110, 79, 98, 106, 101, 99, 116]⟩, ⟨#[100, 101, 115, 99]⟩, ⟨#[116, 105, 116, 108, 101]⟩]
def bordL : List ByteArray := [⟨#[97, 112, 112, 108, 101, 116]⟩, ⟨#[99, 97, 112, 116, 105, 111, 110]⟩, ⟨#[104, 116, 109, 108]⟩, ⟨#[116, 97, 98, 108, 101]⟩, ⟨#[116, 100]⟩, ⟨#[116, 104]⟩, ⟨#[109, 97, 114, 113, 117, 101, 101]⟩, ⟨#[111, 98, 106, 101, 99, 116]⟩, ⟨#[116, 101, 109, 112, 108, 97, 116, 101]⟩]
def implL : List ByteArray := [⟨#[100, 100]⟩, ⟨#[100, 116]⟩, ⟨#[108, 105]⟩, ⟨#[111, 112, 116, 103, 114, 111, 117, 112]⟩, ⟨#[111, 112, 116, 105, 111, 110]⟩, ⟨#[112]⟩, ⟨#[114, 98]⟩, ⟨#[114, 112]⟩, ⟨#[114, 116]⟩, ⟨#[114, 116, 99]⟩]
def tblL : List ByteArray := [⟨#[104, 116, 109, 108]⟩, ⟨#[116, 97, 98, 108, 101]⟩, ⟨#[116, 101, 109, 112, 108, 97, 116, 101]⟩]
def optL : List ByteArray := [⟨#[111, 112, 116, 103, 114, 111, 117, 112]⟩, ⟨#[111, 112, 116, 105, 111, 110]⟩]
def listL : List ByteArray := [⟨#[111, 108]⟩, ⟨#[117, 108]⟩]
def btnL : List ByteArray := [⟨#[98, 117, 116, 116, 111, 110]⟩]
theorem maths_spec {k : Ctx} {w : World} (hO : Own k w []) : Tri Tryz.prog 212 #[] k w fun v m => v = .agg (mathL.map Value.string).toArray ∧ m = [] := by
  refine enter (args := []) Tryz.func212 rfl rfl ?_
  refine K0 (K1 ?_)
  refine s_alloc (vs := [.string ⟨#[]⟩, .string ⟨#[]⟩, .string ⟨#[]⟩, .string ⟨#[]⟩, .string ⟨#[]⟩, .string ⟨#[]⟩]) hO rfl rfl rfl fun b0 w hO => ?_
  refine K2 (K3 (K0 (K1 ?_)))
  refine s_build (parts := [(0, .const (.string ⟨#[109, 105]⟩)), (1, .const (.string ⟨#[109, 111]⟩)), (2, .const (.string ⟨#[109, 110]⟩)), (3, .const (.string ⟨#[109, 115]⟩)), (4, .const (.string ⟨#[109, 116, 101, 120, 116]⟩)), (5, .const (.string ⟨#[97, 110, 110, 111, 116, 97, 116, 105, 111, 110, 45, 120, 109, 108]⟩))]) (cs := [.string ⟨#[109, 105]⟩, .string ⟨#[109, 111]⟩, .string ⟨#[109, 110]⟩, .string ⟨#[109, 115]⟩, .string ⟨#[109, 116, 101, 120, 116]⟩, .string ⟨#[97, 110, 110, 111, 116, 97, 116, 105, 111, 110, 45, 120, 109, 108]⟩]) rfl rfl (fun a ha => partsOf_sound ha _ _ rfl) (by kernel_rfl) ?_
  refine Y3 hO rfl rfl (fun w hO => ?_)
  refine K2 (K3 (K6 ?_))
  exact finC hO rfl rfl ⟨_, ⟨rfl, rfl⟩, hO.none⟩
theorem drawings_spec {k : Ctx} {w : World} (hO : Own k w []) : Tri Tryz.prog 213 #[] k w fun v m => v = .agg (drawL.map Value.string).toArray ∧ m = [] := by
  refine enter (args := []) Tryz.func213 rfl rfl ?_
  refine K0 (K1 ?_)
  refine s_alloc (vs := [.string ⟨#[]⟩, .string ⟨#[]⟩, .string ⟨#[]⟩]) hO rfl rfl rfl fun b0 w hO => ?_
  refine K2 (K3 (K0 (K1 ?_)))
  refine s_build (parts := [(0, .const (.string ⟨#[102, 111, 114, 101, 105, 103, 110, 79, 98, 106, 101, 99, 116]⟩)), (1, .const (.string ⟨#[100, 101, 115, 99]⟩)), (2, .const (.string ⟨#[116, 105, 116, 108, 101]⟩))]) (cs := [.string ⟨#[102, 111, 114, 101, 105, 103, 110, 79, 98, 106, 101, 99, 116]⟩, .string ⟨#[100, 101, 115, 99]⟩, .string ⟨#[116, 105, 116, 108, 101]⟩]) rfl rfl (fun a ha => partsOf_sound ha _ _ rfl) (by kernel_rfl) ?_
  refine Y3 hO rfl rfl (fun w hO => ?_)
  refine K2 (K3 (K6 ?_))
  exact finC hO rfl rfl ⟨_, ⟨rfl, rfl⟩, hO.none⟩
theorem borders_spec {k : Ctx} {w : World} (hO : Own k w []) : Tri Tryz.prog 251 #[] k w fun v m => v = .agg (bordL.map Value.string).toArray ∧ m = [] := by
  refine enter (args := []) Tryz.func251 rfl rfl ?_
  refine K0 (K1 ?_)
  refine s_alloc (vs := [.string ⟨#[]⟩, .string ⟨#[]⟩, .string ⟨#[]⟩, .string ⟨#[]⟩, .string ⟨#[]⟩, .string ⟨#[]⟩, .string ⟨#[]⟩, .string ⟨#[]⟩, .string ⟨#[]⟩]) hO rfl rfl rfl fun b0 w hO => ?_
  refine K2 (K3 (K0 (K1 ?_)))
  refine s_build (parts := [(0, .const (.string ⟨#[97, 112, 112, 108, 101, 116]⟩)), (1, .const (.string ⟨#[99, 97, 112, 116, 105, 111, 110]⟩)), (2, .const (.string ⟨#[104, 116, 109, 108]⟩)), (3, .const (.string ⟨#[116, 97, 98, 108, 101]⟩)), (4, .const (.string ⟨#[116, 100]⟩)), (5, .const (.string ⟨#[116, 104]⟩)), (6, .const (.string ⟨#[109, 97, 114, 113, 117, 101, 101]⟩)), (7, .const (.string ⟨#[111, 98, 106, 101, 99, 116]⟩)), (8, .const (.string ⟨#[116, 101, 109, 112, 108, 97, 116, 101]⟩))]) (cs := [.string ⟨#[97, 112, 112, 108, 101, 116]⟩, .string ⟨#[99, 97, 112, 116, 105, 111, 110]⟩, .string ⟨#[104, 116, 109, 108]⟩, .string ⟨#[116, 97, 98, 108, 101]⟩, .string ⟨#[116, 100]⟩, .string ⟨#[116, 104]⟩, .string ⟨#[109, 97, 114, 113, 117, 101, 101]⟩, .string ⟨#[111, 98, 106, 101, 99, 116]⟩, .string ⟨#[116, 101, 109, 112, 108, 97, 116, 101]⟩]) rfl rfl (fun a ha => partsOf_sound ha _ _ rfl) (by kernel_rfl) ?_
  refine Y3 hO rfl rfl (fun w hO => ?_)
  refine K2 (K3 (K6 ?_))
  exact finC hO rfl rfl ⟨_, ⟨rfl, rfl⟩, hO.none⟩
theorem implied_spec {k : Ctx} {w : World} (hO : Own k w []) : Tri Tryz.prog 149 #[] k w fun v m => v = .agg (implL.map Value.string).toArray ∧ m = [] := by
  refine enter (args := []) Tryz.func149 rfl rfl ?_
  refine K0 (K1 ?_)
  refine s_alloc (vs := [.string ⟨#[]⟩, .string ⟨#[]⟩, .string ⟨#[]⟩, .string ⟨#[]⟩, .string ⟨#[]⟩, .string ⟨#[]⟩, .string ⟨#[]⟩, .string ⟨#[]⟩, .string ⟨#[]⟩, .string ⟨#[]⟩]) hO rfl rfl rfl fun b0 w hO => ?_
  refine K2 (K3 (K0 (K1 ?_)))
  refine s_build (parts := [(0, .const (.string ⟨#[100, 100]⟩)), (1, .const (.string ⟨#[100, 116]⟩)), (2, .const (.string ⟨#[108, 105]⟩)), (3, .const (.string ⟨#[111, 112, 116, 103, 114, 111, 117, 112]⟩)), (4, .const (.string ⟨#[111, 112, 116, 105, 111, 110]⟩)), (5, .const (.string ⟨#[112]⟩)), (6, .const (.string ⟨#[114, 98]⟩)), (7, .const (.string ⟨#[114, 112]⟩)), (8, .const (.string ⟨#[114, 116]⟩)), (9, .const (.string ⟨#[114, 116, 99]⟩))]) (cs := [.string ⟨#[100, 100]⟩, .string ⟨#[100, 116]⟩, .string ⟨#[108, 105]⟩, .string ⟨#[111, 112, 116, 103, 114, 111, 117, 112]⟩, .string ⟨#[111, 112, 116, 105, 111, 110]⟩, .string ⟨#[112]⟩, .string ⟨#[114, 98]⟩, .string ⟨#[114, 112]⟩, .string ⟨#[114, 116]⟩, .string ⟨#[114, 116, 99]⟩]) rfl rfl (fun a ha => partsOf_sound ha _ _ rfl) (by kernel_rfl) ?_
  refine Y3 hO rfl rfl (fun w hO => ?_)
  refine K2 (K3 (K6 ?_))
  exact finC hO rfl rfl ⟨_, ⟨rfl, rfl⟩, hO.none⟩
def borderB (kind sp : Int) (nm : ByteArray) : Bool :=
  if kind = 3 then namB sp nm tblL else if kind = 4 then !namB sp nm optL
  else if kind = 1 ∧ namB sp nm listL = true then true else if kind = 2 ∧ namB sp nm btnL = true then true
  else if sp = 1 then inB nm mathL else if sp = 2 then inB nm drawL else inB nm bordL
set_option maxHeartbeats 1000000 in
theorem border_spec {k : Ctx} {w : World} {n : Api_node} {kind : Int} (hO : Own k w []) :
    Tri Tryz.prog 236 #[.agg (Api_node.cells n).toArray, .int .i64 kind] k w fun v m => v = .bool (borderB kind n.Space n.Name) ∧ m = [] := by
  refine enter (args := [.agg (Api_node.cells n).toArray, .int .i64 kind]) Tryz.func236 rfl rfl ?_
  refine K0 (K1 ?_)
  refine s_box (vs := [.int .i64 n.Kind, .int .i64 n.Space, .string n.Name, .slice n.AttrsP n.Attrs.length n.AttrsC, .string n.Data, .string n.System, .int .i64 n.Parent, .int .i64 n.First, .int .i64 n.Last, .int .i64 n.Prev, .int .i64 n.Next, .int .i64 n.Inner]) hO rfl rfl rfl (by rfl) fun b2 w hO => ?_
  refine l_y rfl rfl (y_assign rfl) ?_
  refine K2 (K3 (K0 (K1 ?_)))
  refine CK [] hO rfl (fun k' hx hr hO' => borders_spec (hO := hO')) ?_
  rintro _ _ w ⟨rfl, rfl⟩ hO
  simp only [List.cons_append, List.nil_append] at hO
  refine CK [] hO rfl (fun k' hx hr hO' => maths_spec (hO := hO')) ?_
  rintro _ _ w ⟨rfl, rfl⟩ hO
  simp only [List.cons_append, List.nil_append] at hO
  refine CK [] hO rfl (fun k' hx hr hO' => drawings_spec (hO := hO')) ?_
  rintro _ _ w ⟨rfl, rfl⟩ hO
  simp only [List.cons_append, List.nil_append] at hO
  refine s_alloc (vs := [.string ⟨#[]⟩, .string ⟨#[]⟩, .string ⟨#[]⟩, .string ⟨#[]⟩, .string ⟨#[]⟩, .string ⟨#[]⟩, .string ⟨#[]⟩, .string ⟨#[]⟩, .string ⟨#[]⟩]) hO rfl rfl rfl fun b5 w hO => ?_
  refine s_alloc (vs := [.string ⟨#[]⟩, .string ⟨#[]⟩, .string ⟨#[]⟩, .string ⟨#[]⟩, .string ⟨#[]⟩, .string ⟨#[]⟩]) hO rfl rfl rfl fun b6 w hO => ?_
  refine s_alloc (vs := [.string ⟨#[]⟩, .string ⟨#[]⟩, .string ⟨#[]⟩]) hO rfl rfl rfl fun b7 w hO => ?_
  refine Y3 hO rfl rfl (fun w hO => ?_)
  refine Y3 hO rfl rfl (fun w hO => ?_)
  refine Y3 hO rfl rfl (fun w hO => ?_)
  refine K2 (K3 (K0 (K0 (K1 ?_))))
  refine l_y rfl rfl (y_move rfl) ?_
  refine K2 (K3 (K4 (K0 (K1 ?_))))
  refine Z0 (fun h3_0 => ?_) (fun h3_0 => ?_)
  · refine l_y rfl rfl (y_assign rfl) ?_
    refine K2 (K3 (L8 (K0 (K1 ?_))))
    refine l_y rfl rfl (D8 (cs := [.int .i64 n.Kind, .int .i64 n.Space, .string n.Name, .slice n.AttrsP n.Attrs.length n.AttrsC, .string n.Data, .string n.System, .int .i64 n.Parent, .int .i64 n.First, .int .i64 n.Last, .int .i64 n.Prev, .int .i64 n.Next, .int .i64 n.Inner]) hO rfl) ?_
    refine s_lit (parts := [(0, .const (.string ⟨#[104, 116, 109, 108]⟩)), (1, .const (.string ⟨#[116, 97, 98, 108, 101]⟩)), (2, .const (.string ⟨#[116, 101, 109, 112, 108, 97, 116, 101]⟩))]) (enc := eS) [⟨#[104, 116, 109, 108]⟩, ⟨#[116, 97, 98, 108, 101]⟩, ⟨#[116, 101, 109, 112, 108, 97, 116, 101]⟩] [.string ⟨#[104, 116, 109, 108]⟩, .string ⟨#[116, 97, 98, 108, 101]⟩, .string ⟨#[116, 101, 109, 112, 108, 97, 116, 101]⟩] hO rfl (fun b15 w hO => ?_)
    refine CK [] hO rfl (fun k' hx hr hO' => named_spec (n := n) (ts := tblL) (sls_roK (p := (some ⟨b15, 0, none⟩)) hr (sls_fct hO)) (by decide) (hO := hO')) ?_
    rintro _ _ w ⟨rfl, rfl⟩ hO
    refine l_y rfl rfl (y_assign rfl) ?_
    refine K2 (K3 (K6 (L0 (K9 ?_))))
    exact fin1 rfl rfl ⟨_, ⟨by first | (simp [borderB, *]; done) | (simp [borderB, namB, *]; done), rfl⟩, hO.none⟩
  · refine l_y rfl rfl (y_assign rfl) ?_
    refine K2 (K3 (L9 (K0 (K1 ?_))))
    refine Z0 (fun h5_0 => ?_) (fun h5_0 => ?_)
    · refine l_y rfl rfl (y_assign rfl) ?_
      refine K2 (K3 (L8 (K0 (K1 ?_))))
      refine l_y rfl rfl (D8 (cs := [.int .i64 n.Kind, .int .i64 n.Space, .string n.Name, .slice n.AttrsP n.Attrs.length n.AttrsC, .string n.Data, .string n.System, .int .i64 n.Parent, .int .i64 n.First, .int .i64 n.Last, .int .i64 n.Prev, .int .i64 n.Next, .int .i64 n.Inner]) hO rfl) ?_
      refine s_lit (parts := [(0, .const (.string ⟨#[111, 112, 116, 103, 114, 111, 117, 112]⟩)), (1, .const (.string ⟨#[111, 112, 116, 105, 111, 110]⟩))]) (enc := eS) [⟨#[111, 112, 116, 103, 114, 111, 117, 112]⟩, ⟨#[111, 112, 116, 105, 111, 110]⟩] [.string ⟨#[111, 112, 116, 103, 114, 111, 117, 112]⟩, .string ⟨#[111, 112, 116, 105, 111, 110]⟩] hO rfl (fun b20 w hO => ?_)
      refine CK [] hO rfl (fun k' hx hr hO' => named_spec (n := n) (ts := optL) (sls_roK (p := (some ⟨b20, 0, none⟩)) hr (sls_fct hO)) (by decide) (hO := hO')) ?_
      rintro _ _ w ⟨rfl, rfl⟩ hO
      refine l_y rfl rfl (y_not rfl rfl) ?_
      refine l_y rfl rfl (y_assign rfl) ?_
      refine K2 (K3 (K6 (L0 (K9 ?_))))
      exact fin1 rfl rfl ⟨_, ⟨by first | (simp [borderB, *]; done) | (simp [borderB, namB, *]; done), rfl⟩, hO.none⟩
    · refine l_y rfl rfl (y_assign rfl) ?_
      refine K2 (K3 (L9 (K0 (K1 ?_))))
      refine Z0 (fun h7_0 => ?_) (fun h7_0 => ?_)
      · refine l_y rfl rfl (y_assign rfl) ?_
        refine K2 (K3 (L8 (K0 (K1 ?_))))
        refine l_y rfl rfl (D8 (cs := [.int .i64 n.Kind, .int .i64 n.Space, .string n.Name, .slice n.AttrsP n.Attrs.length n.AttrsC, .string n.Data, .string n.System, .int .i64 n.Parent, .int .i64 n.First, .int .i64 n.Last, .int .i64 n.Prev, .int .i64 n.Next, .int .i64 n.Inner]) hO rfl) ?_
        refine s_lit (parts := [(0, .const (.string ⟨#[111, 108]⟩)), (1, .const (.string ⟨#[117, 108]⟩))]) (enc := eS) [⟨#[111, 108]⟩, ⟨#[117, 108]⟩] [.string ⟨#[111, 108]⟩, .string ⟨#[117, 108]⟩] hO rfl (fun b26 w hO => ?_)
        refine CK [] hO rfl (fun k' hx hr hO' => named_spec (n := n) (ts := listL) (sls_roK (p := (some ⟨b26, 0, none⟩)) hr (sls_fct hO)) (by decide) (hO := hO')) ?_
        rintro _ _ w ⟨rfl, rfl⟩ hO
        simp only [List.nil_append] at hO
        refine K2 (K3 ?_)
        refine c_split rfl (fun hc27 => ?_) (fun hc27 => ?_)
        · refine K0 (K1 ?_)
          refine l_y rfl rfl (y_assign rfl) ?_
          refine K2 (K3 (K6 (L0 (K9 ?_))))
          exact fin1 rfl rfl ⟨_, ⟨by first | (simp [borderB, *]; done) | (simp [borderB, namB, *]; done), rfl⟩, hO.none⟩
        · refine K5 (K8 (K3 (K0 (K0 (K1 ?_)))))
          refine l_y rfl rfl (y_fldb (o' := 1) rfl) ?_
          refine l_y rfl rfl (D5 hO rfl) ?_
          refine K2 (K3 (K4 (K0 (K1 ?_))))
          refine Z0 (fun h14_0 => ?_) (fun h14_0 => ?_)
          · refine l_y rfl rfl (y_assign rfl) ?_
            refine K2 (K3 (L8 (K0 ?_)))
            refine da_region (by intro c a d v w h; cases d <;> exact h) ?_
            have hO := hO.drew
            refine da_phase _ [3] (SO.ks [.b b2] hO) ?_
            refine dx_u 0 (by kernel_rfl) rfl rfl rfl (fun w => y_fldb (o' := 2) rfl) ?_
            refine dx_y 1 (by kernel_rfl) rfl rfl rfl (fun w ⟨m, hw⟩ => D5 hw rfl) ?_
            refine dx_u 2 (by kernel_rfl) rfl rfl rfl (fun w => y_sliceA rfl) ?_
            refine dx_close 3 (by kernel_rfl) rfl rfl ?_
            refine CK [] hO rfl (fun k' hx hr hO' => sin_spec (ts := mathL) (blk_ro (b := _) hr) (by decide) (hO := hO')) ?_
            rintro _ _ w ⟨rfl, rfl⟩ hO
            refine o_done ?_
            refine da_phase _ [] (SO.ks [] hO) ?_
            refine dx_u 4 (by kernel_rfl) rfl rfl rfl (fun w => y_assign rfl) ?_
            refine dx_end (by kernel_rfl) ?_
            refine K3 (K6 (L0 (K9 ?_)))
            exact fin1 rfl rfl ⟨_, ⟨by first | (simp [borderB, *]; done) | (simp [borderB, namB, *]; done), rfl⟩, hO.none⟩
          · refine l_y rfl rfl (y_assign rfl) ?_
            refine K2 (K3 (L9 (K0 (K1 ?_))))
            refine Z0 (fun h16_0 => ?_) (fun h16_0 => ?_)
            · refine l_y rfl rfl (y_assign rfl) ?_
              refine K2 (K3 (L8 (K0 ?_)))
              refine da_region (by intro c a d v w h; cases d <;> exact h) ?_
              have hO := hO.drew
              refine da_phase _ [3] (SO.ks [.b b2] hO) ?_
              refine dx_u 0 (by kernel_rfl) rfl rfl rfl (fun w => y_fldb (o' := 2) rfl) ?_
              refine dx_y 1 (by kernel_rfl) rfl rfl rfl (fun w ⟨m, hw⟩ => D5 hw rfl) ?_
              refine dx_u 2 (by kernel_rfl) rfl rfl rfl (fun w => y_sliceA rfl) ?_
              refine dx_close 3 (by kernel_rfl) rfl rfl ?_
              refine CK [] hO rfl (fun k' hx hr hO' => sin_spec (ts := drawL) (blk_ro (b := _) hr) (by decide) (hO := hO')) ?_
              rintro _ _ w ⟨rfl, rfl⟩ hO
              refine o_done ?_
              refine da_phase _ [] (SO.ks [] hO) ?_
              refine dx_u 4 (by kernel_rfl) rfl rfl rfl (fun w => y_assign rfl) ?_
              refine dx_end (by kernel_rfl) ?_
              refine K3 (K6 (L0 (K9 ?_)))
              exact fin1 rfl rfl ⟨_, ⟨by first | (simp [borderB, *]; done) | (simp [borderB, namB, *]; done), rfl⟩, hO.none⟩
            · refine l_y rfl rfl (y_assign rfl) ?_
              refine K2 (K3 (L9 (K5 (K8 (K3 (K0 ?_))))))
              refine da_region (by intro c a d v w h; cases d <;> exact h) ?_
              have hO := hO.drew
              refine da_phase _ [3] (SO.ks [.b b2] hO) ?_
              refine dx_u 0 (by kernel_rfl) rfl rfl rfl (fun w => y_fldb (o' := 2) rfl) ?_
              refine dx_y 1 (by kernel_rfl) rfl rfl rfl (fun w ⟨m, hw⟩ => D5 hw rfl) ?_
              refine dx_u 2 (by kernel_rfl) rfl rfl rfl (fun w => y_sliceA rfl) ?_
              refine dx_close 3 (by kernel_rfl) rfl rfl ?_
              refine CK [] hO rfl (fun k' hx hr hO' => sin_spec (ts := bordL) (blk_ro (b := _) hr) (by decide) (hO := hO')) ?_
              rintro _ _ w ⟨rfl, rfl⟩ hO
              refine o_done ?_
              refine da_phase _ [] (SO.ks [] hO) ?_
              refine dx_u 4 (by kernel_rfl) rfl rfl rfl (fun w => y_assign rfl) ?_
              refine dx_end (by kernel_rfl) ?_
              refine K3 (K6 ?_)
              exact fin1 rfl rfl ⟨_, ⟨by first | (simp [borderB, *]; done) | (simp [borderB, namB, *]; done), rfl⟩, hO.none⟩
      · refine l_y rfl rfl (y_assign rfl) ?_
        refine K2 (K3 (L9 (K0 (K1 ?_))))
        refine Z0 (fun h10_0 => ?_) (fun h10_0 => ?_)
        · refine l_y rfl rfl (y_assign rfl) ?_
          refine K2 (K3 (L8 (K0 (K1 ?_))))
          refine l_y rfl rfl (D8 (cs := [.int .i64 n.Kind, .int .i64 n.Space, .string n.Name, .slice n.AttrsP n.Attrs.length n.AttrsC, .string n.Data, .string n.System, .int .i64 n.Parent, .int .i64 n.First, .int .i64 n.Last, .int .i64 n.Prev, .int .i64 n.Next, .int .i64 n.Inner]) hO rfl) ?_
          refine s_lit (parts := [(0, .const (.string ⟨#[98, 117, 116, 116, 111, 110]⟩))]) (enc := eS) [⟨#[98, 117, 116, 116, 111, 110]⟩] [.string ⟨#[98, 117, 116, 116, 111, 110]⟩] hO rfl (fun b31 w hO => ?_)
          refine CK [] hO rfl (fun k' hx hr hO' => named_spec (n := n) (ts := btnL) (sls_roK (p := (some ⟨b31, 0, none⟩)) hr (sls_fct hO)) (by decide) (hO := hO')) ?_
          rintro _ _ w ⟨rfl, rfl⟩ hO
          simp only [List.nil_append] at hO
          refine K2 (K3 ?_)
          refine c_split rfl (fun hc32 => ?_) (fun hc32 => ?_)
          · refine K0 (K1 ?_)
            refine l_y rfl rfl (y_assign rfl) ?_
            refine K2 (K3 (K6 (L0 (K9 ?_))))
            exact fin1 rfl rfl ⟨_, ⟨by first | (simp [borderB, *]; done) | (simp [borderB, namB, *]; done), rfl⟩, hO.none⟩
          · refine K5 (K8 (K3 (K0 (K0 (K1 ?_)))))
            refine l_y rfl rfl (y_fldb (o' := 1) rfl) ?_
            refine l_y rfl rfl (D5 hO rfl) ?_
            refine K2 (K3 (K4 (K0 (K1 ?_))))
            refine Z0 (fun h14_0 => ?_) (fun h14_0 => ?_)
            · refine l_y rfl rfl (y_assign rfl) ?_
              refine K2 (K3 (L8 (K0 ?_)))
              refine da_region (by intro c a d v w h; cases d <;> exact h) ?_
              have hO := hO.drew
              refine da_phase _ [3] (SO.ks [.b b2] hO) ?_
              refine dx_u 0 (by kernel_rfl) rfl rfl rfl (fun w => y_fldb (o' := 2) rfl) ?_
              refine dx_y 1 (by kernel_rfl) rfl rfl rfl (fun w ⟨m, hw⟩ => D5 hw rfl) ?_
              refine dx_u 2 (by kernel_rfl) rfl rfl rfl (fun w => y_sliceA rfl) ?_
              refine dx_close 3 (by kernel_rfl) rfl rfl ?_
              refine CK [] hO rfl (fun k' hx hr hO' => sin_spec (ts := mathL) (blk_ro (b := _) hr) (by decide) (hO := hO')) ?_
              rintro _ _ w ⟨rfl, rfl⟩ hO
              refine o_done ?_
              refine da_phase _ [] (SO.ks [] hO) ?_
              refine dx_u 4 (by kernel_rfl) rfl rfl rfl (fun w => y_assign rfl) ?_
              refine dx_end (by kernel_rfl) ?_
              refine K3 (K6 (L0 (K9 ?_)))
              exact fin1 rfl rfl ⟨_, ⟨by first | (simp [borderB, *]; done) | (simp [borderB, namB, *]; done), rfl⟩, hO.none⟩
            · refine l_y rfl rfl (y_assign rfl) ?_
              refine K2 (K3 (L9 (K0 (K1 ?_))))
              refine Z0 (fun h16_0 => ?_) (fun h16_0 => ?_)
              · refine l_y rfl rfl (y_assign rfl) ?_
                refine K2 (K3 (L8 (K0 ?_)))
                refine da_region (by intro c a d v w h; cases d <;> exact h) ?_
                have hO := hO.drew
                refine da_phase _ [3] (SO.ks [.b b2] hO) ?_
                refine dx_u 0 (by kernel_rfl) rfl rfl rfl (fun w => y_fldb (o' := 2) rfl) ?_
                refine dx_y 1 (by kernel_rfl) rfl rfl rfl (fun w ⟨m, hw⟩ => D5 hw rfl) ?_
                refine dx_u 2 (by kernel_rfl) rfl rfl rfl (fun w => y_sliceA rfl) ?_
                refine dx_close 3 (by kernel_rfl) rfl rfl ?_
                refine CK [] hO rfl (fun k' hx hr hO' => sin_spec (ts := drawL) (blk_ro (b := _) hr) (by decide) (hO := hO')) ?_
                rintro _ _ w ⟨rfl, rfl⟩ hO
                refine o_done ?_
                refine da_phase _ [] (SO.ks [] hO) ?_
                refine dx_u 4 (by kernel_rfl) rfl rfl rfl (fun w => y_assign rfl) ?_
                refine dx_end (by kernel_rfl) ?_
                refine K3 (K6 (L0 (K9 ?_)))
                exact fin1 rfl rfl ⟨_, ⟨by first | (simp [borderB, *]; done) | (simp [borderB, namB, *]; done), rfl⟩, hO.none⟩
              · refine l_y rfl rfl (y_assign rfl) ?_
                refine K2 (K3 (L9 (K5 (K8 (K3 (K0 ?_))))))
                refine da_region (by intro c a d v w h; cases d <;> exact h) ?_
                have hO := hO.drew
                refine da_phase _ [3] (SO.ks [.b b2] hO) ?_
                refine dx_u 0 (by kernel_rfl) rfl rfl rfl (fun w => y_fldb (o' := 2) rfl) ?_
                refine dx_y 1 (by kernel_rfl) rfl rfl rfl (fun w ⟨m, hw⟩ => D5 hw rfl) ?_
                refine dx_u 2 (by kernel_rfl) rfl rfl rfl (fun w => y_sliceA rfl) ?_
                refine dx_close 3 (by kernel_rfl) rfl rfl ?_
                refine CK [] hO rfl (fun k' hx hr hO' => sin_spec (ts := bordL) (blk_ro (b := _) hr) (by decide) (hO := hO')) ?_
                rintro _ _ w ⟨rfl, rfl⟩ hO
                refine o_done ?_
                refine da_phase _ [] (SO.ks [] hO) ?_
                refine dx_u 4 (by kernel_rfl) rfl rfl rfl (fun w => y_assign rfl) ?_
                refine dx_end (by kernel_rfl) ?_
                refine K3 (K6 ?_)
                exact fin1 rfl rfl ⟨_, ⟨by first | (simp [borderB, *]; done) | (simp [borderB, namB, *]; done), rfl⟩, hO.none⟩
        · refine l_y rfl rfl (y_assign rfl) ?_
          refine K2 (K3 (L9 (K5 (K8 (K3 (K0 (K0 (K1 ?_))))))))
          refine l_y rfl rfl (y_fldb (o' := 1) rfl) ?_
          refine l_y rfl rfl (D5 hO rfl) ?_
          refine K2 (K3 (K4 (K0 (K1 ?_))))
          refine Z0 (fun h14_0 => ?_) (fun h14_0 => ?_)
          · refine l_y rfl rfl (y_assign rfl) ?_
            refine K2 (K3 (L8 (K0 ?_)))
            refine da_region (by intro c a d v w h; cases d <;> exact h) ?_
            have hO := hO.drew
            refine da_phase _ [3] (SO.ks [.b b2] hO) ?_
            refine dx_u 0 (by kernel_rfl) rfl rfl rfl (fun w => y_fldb (o' := 2) rfl) ?_
            refine dx_y 1 (by kernel_rfl) rfl rfl rfl (fun w ⟨m, hw⟩ => D5 hw rfl) ?_
            refine dx_u 2 (by kernel_rfl) rfl rfl rfl (fun w => y_sliceA rfl) ?_
            refine dx_close 3 (by kernel_rfl) rfl rfl ?_
            refine CK [] hO rfl (fun k' hx hr hO' => sin_spec (ts := mathL) (blk_ro (b := _) hr) (by decide) (hO := hO')) ?_
            rintro _ _ w ⟨rfl, rfl⟩ hO
            refine o_done ?_
            refine da_phase _ [] (SO.ks [] hO) ?_
            refine dx_u 4 (by kernel_rfl) rfl rfl rfl (fun w => y_assign rfl) ?_
            refine dx_end (by kernel_rfl) ?_
            refine K3 (K6 (L0 (K9 ?_)))
            exact fin1 rfl rfl ⟨_, ⟨by first | (simp [borderB, *]; done) | (simp [borderB, namB, *]; done), rfl⟩, hO.none⟩
          · refine l_y rfl rfl (y_assign rfl) ?_
            refine K2 (K3 (L9 (K0 (K1 ?_))))
            refine Z0 (fun h16_0 => ?_) (fun h16_0 => ?_)
            · refine l_y rfl rfl (y_assign rfl) ?_
              refine K2 (K3 (L8 (K0 ?_)))
              refine da_region (by intro c a d v w h; cases d <;> exact h) ?_
              have hO := hO.drew
              refine da_phase _ [3] (SO.ks [.b b2] hO) ?_
              refine dx_u 0 (by kernel_rfl) rfl rfl rfl (fun w => y_fldb (o' := 2) rfl) ?_
              refine dx_y 1 (by kernel_rfl) rfl rfl rfl (fun w ⟨m, hw⟩ => D5 hw rfl) ?_
              refine dx_u 2 (by kernel_rfl) rfl rfl rfl (fun w => y_sliceA rfl) ?_
              refine dx_close 3 (by kernel_rfl) rfl rfl ?_
              refine CK [] hO rfl (fun k' hx hr hO' => sin_spec (ts := drawL) (blk_ro (b := _) hr) (by decide) (hO := hO')) ?_
              rintro _ _ w ⟨rfl, rfl⟩ hO
              refine o_done ?_
              refine da_phase _ [] (SO.ks [] hO) ?_
              refine dx_u 4 (by kernel_rfl) rfl rfl rfl (fun w => y_assign rfl) ?_
              refine dx_end (by kernel_rfl) ?_
              refine K3 (K6 (L0 (K9 ?_)))
              exact fin1 rfl rfl ⟨_, ⟨by first | (simp [borderB, *]; done) | (simp [borderB, namB, *]; done), rfl⟩, hO.none⟩
            · refine l_y rfl rfl (y_assign rfl) ?_
              refine K2 (K3 (L9 (K5 (K8 (K3 (K0 ?_))))))
              refine da_region (by intro c a d v w h; cases d <;> exact h) ?_
              have hO := hO.drew
              refine da_phase _ [3] (SO.ks [.b b2] hO) ?_
              refine dx_u 0 (by kernel_rfl) rfl rfl rfl (fun w => y_fldb (o' := 2) rfl) ?_
              refine dx_y 1 (by kernel_rfl) rfl rfl rfl (fun w ⟨m, hw⟩ => D5 hw rfl) ?_
              refine dx_u 2 (by kernel_rfl) rfl rfl rfl (fun w => y_sliceA rfl) ?_
              refine dx_close 3 (by kernel_rfl) rfl rfl ?_
              refine CK [] hO rfl (fun k' hx hr hO' => sin_spec (ts := bordL) (blk_ro (b := _) hr) (by decide) (hO := hO')) ?_
              rintro _ _ w ⟨rfl, rfl⟩ hO
              refine o_done ?_
              refine da_phase _ [] (SO.ks [] hO) ?_
              refine dx_u 4 (by kernel_rfl) rfl rfl rfl (fun w => y_assign rfl) ?_
              refine dx_end (by kernel_rfl) ?_
              refine K3 (K6 ?_)
              exact fin1 rfl rfl ⟨_, ⟨by first | (simp [borderB, *]; done) | (simp [borderB, namB, *]; done), rfl⟩, hO.none⟩
/-- the last that is one, unless there is a border first -/
def scanR (is bd : Int → Bool) : List Int → Bool
  | [] => false
  | x :: r => if is x = true then true else if bd x = true then false else scanR is bd r
def scopeG (is bd : Int → Bool) (l : List Int) : Bool := scanR is bd l.reverse
theorem scopeG_snoc (is bd : Int → Bool) (l : List Int) (x : Int) : scopeG is bd (l ++ [x]) = if is x = true then true else if bd x = true then false else scopeG is bd l := by simp [scopeG, scanR]
def bdA (A : List Node_one) (kind : Int) (x : Int) : Bool := borderB kind (at_ A x.toNat).Node.Space (at_ A x.toNat).Node.Name
def namA (A : List Node_one) (ts : List ByteArray) (x : Int) : Bool := namB (at_ A x.toNat).Node.Space (at_ A x.toNat).Node.Name ts
def AllEl (A : List Node_one) (l : List Int) : Prop := ∀ x ∈ l, elB A x = true
theorem NV.bd {A : List Node_one} {x kind : Int} {n : Api_node} (h : NV A x n) (he : elB A x = true) : borderB kind n.Space n.Name = bdA A kind x := by rw [h.space (elB_has he), h.name (elB_has he)]; rfl
theorem NV.nam {A : List Node_one} {x : Int} {n : Api_node} {ts : List ByteArray} (h : NV A x n) (he : elB A x = true) : namB n.Space n.Name ts = namA A ts x := by rw [h.space (elB_has he), h.name (elB_has he)]; rfl
def scopeL (A : List Node_one) (is : Int → Bool) (kind : Int) (l : List Int) : Bool := if kind < 0 ∨ 4 < kind then false else scopeG is (bdA A kind) l
set_option maxHeartbeats 1000000 in
theorem scope_spec {k : Ctx} {w : World} {s a c : Nat} {p : Option Addr} {l : List Int} {A : List Node_one} {kind : Int} {f : FuncId} [hf : Fun Tryz.prog f] {caps : List Value} {C : List HP} {isN : Int → Api_node → Bool} {is : Int → Bool}
    (hcall : ∀ k' w' x n, Own k' w' [sep C] → Tri Tryz.prog f ([Value.int .i64 x, .agg (Api_node.cells n).toArray] ++ caps).toArray k' w' fun v m => v = .bool (isN x n) ∧ m = [sep C])
    (his : ∀ x n, elB A x = true → NV A x n → isN x n = is x) (hn : 0 < A.length) (ha : AttrsOk A) (hel : AllEl A l) (hg : Gs p l.length) (hl : l.length ≤ 1000000) (hO : Own k w [arenaL a A, sB s a p l.length c, sI p c l, sep C]) :
    Tri Tryz.prog 216 #[.pointer (some ⟨s, 0, none⟩), .int .i64 kind, .func (.func f) #[] caps.toArray] k w fun v m => v = .bool (scopeL A is kind l) ∧ m = [arenaL a A, sB s a p l.length c, sI p c l] := by
  refine enter (args := [.pointer (some ⟨s, 0, none⟩), .int .i64 kind, .func (.func f) #[] caps.toArray]) Tryz.func216 rfl rfl ?_
  refine K0 (K1 ?_)
  refine l_y rfl rfl (y_assign rfl) ?_
  refine K2 (K3 (K0 (K0 (K1 ?_))))
  refine l_y rfl rfl (y_move rfl) ?_
  refine Z0 (fun h1_1 => ?_) (fun h1_1 => ?_)
  · refine l_y rfl rfl (y_move rfl) ?_
    repeat refine M2 ?_
    refine l_y rfl rfl (y_pick_t rfl rfl) ?_
    refine K2 (K3 (L8 (K0 (K1 ?_))))
    refine l_y rfl rfl (y_assign rfl) ?_
    refine K2 (K3 (K6 (K9 ?_)))
    exact fin1 rfl rfl ⟨_, ⟨by rw [scopeL, if_pos (by omega)], rfl⟩, hO.only [.o a, .b s, .p p]⟩
  · refine l_y rfl rfl (y_move rfl) ?_
    refine l_y rfl rfl (y_move rfl) ?_
    refine Z0 (fun h1_4 => ?_) (fun h1_4 => ?_)
    · refine l_y rfl rfl (y_pick_f rfl rfl) ?_
      refine K2 (K3 (L8 (K0 (K1 ?_))))
      refine l_y rfl rfl (y_assign rfl) ?_
      refine K2 (K3 (K6 (K9 ?_)))
      exact fin1 rfl rfl ⟨_, ⟨by rw [scopeL, if_pos (by omega)], rfl⟩, hO.only [.o a, .b s, .p p]⟩
    · refine l_y rfl rfl (y_pick_f rfl rfl) ?_
      refine K2 (K3 (L9 (K5 (K3 (K0 (K0 ?_))))))
      have hk : scopeL A is kind l = scopeG is (bdA A kind) l := by rw [scopeL, if_neg (by omega)]
      refine K1 ?_
      refine l_y rfl rfl (y_move rfl) ?_
      refine CK [.b s] hO rfl (fun k' hx hr hO' => sLen_spec (hO := hO')) ?_
      rintro _ _ w ⟨rfl, rfl⟩ hO
      simp only [List.cons_append, List.nil_append] at hO
      refine l_y rfl rfl (D4) ?_
      refine l_y rfl rfl (y_assign rfl) ?_
      refine K2 (K3 (K4 ?_))
      refine c_rounds (X := Int) (fun i => [(0, .pointer (some ⟨s, 0, none⟩)), (1, .int .i64 kind), (2, .func (.func f) #[] caps.toArray), (6, .bool false), (7, .int .i64 i)]) (fun i w => Own k w [arenaL a A, sB s a p l.length c, sI p c l, sep C] ∧ (-1 ≤ i ∧ i < l.length) ∧ (scopeG is (bdA A kind) l = scopeG is (bdA A kind) (l.take (i + 1).toNat))) (fun i => (i + 1).toNat) ((l.length : Int) - 1) ⟨rfl, rfl, rfl, rfl, rfl, trivial⟩ ⟨hO.only [.o a, .b s, .p p, .s], ⟨by omega, by omega⟩, by rw [List.take_of_length_le (by omega)]⟩ ?_
      rintro i w m hm ⟨hO, hi, hs⟩
      refine K0 (K0 (K1 ?_))
      refine l_y rfl rfl (y_move rfl) ?_
      refine Z0 (fun h4_1 => ?_) (fun h4_1 => ?_)
      · refine K2 (K3 (L8 (K5 (K3 (K0 (K4 (K0 ?_)))))))
        have hxe : elB A (at_ l i.toNat) = true := hel _ (at_mem (by omega))
        have hs2 := hs
        rw [show (i + 1).toNat = i.toNat + 1 by omega, take_succ_at (by omega), scopeG_snoc] at hs2
        refine K1 ?_
        refine l_y rfl rfl (y_move rfl) ?_
        refine l_y rfl rfl (y_move rfl) ?_
        refine l_y rfl rfl (y_nilCheck rfl rfl) ?_
        refine l_y rfl rfl (y_fldb (o' := 1) rfl) ?_
        refine l_y rfl rfl (y_fldb (o' := 1) rfl) ?_
        refine l_y rfl rfl (D5 hO rfl) ?_
        refine l_y rfl rfl (y_move rfl) ?_
        refine l_y rfl rfl (y_idx rfl rfl) ?_
        refine l_y rfl rfl (y_e1 (x0 := 0) hO rfl) ?_
        refine CK [.o a, .b s] hO rfl (fun k' hx hr hO' => look_spec hn ha (hO := hO')) ?_
        rintro _ _ w ⟨x6_9, hx6_9, rfl, rfl⟩ hO
        simp only [List.cons_append, List.nil_append] at hO
        refine l_y rfl rfl (y_move rfl) ?_
        refine l_y rfl rfl (y_extract rfl rfl) ?_
        refine l_y rfl rfl (y_extract rfl rfl) ?_
        refine s_alloc (vs := [.int .i64 0, .int .i64 0, .string ⟨#[]⟩, .slice none 0 0, .string ⟨#[]⟩, .string ⟨#[]⟩, .int .i64 0, .int .i64 0, .int .i64 0, .int .i64 0, .int .i64 0, .int .i64 0]) hO rfl rfl rfl fun b8 w hO => ?_
        refine Y3 hO rfl rfl (fun w hO => ?_)
        refine l_y rfl rfl (y_assign rfl) ?_
        refine K2 (K3 (K0 (K0 ?_)))
        have e1 := his _ _ hxe hx6_9
        have e2 := NV.bd (kind := kind) hx6_9 hxe
        refine da_region (by intro c a d v w h; cases d <;> exact h) ?_
        have hO := hO.drew
        refine da_phase _ [10] (SO.ks [.b s, .p p, .b b8] hO) ?_
        refine dx_u 0 (by kernel_rfl) rfl rfl rfl (fun w => y_move rfl) ?_
        refine dx_u 1 (by kernel_rfl) rfl rfl rfl (fun w => y_move rfl) ?_
        refine dx_u 2 (by kernel_rfl) rfl rfl rfl (fun w => y_nilCheck rfl rfl) ?_
        refine dx_u 3 (by kernel_rfl) rfl rfl rfl (fun w => y_fldb (o' := 1) rfl) ?_
        refine dx_u 4 (by kernel_rfl) rfl rfl rfl (fun w => y_fldb (o' := 1) rfl) ?_
        refine dx_y 5 (by kernel_rfl) rfl rfl rfl (fun w ⟨m, hw⟩ => D5 hw rfl) ?_
        refine dx_u 6 (by kernel_rfl) rfl rfl rfl (fun w => y_move rfl) ?_
        refine dx_u 7 (by kernel_rfl) rfl rfl rfl (fun w => y_idx rfl rfl) ?_
        refine dx_y 8 (by kernel_rfl) rfl rfl rfl (fun w ⟨m, hw⟩ => y_e1 (x0 := 0) hw rfl) ?_
        refine dx_y 9 (by kernel_rfl) rfl rfl rfl (fun w ⟨m, hw⟩ => D8 (cs := [.int .i64 x6_9.Kind, .int .i64 x6_9.Space, .string x6_9.Name, .slice x6_9.AttrsP x6_9.Attrs.length x6_9.AttrsC, .string x6_9.Data, .string x6_9.System, .int .i64 x6_9.Parent, .int .i64 x6_9.First, .int .i64 x6_9.Last, .int .i64 x6_9.Prev, .int .i64 x6_9.Next, .int .i64 x6_9.Inner]) hw rfl) ?_
        refine dx_close 10 (by kernel_rfl) rfl rfl ?_
        refine CKv [.s] hO rfl rfl (fun k' hx hr hO' => hcall k' _ (at_ l i.toNat) x6_9 hO') ?_
        rintro _ _ w ⟨rfl, rfl⟩ hO
        simp only [List.cons_append, List.nil_append] at hO
        rw [e1]
        refine o_done ?_
        refine da_end (by kernel_rfl) ?_
        refine K3 ?_
        refine c_split rfl (fun hc46 => ?_) (fun hc46 => ?_)
        · refine K0 (K1 ?_)
          refine l_y rfl rfl (y_assign rfl) ?_
          refine K2 (K3 (K6 (K9 (L0 (K9 (K9 (L0 (K9 ?_))))))))
          exact fin1 rfl rfl ⟨_, ⟨by rw [hk, hs2, if_pos hc46], rfl⟩, hO.only [.o a, .b s, .p p]⟩
        · refine K5 (K3 (K0 (K1 ?_)))
          refine l_y rfl rfl (D8 (cs := [.int .i64 x6_9.Kind, .int .i64 x6_9.Space, .string x6_9.Name, .slice x6_9.AttrsP x6_9.Attrs.length x6_9.AttrsC, .string x6_9.Data, .string x6_9.System, .int .i64 x6_9.Parent, .int .i64 x6_9.First, .int .i64 x6_9.Last, .int .i64 x6_9.Prev, .int .i64 x6_9.Next, .int .i64 x6_9.Inner]) hO rfl) ?_
          refine l_y rfl rfl (y_move rfl) ?_
          refine CK [] hO rfl (fun k' hx hr hO' => border_spec (n := x6_9) (hO := hO')) ?_
          rintro _ _ w ⟨rfl, rfl⟩ hO
          simp only [List.cons_append, List.nil_append] at hO
          rw [e2]
          refine K2 (K3 ?_)
          refine c_split rfl (fun hc49 => ?_) (fun hc49 => ?_)
          · refine K0 (K1 ?_)
            refine l_y rfl rfl (y_assign rfl) ?_
            refine K2 (K3 (K6 (L0 (K9 (K9 (L0 (K9 ?_)))))))
            exact fin1 rfl rfl ⟨_, ⟨by rw [hk, hs2, if_neg (by simp [hc46]), if_pos hc49], rfl⟩, hO.only [.o a, .b s, .p p]⟩
          · refine K5 (K8 (K3 (K1 ?_)))
            refine l_y rfl rfl (y_move rfl) ?_
            refine l_y rfl rfl (D4) ?_
            refine l_y rfl rfl (y_assign rfl) ?_
            refine K2 ?_
            exact q_next (i - 1) ⟨rfl, rfl, rfl, rfl, rfl, trivial⟩ ⟨hO.only [.o a, .b s, .p p, .s], ⟨by omega, by omega⟩, by rw [hs2, if_neg (by simp [hc46]), if_neg (by simp [hc49]), show (i - 1 + 1).toNat = i.toNat by omega]⟩ (by omega)
      · refine K2 (K3 (L9 (K7 (L1 (L1 (L2 (K3 (K0 (K1 ?_)))))))))
        refine l_y rfl rfl (y_assign rfl) ?_
        refine K2 (K3 (K6 ?_))
        exact fin1 rfl rfl ⟨_, ⟨by rw [hk, hs, show (i + 1).toNat = 0 by omega]; rfl, rfl⟩, hO.only [.o a, .b s, .p p]⟩
end Go.Proofs.YtpejdlfkaaiehaaGreatDoor
end
section
set_option linter.unusedVariables false
set_option linter.unusedSimpArgs false
set_option maxRecDepth 100000
namespace Go.Proofs.YtpejdlfkaaiehaaGreatDoor
open Go Go.Hb Go.RowKit
theorem ScopeC_spec {k : Ctx} {w : World} {b : Nat} {x : Int} {n : Api_node} {name : ByteArray} (hO : Own k w [sep [blk b 9 [.string name]]]) :
    Tri Tryz.prog 217 #[.int .i64 x, .agg (Api_node.cells n).toArray, .pointer (some ⟨b, 0, none⟩)] k w fun v m => v = .bool (namB n.Space n.Name [name]) ∧ m = [sep [blk b 9 [.string name]]] := by
  refine enter (args := [.int .i64 x, .agg (Api_node.cells n).toArray, .pointer (some ⟨b, 0, none⟩)]) Tryz.func217 rfl rfl ?_
  have hO := Own.open hO
  simp only [List.cons_append, List.nil_append] at hO
  refine K0 (K1 ?_)
  refine s_box (vs := [.int .i64 n.Kind, .int .i64 n.Space, .string n.Name, .slice n.AttrsP n.Attrs.length n.AttrsC, .string n.Data, .string n.System, .int .i64 n.Parent, .int .i64 n.First, .int .i64 n.Last, .int .i64 n.Prev, .int .i64 n.Next, .int .i64 n.Inner]) hO rfl rfl rfl (by rfl) fun b4 w hO => ?_
  refine l_y rfl rfl (y_assign rfl) ?_
  refine K2 (K3 (K0 (K1 ?_)))
  refine l_y rfl rfl (D8 (cs := [.int .i64 n.Kind, .int .i64 n.Space, .string n.Name, .slice n.AttrsP n.Attrs.length n.AttrsC, .string n.Data, .string n.System, .int .i64 n.Parent, .int .i64 n.First, .int .i64 n.Last, .int .i64 n.Prev, .int .i64 n.Next, .int .i64 n.Inner]) hO rfl) ?_
  refine l_y rfl rfl (D5 hO rfl) ?_
  refine s_lit (parts := [(0, .tmp 7)]) (enc := eS) [name] [.string name] hO rfl (fun b8 w hO => ?_)
  refine CK [] hO rfl (fun k' hx hr hO' => named_spec (n := n) (ts := [name]) (sls_roK (p := (some ⟨b8, 0, none⟩)) hr (sls_fct hO)) (by simp) (hO := hO')) ?_
  rintro _ _ w ⟨rfl, rfl⟩ hO
  simp only [List.nil_append] at hO
  refine l_y rfl rfl (y_assign rfl) ?_
  refine K2 (K3 (K6 ?_))
  exact fin1 rfl rfl ⟨_, ⟨rfl, rfl⟩, (Own.shut (l := [blk b 9 [.string name]]) (hO.ks [.b b])).one⟩
theorem sScope_spec {k : Ctx} {w : World} {s a : Nat} {l : List Int} {A : List Node_one} {name : ByteArray} {kind : Int} (hn : 0 < A.length) (ha : AttrsOk A) (hel : AllEl A l) (hl : l.length ≤ 1000000) (hO : Own k w [arenaL a A, stkL s a l]) :
    Tri Tryz.prog 176 #[.pointer (some ⟨s, 0, none⟩), .string name, .int .i64 kind] k w fun v m => v = .bool (scopeL A (namA A [name]) kind l) ∧ m = [arenaL a A, stkL s a l] := by
  refine enter (args := [.pointer (some ⟨s, 0, none⟩), .string name, .int .i64 kind]) Tryz.func176 rfl rfl ?_
  obtain ⟨p, c, hg, hlc, hO⟩ := stkL_open (hO.ks [.o s])
  refine K0 (K1 ?_)
  refine s_box (vs := [.string name]) hO rfl rfl rfl (by rfl) fun b4 w hO => ?_
  refine l_y rfl rfl (y_assign rfl) ?_
  refine K2 (K3 (K0 (K1 ?_)))
  refine l_y rfl rfl (y_move rfl) ?_
  refine l_y rfl rfl (y_move rfl) ?_
  refine l_y rfl rfl (y_makeFunc rfl rfl) ?_
  have hO := (Own.shut (l := [blk b4 9 [.string name]]) (hO.ks [.b b4])).ks [.o a, .b s, .p p, .s]
  refine CK [.o a, .b s, .p p, .s] hO rfl (fun k' hx hr hO' => scope_spec (caps := [.pointer (some ⟨b4, 0, none⟩)]) (isN := fun _ n => namB n.Space n.Name [name]) (is := namA A [name]) (fun k' w' x n hO => ScopeC_spec hO) (fun x n he hx => hx.nam he) hn ha hel hg hl (hO := hO')) ?_
  rintro _ _ w ⟨rfl, rfl⟩ hO
  simp only [List.cons_append, List.nil_append] at hO
  refine l_y rfl rfl (y_assign rfl) ?_
  refine K2 (K3 (K6 ?_))
  exact fin1 rfl rfl ⟨_, ⟨rfl, rfl⟩, ((stkL_shut (hO.ks [.b s, .p p])).ks [.o a, .o s]).two⟩
/-- up to and with the last that is one -/
def popR (p : Int → Bool) : List Int → Option (List Int)
  | [] => none
  | x :: r => if p x = true then some r else popR p r
def popTo (p : Int → Bool) (l : List Int) : Bool × List Int := match popR p l.reverse with | some r => (true, r.reverse) | none => (false, l)
theorem popR_snoc (p : Int → Bool) (l : List Int) (x : Int) : popR p (l ++ [x]).reverse = if p x = true then some l.reverse else popR p l.reverse := by simp [popR]
theorem popTo_yes {p : Int → Bool} {l m : List Int} (h : popR p l.reverse = some m.reverse) : popTo p l = (true, m) := by rw [popTo, h]; simp
theorem popTo_no {p : Int → Bool} {l : List Int} (h : popR p l.reverse = none) : popTo p l = (false, l) := by rw [popTo, h]
set_option maxHeartbeats 1000000 in
theorem sPopTo_spec {k : Ctx} {w : World} {s a : Nat} {l : List Int} {A : List Node_one} {name : ByteArray} (hn : 0 < A.length) (ha : AttrsOk A) (hel : AllEl A l) (hl : l.length ≤ 1000000) (hO : Own k w [arenaL a A, stkL s a l]) :
    Tri Tryz.prog 126 #[.pointer (some ⟨s, 0, none⟩), .string name] k w fun v m => v = .bool (popTo (namA A [name]) l).1 ∧ m = [arenaL a A, stkL s a (popTo (namA A [name]) l).2] := by
  refine enter (args := [.pointer (some ⟨s, 0, none⟩), .string name]) Tryz.func126 rfl rfl ?_
  obtain ⟨p, c, hg, hlc, hO⟩ := stkL_open (hO.ks [.o s])
  refine K0 (K1 ?_)
  refine l_y rfl rfl (y_assign rfl) ?_
  refine K2 (K3 (K0 (K0 (K1 ?_))))
  refine l_y rfl rfl (y_move rfl) ?_
  refine CK [.b s] hO rfl (fun k' hx hr hO' => sLen_spec (hO := hO')) ?_
  rintro _ _ w ⟨rfl, rfl⟩ hO
  simp only [List.cons_append, List.nil_append] at hO
  refine l_y rfl rfl (D4) ?_
  refine l_y rfl rfl (y_assign rfl) ?_
  refine K2 (K3 (K4 ?_))
  refine c_rounds (X := Int) (fun i => [(0, .pointer (some ⟨s, 0, none⟩)), (1, .string name), (4, .bool false), (5, .int .i64 i)]) (fun i w => Own k w [arenaL a A, sB s a p l.length c, sI p c l] ∧ (-1 ≤ i ∧ i < l.length) ∧ (popR (namA A [name]) l.reverse = popR (namA A [name]) (l.take (i + 1).toNat).reverse)) (fun i => (i + 1).toNat) ((l.length : Int) - 1) ⟨rfl, rfl, rfl, rfl, trivial⟩ ⟨hO.only [.o a, .b s, .p p], ⟨by omega, by omega⟩, by rw [List.take_of_length_le (by omega)]⟩ ?_
  rintro i w m hm ⟨hO, hi, hs⟩
  refine K0 (K0 (K1 ?_))
  refine l_y rfl rfl (y_move rfl) ?_
  refine Z0 (fun h2_1 => ?_) (fun h2_1 => ?_)
  · refine K2 (K3 (L8 (K5 (K3 (K0 (K4 (K0 ?_)))))))
    have hxe : elB A (at_ l i.toNat) = true := hel _ (at_mem (by omega))
    have hs2 := hs
    rw [show (i + 1).toNat = i.toNat + 1 by omega, take_succ_at (by omega), popR_snoc] at hs2
    refine K1 ?_
    refine l_y rfl rfl (y_move rfl) ?_
    refine l_y rfl rfl (y_move rfl) ?_
    refine l_y rfl rfl (y_nilCheck rfl rfl) ?_
    refine l_y rfl rfl (y_fldb (o' := 1) rfl) ?_
    refine l_y rfl rfl (y_fldb (o' := 1) rfl) ?_
    refine l_y rfl rfl (D5 hO rfl) ?_
    refine l_y rfl rfl (y_move rfl) ?_
    refine l_y rfl rfl (y_idx rfl rfl) ?_
    refine l_y rfl rfl (y_e1 (x0 := 0) hO rfl) ?_
    refine CK [.o a, .b s] hO rfl (fun k' hx hr hO' => look_spec hn ha (hO := hO')) ?_
    rintro _ _ w ⟨x4_9, hx4_9, rfl, rfl⟩ hO
    simp only [List.cons_append, List.nil_append] at hO
    refine l_y rfl rfl (y_move rfl) ?_
    refine l_y rfl rfl (y_extract rfl rfl) ?_
    refine l_y rfl rfl (y_extract rfl rfl) ?_
    refine s_alloc (vs := [.int .i64 0, .int .i64 0, .string ⟨#[]⟩, .slice none 0 0, .string ⟨#[]⟩, .string ⟨#[]⟩, .int .i64 0, .int .i64 0, .int .i64 0, .int .i64 0, .int .i64 0, .int .i64 0]) hO rfl rfl rfl fun b6 w hO => ?_
    refine Y3 hO rfl rfl (fun w hO => ?_)
    refine l_y rfl rfl (y_assign rfl) ?_
    refine K2 (K3 (K0 (K1 ?_)))
    refine l_y rfl rfl (D8 (cs := [.int .i64 x4_9.Kind, .int .i64 x4_9.Space, .string x4_9.Name, .slice x4_9.AttrsP x4_9.Attrs.length x4_9.AttrsC, .string x4_9.Data, .string x4_9.System, .int .i64 x4_9.Parent, .int .i64 x4_9.First, .int .i64 x4_9.Last, .int .i64 x4_9.Prev, .int .i64 x4_9.Next, .int .i64 x4_9.Inner]) hO rfl) ?_
    refine l_y rfl rfl (y_move rfl) ?_
    refine s_lit (parts := [(0, .tmp 29)]) (enc := eS) [name] [.string name] hO rfl (fun b30 w hO => ?_)
    refine CK [] hO rfl (fun k' hx hr hO' => named_spec (n := x4_9) (ts := [name]) (sls_roK (p := (some ⟨b30, 0, none⟩)) hr (sls_fct hO)) (by simp) (hO := hO')) ?_
    rintro _ _ w ⟨rfl, rfl⟩ hO
    rw [NV.nam hx4_9 hxe]
    simp only [List.nil_append] at hO
    refine K2 (K3 ?_)
    refine c_split rfl (fun hc31 => ?_) (fun hc31 => ?_)
    · refine K0 (K1 ?_)
      refine l_y rfl rfl (y_move rfl) ?_
      refine l_y rfl rfl (y_move rfl) ?_
      refine CK [.b s, .p p] hO rfl (fun k' hx hr hO' => sCut_spec (i := i.toNat) (by omega) (by omega) (hO := stkL_shut hO')) ?_
      rintro _ _ w ⟨rfl, rfl⟩ hO
      simp only [List.cons_append, List.nil_append] at hO
      refine K2 (K3 (K0 (K1 ?_)))
      refine l_y rfl rfl (y_assign rfl) ?_
      refine K2 (K3 (K6 (L0 (K9 (K9 (L0 (K9 ?_)))))))
      rw [popTo_yes (m := l.take i.toNat) (by rw [hs2, if_pos hc31])]
      exact fin1 rfl rfl ⟨_, ⟨rfl, rfl⟩, hO.only [.o a, .o s]⟩
    · refine K5 (K8 (K3 (K1 ?_)))
      refine l_y rfl rfl (y_move rfl) ?_
      refine l_y rfl rfl (D4) ?_
      refine l_y rfl rfl (y_assign rfl) ?_
      refine K2 ?_
      exact q_next (i - 1) ⟨rfl, rfl, rfl, rfl, trivial⟩ ⟨hO.only [.o a, .b s, .p p], ⟨by omega, by omega⟩, by rw [hs2, if_neg (by simp [hc31]), show (i - 1 + 1).toNat = i.toNat by omega]⟩ (by omega)
  · refine K2 (K3 (L9 (K7 (L1 (L1 (L2 (K3 (K0 (K1 ?_)))))))))
    refine l_y rfl rfl (y_assign rfl) ?_
    refine K2 (K3 (K6 ?_))
    rw [popTo_no (by rw [hs, show (i + 1).toNat = 0 by omega]; rfl)]
    exact fin1 rfl rfl ⟨_, ⟨rfl, rfl⟩, ((stkL_shut (hO.ks [.b s, .p p])).ks [.o a, .o s]).two⟩
def dropL (is : Int → Bool) (l : List Int) : List Int := (l.reverse.dropWhile is).reverse
theorem dropL_snoc (is : Int → Bool) (l : List Int) (x : Int) : dropL is (l ++ [x]) = if is x = true then dropL is l else l ++ [x] := by
  simp only [dropL, List.reverse_append, List.reverse_cons, List.reverse_nil, List.nil_append, List.cons_append, List.dropWhile_cons]
  split <;> simp
theorem dropL_len (is : Int → Bool) : ∀ (l : List Int), (dropL is l).length ≤ l.length := fun l => by
  simp only [dropL, List.length_reverse]
  have := List.dropWhile_suffix is (l := l.reverse)
  simpa using this.length_le
theorem topI_at {l : List Int} (h : 0 < l.length) : topI l = at_ l (l.length - 1) := by rw [topI, atI, if_neg (by omega)]; congr 1; omega
theorem take_top {l : List Int} (h : 0 < l.length) : l = l.take (l.length - 1) ++ [topI l] := by
  rw [topI_at h, ← take_succ_at (by omega), List.take_of_length_le (by omega)]
theorem AllEl.take {A : List Node_one} {l : List Int} (h : AllEl A l) (i : Nat) : AllEl A (l.take i) := fun x hx => h x (List.mem_of_mem_take hx)
theorem AllEl.ne {A : List Node_one} {l : List Int} (h : AllEl A l) : ∀ x ∈ l, x ≠ -1 := fun x hx e => by
  have := hasB_true (elB_has (h x hx)); omega
theorem sLenC_spec {k : Ctx} {w : World} {s a : Nat} {l : List Int} (hO : Own k w [stkL s a l]) : Tri Tryz.prog 27 #[.pointer (some ⟨s, 0, none⟩)] k w fun v m => v = .int .i64 ((l.length : Nat) : Int) ∧ m = [stkL s a l] := by
  obtain ⟨p, c, hg, hlc, hO⟩ := stkL_open hO
  refine Ret.mono (Ret.framed hO (.cons (.hd _ _) (.nil _)) fun k' _ _ hO' => sLen_spec hO') ?_
  rintro v w' ⟨m, ⟨rfl, rfl⟩, hO⟩
  exact ⟨_, ⟨rfl, rfl⟩, stkL_shut hO⟩
theorem sTopC_spec {k : Ctx} {w : World} {s a : Nat} {l : List Int} {x : Int} (hl : l.length ≤ 1000000) (hO : Own k w [stkL s a l]) : Tri Tryz.prog 72 #[.pointer (some ⟨s, 0, none⟩)] k w fun v m => v = .int .i64 (topI l) ∧ m = [stkL s a l] := by
  obtain ⟨p, c, hg, hlc, hO⟩ := stkL_open hO
  refine Ret.mono (sTop_spec hg hl hO) ?_
  rintro v w' ⟨m, ⟨rfl, rfl⟩, hO⟩
  exact ⟨_, ⟨rfl, rfl⟩, stkL_shut hO⟩
theorem sFindC_spec {k : Ctx} {w : World} {s a : Nat} {l : List Int} {x : Int} (hl : l.length ≤ 1000000) (hO : Own k w [stkL s a l]) : Tri Tryz.prog 155 #[.pointer (some ⟨s, 0, none⟩), .int .i64 x] k w fun v m => v = .int .i64 (findI l x) ∧ m = [stkL s a l] := by
  obtain ⟨p, c, hg, hlc, hO⟩ := stkL_open hO
  refine Ret.mono (sFind_spec hg hl hO) ?_
  rintro v w' ⟨m, ⟨rfl, rfl⟩, hO⟩
  exact ⟨_, ⟨rfl, rfl⟩, stkL_shut hO⟩
theorem sAtC_spec {k : Ctx} {w : World} {s a : Nat} {l : List Int} {x : Int} (hl : l.length ≤ 1000000) (hO : Own k w [stkL s a l]) : Tri Tryz.prog 28 #[.pointer (some ⟨s, 0, none⟩), .int .i64 x] k w fun v m => v = .int .i64 (atI l x) ∧ m = [stkL s a l] := by
  obtain ⟨p, c, hg, hlc, hO⟩ := stkL_open hO
  refine Ret.mono (sAt_spec hg hO) ?_
  rintro v w' ⟨m, ⟨rfl, rfl⟩, hO⟩
  exact ⟨_, ⟨rfl, rfl⟩, stkL_shut hO⟩
theorem lookC_spec {k : Ctx} {w : World} {s a : Nat} {l : List Int} {A : List Node_one} {id : Int} (hn : 0 < A.length) (ha : AttrsOk A) (hO : Own k w [arenaL a A, stkL s a l]) :
    Tri Tryz.prog 177 #[.pointer (some ⟨s, 0, none⟩), .int .i64 id] k w fun v m => ∃ x, NV A id x ∧ v = .tuple #[.agg (Api_node.cells x).toArray, .bool (elB A id)] ∧ m = [arenaL a A, stkL s a l] := by
  obtain ⟨p, c, hg, hlc, hO⟩ := stkL_open (hO.ks [.o s])
  refine Ret.mono (Ret.framed (hO.ks [.o a, .b s, .p p]) (.cons (.hd _ _) (.cons (.hd _ _) (.nil _))) fun k' _ _ hO' => look_spec hn ha hO') ?_
  rintro v w' ⟨m, ⟨x, hx, rfl, rfl⟩, hO⟩
  have hO : Own k w' [arenaL a A, sB s a p l.length c, sI p c l] := hO
  exact ⟨_, ⟨x, hx, rfl, rfl⟩, ((stkL_shut (hO.ks [.b s, .p p])).ks [.o a, .o s]).two⟩
set_option maxHeartbeats 1000000 in
theorem drop_spec {k : Ctx} {w : World} {s a : Nat} {l : List Int} {A : List Node_one} {f : FuncId} [hf : Fun Tryz.prog f] {caps : List Value} {C : List HP} {isN : Api_node → Bool} {is : Int → Bool}
    (hcall : ∀ k' w' n, Own k' w' [sep C] → Tri Tryz.prog f ([Value.agg (Api_node.cells n).toArray] ++ caps).toArray k' w' fun v m => v = .bool (isN n) ∧ m = [sep C])
    (his : ∀ x n, elB A x = true → NV A x n → isN n = is x) (hn : 0 < A.length) (ha : AttrsOk A) (hel : AllEl A l) (hl : l.length ≤ 1000000) (hO : Own k w [arenaL a A, stkL s a l, sep C]) :
    Tri Tryz.prog 151 #[.pointer (some ⟨s, 0, none⟩), .func (.func f) #[] caps.toArray] k w fun v m => v = .int .i64 ((l.length : Int) - ((dropL is l).length : Int)) ∧ m = [arenaL a A, stkL s a (dropL is l)] := by
  refine enter (args := [.pointer (some ⟨s, 0, none⟩), .func (.func f) #[] caps.toArray]) Tryz.func151 rfl rfl ?_
  have hdl := dropL_len is l
  refine K0 (K1 ?_)
  refine l_y rfl rfl (y_assign rfl) ?_
  refine K2 (K3 (K0 (K1 ?_)))
  refine l_y rfl rfl (y_move rfl) ?_
  refine CK [.o s] hO rfl (fun k' hx hr hO' => sLenC_spec (hO := hO')) ?_
  rintro _ _ w ⟨rfl, rfl⟩ hO
  simp only [List.cons_append, List.nil_append] at hO
  refine l_y rfl rfl (y_assign rfl) ?_
  refine K2 (K3 (K0 (K4 ?_)))
  refine c_rounds (X := List Int) (fun q => [(0, .pointer (some ⟨s, 0, none⟩)), (1, .func (.func f) #[] caps.toArray), (4, .int .i64 0), (5, .int .i64 ((l.length : Nat) : Int))]) (fun q w => Own k w [arenaL a A, stkL s a q, sep C] ∧ (AllEl A q ∧ q.length ≤ l.length) ∧ (dropL is l = dropL is q)) (fun q => q.length) (l) ⟨rfl, rfl, rfl, rfl, trivial⟩ ⟨hO.only [.o a, .o s, .s], ⟨hel, Nat.le_refl _⟩, rfl⟩ ?_
  rintro q w m hm ⟨hO, he, hs⟩
  refine K0 (K0 (K1 ?_))
  refine l_y rfl rfl (y_move rfl) ?_
  refine CK [.o s] hO rfl (fun k' hx hr hO' => sLenC_spec (hO := hO')) ?_
  rintro _ _ w ⟨rfl, rfl⟩ hO
  simp only [List.cons_append, List.nil_append] at hO
  refine Z0 (fun h2_2 => ?_) (fun h2_2 => ?_)
  · refine K2 (K3 (L8 (K5 (K3 (K4 (K0 (K0 ?_)))))))
    have hxe : elB A (topI q) = true := he.1 _ (by rw [topI_at (by omega)]; exact at_mem (by omega))
    have hs3 : dropL is l = if is (topI q) = true then dropL is (q.take (q.length - 1)) else q := by
      rw [hs]; conv => lhs; rw [take_top (l := q) (by omega)]
      rw [dropL_snoc, ← take_top (by omega)]
    refine K1 ?_
    refine l_y rfl rfl (y_move rfl) ?_
    refine l_y rfl rfl (y_move rfl) ?_
    refine CK [.o s] hO rfl (fun k' hx hr hO' => sTopC_spec (x := 0) (by omega) (hO := hO')) ?_
    rintro _ _ w ⟨rfl, rfl⟩ hO
    simp only [List.cons_append, List.nil_append] at hO
    refine CK [.o a, .o s] hO rfl (fun k' hx hr hO' => lookC_spec hn ha (hO := hO')) ?_
    rintro _ _ w ⟨y, hy, rfl, rfl⟩ hO
    simp only [List.cons_append, List.nil_append] at hO
    refine l_y rfl rfl (y_move rfl) ?_
    refine l_y rfl rfl (y_extract rfl rfl) ?_
    refine l_y rfl rfl (y_extract rfl rfl) ?_
    refine s_alloc (vs := [.int .i64 0, .int .i64 0, .string ⟨#[]⟩, .slice none 0 0, .string ⟨#[]⟩, .string ⟨#[]⟩, .int .i64 0, .int .i64 0, .int .i64 0, .int .i64 0, .int .i64 0, .int .i64 0]) hO rfl rfl rfl fun b6 w hO => ?_
    refine Y3 hO rfl rfl (fun w hO => ?_)
    refine l_y rfl rfl (y_assign rfl) ?_
    refine K2 (K3 (K0 ?_))
    have e1 := his _ _ hxe hy
    refine K1 ?_
    refine l_y rfl rfl (y_move rfl) ?_
    refine l_y rfl rfl (D8 (cs := [.int .i64 y.Kind, .int .i64 y.Space, .string y.Name, .slice y.AttrsP y.Attrs.length y.AttrsC, .string y.Data, .string y.System, .int .i64 y.Parent, .int .i64 y.First, .int .i64 y.Last, .int .i64 y.Prev, .int .i64 y.Next, .int .i64 y.Inner]) hO rfl) ?_
    refine CKv [.s] hO rfl rfl (fun k' hx hr hO' => hcall k' _ y hO') ?_
    rintro _ _ w ⟨rfl, rfl⟩ hO
    simp only [List.cons_append, List.nil_append] at hO
    rw [e1]
    refine l_y rfl rfl (y_not rfl rfl) ?_
    refine K2 (K3 ?_)
    refine c_split rfl (fun hc23 => ?_) (fun hc23 => ?_)
    · simp only [Bool.not_eq_true', Bool.not_eq_false'] at hc23
      refine K7 (L1 (L7 (L1 (L2 (K3 (K0 ?_))))))
      have hfin : dropL is l = q := by
        first
        | (rw [hs3, if_neg (by simpa using hc23)])
        | (have h0 : q = [] := List.eq_nil_of_length_eq_zero (by omega)
           rw [hs, h0]; rfl)
      have hq := he.2
      refine K1 ?_
      refine l_y rfl rfl (y_move rfl) ?_
      refine l_y rfl rfl (y_move rfl) ?_
      refine CK [.o s] hO rfl (fun k' hx hr hO' => sLenC_spec (hO := hO')) ?_
      rintro _ _ w ⟨rfl, rfl⟩ hO
      simp only [List.cons_append, List.nil_append] at hO
      refine l_y rfl rfl (D4) ?_
      refine l_y rfl rfl (y_assign rfl) ?_
      refine K2 (K3 (K6 ?_))
      rw [hfin]
      exact fin1 rfl rfl ⟨_, ⟨rfl, rfl⟩, hO.only [.o a, .o s]⟩
    · simp only [Bool.not_eq_true', Bool.not_eq_false'] at hc23
      refine K5 (K3 (K1 ?_))
      refine l_y rfl rfl (y_move rfl) ?_
      refine CK [.o s] hO rfl (fun k' hx hr hO' => sPop_spec (by omega) he.1.ne (hO := hO')) ?_
      rintro _ _ w ⟨rfl, rfl⟩ hO
      simp only [List.cons_append, List.nil_append] at hO
      refine K2 (K8 ?_)
      exact q_next (q.take (q.length - 1)) ⟨rfl, rfl, rfl, rfl, trivial⟩ ⟨hO.only [.o a, .o s, .s], ⟨he.1.take _, by simp; omega⟩, by rw [hs3, if_pos (by simpa using hc23)]⟩ (by simp; omega)
  · refine K2 (K3 (L9 (K7 (L1 (L1 (L2 (K3 (K0 ?_))))))))
    have hfin : dropL is l = q := by
      first
      | (rw [hs3, if_neg (by simpa using hc23)])
      | (have h0 : q = [] := List.eq_nil_of_length_eq_zero (by omega)
         rw [hs, h0]; rfl)
    have hq := he.2
    refine K1 ?_
    refine l_y rfl rfl (y_move rfl) ?_
    refine l_y rfl rfl (y_move rfl) ?_
    refine CK [.o s] hO rfl (fun k' hx hr hO' => sLenC_spec (hO := hO')) ?_
    rintro _ _ w ⟨rfl, rfl⟩ hO
    simp only [List.cons_append, List.nil_append] at hO
    refine l_y rfl rfl (D4) ?_
    refine l_y rfl rfl (y_assign rfl) ?_
    refine K2 (K3 (K6 ?_))
    rw [hfin]
    exact fin1 rfl rfl ⟨_, ⟨rfl, rfl⟩, hO.only [.o a, .o s]⟩
end Go.Proofs.YtpejdlfkaaiehaaGreatDoor
end
section
set_option linter.unusedVariables false
set_option linter.unusedSimpArgs false
set_option maxRecDepth 100000
namespace Go.Proofs.YtpejdlfkaaiehaaGreatDoor
open Go Go.Hb Go.RowKit
def implB (but : ByteArray) (sp : Int) (nm : ByteArray) : Bool := namB sp nm implL && !decide (nm = but)
theorem ImpliedC_spec {k : Ctx} {w : World} {b b' : Nat} {n : Api_node} {but : ByteArray} (hO : Own k w [sep [blk b 147 (implL.map Value.string), blk b' 9 [.string but]]]) :
    Tri Tryz.prog 210 #[.agg (Api_node.cells n).toArray, .pointer (some ⟨b, 0, none⟩), .pointer (some ⟨b', 0, none⟩)] k w fun v m => v = .bool (implB but n.Space n.Name) ∧ m = [sep [blk b 147 (implL.map Value.string), blk b' 9 [.string but]]] := by
  refine enter (args := [.agg (Api_node.cells n).toArray, .pointer (some ⟨b, 0, none⟩), .pointer (some ⟨b', 0, none⟩)]) Tryz.func210 rfl rfl ?_
  have hO := Own.open hO
  simp only [List.cons_append, List.nil_append] at hO
  refine K0 (K1 ?_)
  refine s_box (vs := [.int .i64 n.Kind, .int .i64 n.Space, .string n.Name, .slice n.AttrsP n.Attrs.length n.AttrsC, .string n.Data, .string n.System, .int .i64 n.Parent, .int .i64 n.First, .int .i64 n.Last, .int .i64 n.Prev, .int .i64 n.Next, .int .i64 n.Inner]) hO rfl rfl rfl (by rfl) fun b3 w hO => ?_
  refine l_y rfl rfl (y_assign rfl) ?_
  refine K2 (K3 (K0 ?_))
  refine da_region (by intro c a d v w h; cases d <;> exact h) ?_
  have hO := hO.drew
  refine da_phase _ [2] (SO.ks [.b b3] hO) ?_
  refine dx_y 0 (by kernel_rfl) rfl rfl rfl (fun w ⟨m, hw⟩ => D8 (cs := [.int .i64 n.Kind, .int .i64 n.Space, .string n.Name, .slice n.AttrsP n.Attrs.length n.AttrsC, .string n.Data, .string n.System, .int .i64 n.Parent, .int .i64 n.First, .int .i64 n.Last, .int .i64 n.Prev, .int .i64 n.Next, .int .i64 n.Inner]) hw rfl) ?_
  refine dx_u 1 (by kernel_rfl) rfl rfl rfl (fun w => y_sliceA rfl) ?_
  refine dx_close 2 (by kernel_rfl) rfl rfl ?_
  refine CK [] hO rfl (fun k' hx hr hO' => named_spec (n := n) (ts := implL) (blk_ro (b := b) hr) (by decide) (hO := hO')) ?_
  rintro _ _ w ⟨rfl, rfl⟩ hO
  simp only [List.nil_append] at hO
  refine o_done ?_
  refine da_phase _ [] (SO.ks [.b b3, .b b'] hO) ?_
  refine dx_u 3 (by kernel_rfl) rfl rfl rfl (fun w => y_move rfl) ?_
  refine dx_split 8 rfl (fun hg8 => ?_) (fun hg8 => ?_)
  · refine dx_u 4 (by kernel_rfl) rfl rfl rfl (fun w => y_fldb (o' := 2) rfl) ?_
    refine dx_y 5 (by kernel_rfl) rfl rfl rfl (fun w ⟨m, hw⟩ => D5 hw rfl) ?_
    refine dx_y 6 (by kernel_rfl) rfl rfl rfl (fun w ⟨m, hw⟩ => D5 hw rfl) ?_
    refine dx_u 7 (by kernel_rfl) rfl rfl rfl (fun w => y_neS rfl rfl rfl) ?_
    refine dx_u 8 (by kernel_rfl) rfl rfl rfl (fun w => y_pick_t rfl rfl) ?_
    refine dx_u 9 (by kernel_rfl) rfl rfl rfl (fun w => y_assign rfl) ?_
    refine dx_end (by kernel_rfl) ?_
    refine K3 (K6 ?_)
    exact fin1 rfl rfl ⟨_, ⟨by simp [implB, *], rfl⟩, (Own.shut (l := [blk b 147 (implL.map Value.string), blk b' 9 [.string but]]) (hO.ks [.b b, .b b'])).one⟩
  · refine dx_pass 4 (by kernel_rfl) rfl rfl rfl ?_
    refine dx_pass 5 (by kernel_rfl) rfl rfl rfl ?_
    refine dx_pass 6 (by kernel_rfl) rfl rfl rfl ?_
    refine dx_pass 7 (by kernel_rfl) rfl rfl rfl ?_
    refine dx_u 8 (by kernel_rfl) rfl rfl rfl (fun w => y_pick_f rfl rfl) ?_
    refine dx_u 9 (by kernel_rfl) rfl rfl rfl (fun w => y_assign rfl) ?_
    refine dx_end (by kernel_rfl) ?_
    refine K3 (K6 ?_)
    exact fin1 rfl rfl ⟨_, ⟨by simp [implB, *], rfl⟩, (Own.shut (l := [blk b 147 (implL.map Value.string), blk b' 9 [.string but]]) (hO.ks [.b b, .b b'])).one⟩
def implA (A : List Node_one) (but : ByteArray) (x : Int) : Bool := implB but (at_ A x.toNat).Node.Space (at_ A x.toNat).Node.Name
theorem NV.imp {A : List Node_one} {x : Int} {n : Api_node} {but : ByteArray} (h : NV A x n) (he : elB A x = true) : implB but n.Space n.Name = implA A but x := by rw [h.space (elB_has he), h.name (elB_has he)]; rfl
theorem sImplied_spec {k : Ctx} {w : World} {s a : Nat} {l : List Int} {A : List Node_one} {but : ByteArray} (hn : 0 < A.length) (ha : AttrsOk A) (hel : AllEl A l) (hl : l.length ≤ 1000000) (hO : Own k w [arenaL a A, stkL s a l]) :
    Tri Tryz.prog 172 #[.pointer (some ⟨s, 0, none⟩), .string but] k w fun v m => v = .int .i64 ((l.length : Int) - ((dropL (implA A but) l).length : Int)) ∧ m = [arenaL a A, stkL s a (dropL (implA A but) l)] := by
  refine enter (args := [.pointer (some ⟨s, 0, none⟩), .string but]) Tryz.func172 rfl rfl ?_
  refine K0 (K1 ?_)
  refine s_box (vs := [.string but]) hO rfl rfl rfl (by rfl) fun b3 w hO => ?_
  refine l_y rfl rfl (y_assign rfl) ?_
  refine K2 (K3 (K0 (K1 ?_)))
  refine CK [] hO rfl (fun k' hx hr hO' => implied_spec (hO := hO')) ?_
  rintro _ _ w ⟨rfl, rfl⟩ hO
  simp only [List.cons_append, List.nil_append] at hO
  refine s_alloc (vs := [.string ⟨#[]⟩, .string ⟨#[]⟩, .string ⟨#[]⟩, .string ⟨#[]⟩, .string ⟨#[]⟩, .string ⟨#[]⟩, .string ⟨#[]⟩, .string ⟨#[]⟩, .string ⟨#[]⟩, .string ⟨#[]⟩]) hO rfl rfl rfl fun b5 w hO => ?_
  refine Y3 hO rfl rfl (fun w hO => ?_)
  refine K2 (K3 (K0 (K1 ?_)))
  refine l_y rfl rfl (y_move rfl) ?_
  refine l_y rfl rfl (y_makeFunc rfl rfl) ?_
  have hO := (Own.shut (l := [blk b5 147 (implL.map Value.string), blk b3 9 [.string but]]) (hO.ks [.b b5, .b b3])).ks [.o a, .o s, .s]
  refine CK [.o a, .o s, .s] hO rfl (fun k' hx hr hO' => drop_spec (caps := [.pointer (some ⟨b5, 0, none⟩), .pointer (some ⟨b3, 0, none⟩)]) (isN := fun n => implB but n.Space n.Name) (is := implA A but) (fun k' w' n hO => ImpliedC_spec hO) (fun x n he hx => hx.imp he) hn ha hel hl (hO := hO')) ?_
  rintro _ _ w ⟨rfl, rfl⟩ hO
  simp only [List.cons_append, List.nil_append] at hO
  refine l_y rfl rfl (y_assign rfl) ?_
  refine K2 (K3 (K6 ?_))
  exact fin1 rfl rfl ⟨_, ⟨rfl, rfl⟩, hO.only [.o a, .o s]⟩
end Go.Proofs.YtpejdlfkaaiehaaGreatDoor
end
section
set_option linter.unusedVariables false
set_option linter.unusedSimpArgs false
set_option maxRecDepth 100000
namespace Go.Proofs.YtpejdlfkaaiehaaGreatDoor
open Go Go.Hb Go.RowKit
/-- where the last of a kind stands -/
def lastV (p : Int → Bool) (l : List Int) : Int := match popR p l.reverse with
  | some r => (r.length : Int)
  | none => -1
theorem lastV_some {p : Int → Bool} {l r : List Int} (h : popR p l.reverse = some r) : lastV p l = (r.length : Int) := by rw [lastV, h]
theorem lastV_none {p : Int → Bool} {l : List Int} (h : popR p l.reverse = none) : lastV p l = -1 := by rw [lastV, h]
theorem popR_at {p : Int → Bool} {l r : List Int} (h : popR p l.reverse = some r) : ∃ i, i < l.length ∧ r = (l.take i).reverse ∧ p (at_ l i) = true := by
  have key : ∀ n, n ≤ l.length → popR p (l.take n).reverse = some r → ∃ i, i < l.length ∧ r = (l.take i).reverse ∧ p (at_ l i) = true := by
    intro n
    induction n with
    | zero => intro _ h; cases h
    | succ n ih =>
      intro hn h
      rw [take_succ_at (by omega), popR_snoc] at h
      split at h
      · next h1 => cases h; exact ⟨n, by omega, rfl, h1⟩
      · exact ih (by omega) h
  exact key l.length (Nat.le_refl _) (by rw [List.take_length]; exact h)
theorem lastV_cases (p : Int → Bool) (l : List Int) : lastV p l = -1 ∨ ∃ i : Nat, lastV p l = i ∧ i < l.length ∧ p (at_ l i) = true := by
  cases h : popR p l.reverse with
  | none => exact .inl (lastV_none h)
  | some r =>
    obtain ⟨i, h1, rfl, h2⟩ := popR_at h
    exact .inr ⟨i, by rw [lastV_some h]; simp; omega, h1, h2⟩
def tableL : List ByteArray := [⟨#[116, 97, 98, 108, 101]⟩]
def templL : List ByteArray := [⟨#[116, 101, 109, 112, 108, 97, 116, 101]⟩]
def tpartL : List ByteArray := [⟨#[116, 97, 98, 108, 101]⟩, ⟨#[116, 98, 111, 100, 121]⟩, ⟨#[116, 102, 111, 111, 116]⟩, ⟨#[116, 104, 101, 97, 100]⟩, ⟨#[116, 114]⟩]
def plB (kd sp : Int) (nm : ByteArray) (ts : List ByteArray) : Bool := decide (kd = 1) && namB sp nm ts
theorem NV.pl {A : List Node_one} {x : Int} {n : Api_node} {ts : List ByteArray} (h : NV A x n) (hb : hasB A x = true) : plB n.Kind n.Space n.Name ts = (elB A x && namA A ts x) := by
  rw [plB, elB, hb, h.kind hb, h.space hb, h.name hb]; rfl
section
variable {k : Ctx} {w : World} {a s c : Nat} {p : Option Addr} {A : List Node_one} {l : List Int}
theorem nowhere_spec (hO : Own k w []) : Tri Tryz.prog 222 #[] k w fun v m => v = .agg (Api_spot.cells ⟨-1, -1⟩).toArray ∧ m = [] := by
  refine enter (args := []) Tryz.func222 rfl rfl ?_
  refine K0 (K1 ?_)
  refine s_alloc (vs := [.int .i64 0, .int .i64 0]) hO rfl rfl rfl fun b0 w hO => ?_
  refine K2 (K3 (K0 (K1 ?_)))
  refine s_build (parts := [(0, .const (.int .i64 (-1))), (1, .const (.int .i64 (-1)))]) (cs := [.int .i64 (-1), .int .i64 (-1)]) rfl rfl (fun a ha => partsOf_sound ha _ _ rfl) (by kernel_rfl) ?_
  refine Y3 hO rfl rfl (fun w hO => ?_)
  refine K2 (K3 (K6 ?_))
  exact finC hO rfl rfl ⟨_, ⟨rfl, rfl⟩, hO.none⟩
theorem end_spec {x : Int} (hO : Own k w []) : Tri Tryz.prog 219 #[.int .i64 x] k w fun v m => v = .agg (Api_spot.cells ⟨x, -1⟩).toArray ∧ m = [] := by
  refine enter (args := [.int .i64 x]) Tryz.func219 rfl rfl ?_
  refine K0 (K1 ?_)
  refine s_alloc (vs := [.int .i64 0, .int .i64 0]) hO rfl rfl rfl fun b2 w hO => ?_
  refine K2 (K3 (K0 (K1 ?_)))
  refine l_y rfl rfl (y_move rfl) ?_
  refine s_build (parts := [(0, .tmp 3), (1, .const (.int .i64 (-1)))]) (cs := [.int .i64 x, .int .i64 (-1)]) rfl rfl (fun a ha => partsOf_sound ha _ _ rfl) (by kernel_rfl) ?_
  refine Y3 hO rfl rfl (fun w hO => ?_)
  refine K2 (K3 (K6 ?_))
  exact finC hO rfl rfl ⟨_, ⟨rfl, rfl⟩, hO.none⟩
theorem pis_spec {n : Api_node} {ts : List ByteArray} {tp : Option Addr} {tn tc : Nat} (hs : Sli (Ro k) (.slice tp tn tc) (ts.map eS)) (hl : ts.length ≤ 1000000) (hO : Own k w []) :
    Tri Tryz.prog 220 #[.agg (Api_node.cells n).toArray, .slice tp tn tc] k w fun v m => v = .bool (plB n.Kind n.Space n.Name ts) ∧ m = [] := by
  obtain rfl : tn = ts.length := by have := hs.fits.1; simpa using this
  refine enter (args := [.agg (Api_node.cells n).toArray, .slice tp ts.length tc]) Tryz.func220 rfl rfl ?_
  have hgs := sli_gs hs
  refine K0 (K1 ?_)
  refine s_box (vs := [.int .i64 n.Kind, .int .i64 n.Space, .string n.Name, .slice n.AttrsP n.Attrs.length n.AttrsC, .string n.Data, .string n.System, .int .i64 n.Parent, .int .i64 n.First, .int .i64 n.Last, .int .i64 n.Prev, .int .i64 n.Next, .int .i64 n.Inner]) hO rfl rfl rfl (by rfl) fun b2 w hO => ?_
  refine l_y rfl rfl (y_assign rfl) ?_
  refine K2 (K3 (K0 (K0 (K1 ?_))))
  refine l_y rfl rfl (y_move rfl) ?_
  refine l_y rfl rfl (y_lenL rfl) ?_
  refine l_y rfl rfl (y_move rfl) ?_
  refine K2 (K3 (K4 ?_))
  refine c_rounds (X := Nat) (fun i => [(2, .pointer (some ⟨b2, 0, none⟩)), (4, .bool false), (7, .slice tp ts.length tc), (8, .int .i64 ((ts.length : Nat) : Int)), (9, .int .i64 (i : Int))]) (fun i w => Own k w [blk b2 38 (Api_node.cells n)] ∧ (i ≤ ts.length ∧ plB n.Kind n.Space n.Name (ts.take i) = false)) (fun i => ts.length - i) (0) ⟨rfl, rfl, rfl, rfl, rfl, trivial⟩ ⟨hO.only [.b b2], ⟨Nat.zero_le _, by simp [plB, namB, inB]⟩⟩ ?_
  rintro i w m hm ⟨hO, hi⟩
  refine K0 (K1 ?_)
  refine Z0 (fun h2_0 => ?_) (fun h2_0 => ?_)
  · refine K2 (K3 (K0 (L8 (K5 (K3 (K0 (K4 (K0 (K1 ?_)))))))))
    refine l_y rfl rfl (y_idx rfl rfl) ?_
    refine l_y rfl rfl (y_r1 (x0 := 0) (enc := eS) (xs := ts) hO rfl) ?_
    refine l_y rfl rfl (y_assign rfl) ?_
    refine K2 (K3 (K0 (K1 ?_)))
    refine l_y rfl rfl (y_fldb (o' := 0) rfl) ?_
    refine l_y rfl rfl (D5 hO rfl) ?_
    refine Z0 (fun h4_2 => ?_) (fun h4_2 => ?_)
    · refine l_y rfl rfl (y_move rfl) ?_
      refine l_y rfl rfl (y_fldb (o' := 1) rfl) ?_
      refine l_y rfl rfl (D5 hO rfl) ?_
      refine Z0 (fun h4_6 => ?_) (fun h4_6 => ?_)
      · refine l_y rfl rfl (y_pick_t rfl rfl) ?_
        refine l_y rfl rfl (y_move rfl) ?_
        refine l_y rfl rfl (y_fldb (o' := 2) rfl) ?_
        refine l_y rfl rfl (D5 hO rfl) ?_
        refine l_y rfl rfl (y_move rfl) ?_
        refine Z2 (fun h4_12 => ?_) (fun h4_12 => ?_)
        · refine l_y rfl rfl (y_pick_t rfl rfl) ?_
          refine K2 (K3 (L8 (K0 (K1 ?_))))
          refine l_y rfl rfl (y_assign rfl) ?_
          refine K2 (K3 (K6 (L0 (K9 (K9 (L0 (K9 ?_)))))))
          have hlt : plB n.Kind n.Space n.Name ts = true := by
            rw [plB, namB, decide_eq_true h4_2, decide_eq_true h4_6, Bool.true_and, Bool.true_and]
            exact List.any_eq_true.2 ⟨at_ ts i, at_mem (by omega), decide_eq_true h4_12⟩
          exact fin1 rfl rfl ⟨_, ⟨by rw [hlt], rfl⟩, hO.none⟩
        · refine l_y rfl rfl (y_pick_t rfl rfl) ?_
          refine K2 (K3 (L9 (K5 (K8 (K3 (K1 ?_))))))
          refine l_y rfl rfl (D4) ?_
          refine l_y rfl rfl (y_move rfl) ?_
          refine K2 ?_
          have h9 := hi.2
          have h8 : plB n.Kind n.Space n.Name (ts.take (i + 1)) = false := by
            rw [take_succ_at (by omega)]
            simp only [plB, namB, inB, List.any_append, List.any_cons, List.any_nil, Bool.or_false] at h9 ⊢
            first | (simp [h4_2]; done) | (simp [h4_6]; done) | (rw [decide_eq_true h4_2, decide_eq_true h4_6, Bool.true_and, Bool.true_and] at h9 ⊢; rw [h9, Bool.false_or]; exact decide_eq_false h4_12)
          exact q_next (i + 1) ⟨rfl, rfl, rfl, rfl, rfl, trivial⟩ ⟨hO.only [.b b2], ⟨by omega, h8⟩⟩ (by omega)
      · refine l_y rfl rfl (y_pick_t rfl rfl) ?_
        refine l_y rfl rfl (y_move rfl) ?_
        repeat refine M2 ?_
        refine l_y rfl rfl (y_pick_f rfl rfl) ?_
        refine K2 (K3 (L9 (K5 (K8 (K3 (K1 ?_))))))
        refine l_y rfl rfl (D4) ?_
        refine l_y rfl rfl (y_move rfl) ?_
        refine K2 ?_
        have h9 := hi.2
        have h8 : plB n.Kind n.Space n.Name (ts.take (i + 1)) = false := by
          rw [take_succ_at (by omega)]
          simp only [plB, namB, inB, List.any_append, List.any_cons, List.any_nil, Bool.or_false] at h9 ⊢
          first | (simp [h4_2]; done) | (simp [h4_6]; done) | (rw [decide_eq_true h4_2, decide_eq_true h4_6, Bool.true_and, Bool.true_and] at h9 ⊢; rw [h9, Bool.false_or]; exact decide_eq_false h4_12)
        exact q_next (i + 1) ⟨rfl, rfl, rfl, rfl, rfl, trivial⟩ ⟨hO.only [.b b2], ⟨by omega, h8⟩⟩ (by omega)
    · refine l_y rfl rfl (y_move rfl) ?_
      repeat refine M2 ?_
      refine l_y rfl rfl (y_pick_f rfl rfl) ?_
      refine l_y rfl rfl (y_move rfl) ?_
      repeat refine M2 ?_
      refine l_y rfl rfl (y_pick_f rfl rfl) ?_
      refine K2 (K3 (L9 (K5 (K8 (K3 (K1 ?_))))))
      refine l_y rfl rfl (D4) ?_
      refine l_y rfl rfl (y_move rfl) ?_
      refine K2 ?_
      have h9 := hi.2
      have h8 : plB n.Kind n.Space n.Name (ts.take (i + 1)) = false := by
        rw [take_succ_at (by omega)]
        simp only [plB, namB, inB, List.any_append, List.any_cons, List.any_nil, Bool.or_false] at h9 ⊢
        first | (simp [h4_2]; done) | (simp [h4_6]; done) | (rw [decide_eq_true h4_2, decide_eq_true h4_6, Bool.true_and, Bool.true_and] at h9 ⊢; rw [h9, Bool.false_or]; exact decide_eq_false h4_12)
      exact q_next (i + 1) ⟨rfl, rfl, rfl, rfl, rfl, trivial⟩ ⟨hO.only [.b b2], ⟨by omega, h8⟩⟩ (by omega)
  · refine K2 (K3 (K0 (L9 (K7 (L1 (L1 (L2 (K3 (K0 (K1 ?_))))))))))
    refine l_y rfl rfl (y_assign rfl) ?_
    refine K2 (K3 (K6 ?_))
    have hlf : plB n.Kind n.Space n.Name ts = false := by rw [show ts = ts.take i by rw [List.take_of_length_le (by omega)]]; exact hi.2
    exact fin1 rfl rfl ⟨_, ⟨by rw [hlf], rfl⟩, hO.none⟩
theorem atI_in {i : Int} (h0 : 0 ≤ i) (h1 : i < l.length) : atI l i = at_ l i.toNat := by rw [atI, if_neg (by omega)]
set_option maxHeartbeats 1000000 in
theorem plast_spec {name : ByteArray} (hn : 0 < A.length) (ha : AttrsOk A) (hel : AllEl A l) (hg : Gs p l.length) (hl : l.length ≤ 1000000) (hO : Own k w [arenaL a A, sB s a p l.length c, sI p c l]) :
    Tri Tryz.prog 237 #[.pointer (some ⟨a, 0, none⟩), .pointer (some ⟨s, 0, none⟩), .string name] k w fun v m => v = .int .i64 (lastV (namA A [name]) l) ∧ m = [arenaL a A, sB s a p l.length c, sI p c l] := by
  refine enter (args := [.pointer (some ⟨a, 0, none⟩), .pointer (some ⟨s, 0, none⟩), .string name]) Tryz.func237 rfl rfl ?_
  refine K0 (K1 ?_)
  refine l_y rfl rfl (y_assign rfl) ?_
  refine K2 (K3 (K0 (K1 ?_)))
  refine l_y rfl rfl (y_move rfl) ?_
  refine CK [.b s] hO rfl (fun k' hx hr hO' => sLen_spec (hO := hO')) ?_
  rintro _ _ w ⟨rfl, rfl⟩ hO
  simp only [List.cons_append, List.nil_append] at hO
  refine l_y rfl rfl (D4) ?_
  refine l_y rfl rfl (y_assign rfl) ?_
  refine K2 (K3 (K0 (K4 ?_)))
  refine c_rounds (X := Int) (fun i => [(0, .pointer (some ⟨a, 0, none⟩)), (1, .pointer (some ⟨s, 0, none⟩)), (2, .string name), (6, .int .i64 0), (7, .int .i64 i)]) (fun i w => Own k w [arenaL a A, sB s a p l.length c, sI p c l] ∧ (-1 ≤ i ∧ i < l.length) ∧ (popR (namA A [name]) l.reverse = popR (namA A [name]) (l.take (i + 1).toNat).reverse)) (fun i => (i + 1).toNat) ((l.length : Int) - 1) ⟨rfl, rfl, rfl, rfl, rfl, trivial⟩ ⟨hO.only [.o a, .b s, .p p], ⟨by omega, by omega⟩, by rw [List.take_of_length_le (by omega)]⟩ ?_
  rintro i w m hm ⟨hO, hi, hs⟩
  refine K0 (K0 (K1 ?_))
  refine l_y rfl rfl (y_move rfl) ?_
  refine Z0 (fun h2_1 => ?_) (fun h2_1 => ?_)
  · refine K2 (K3 (L8 (K5 (K3 (K0 (K4 (K0 ?_)))))))
    have hxe : elB A (at_ l i.toNat) = true := hel _ (at_mem (by omega))
    have hs2 := hs
    rw [show (i + 1).toNat = i.toNat + 1 by omega, take_succ_at (by omega), popR_snoc] at hs2
    refine K1 ?_
    refine l_y rfl rfl (y_move rfl) ?_
    refine l_y rfl rfl (y_move rfl) ?_
    refine l_y rfl rfl (y_move rfl) ?_
    refine CK [.b s, .p p] hO rfl (fun k' hx hr hO' => sAt_spec hg (hO := hO')) ?_
    rintro _ _ w ⟨rfl, rfl⟩ hO
    simp only [List.cons_append, List.nil_append] at hO
    refine CK [.o a] hO rfl (fun k' hx hr hO' => NodeD_spec hn ha (hO := hO')) ?_
    rintro _ _ w ⟨x4_4, hx4_4, rfl, rfl⟩ hO
    simp only [List.cons_append, List.nil_append] at hO
    refine l_y rfl rfl (y_move rfl) ?_
    refine l_y rfl rfl (y_extract rfl rfl) ?_
    refine l_y rfl rfl (y_extract rfl rfl) ?_
    refine s_alloc (vs := [.int .i64 0, .int .i64 0, .string ⟨#[]⟩, .slice none 0 0, .string ⟨#[]⟩, .string ⟨#[]⟩, .int .i64 0, .int .i64 0, .int .i64 0, .int .i64 0, .int .i64 0, .int .i64 0]) hO rfl rfl rfl fun b8 w hO => ?_
    refine Y3 hO rfl rfl (fun w hO => ?_)
    refine l_y rfl rfl (y_assign rfl) ?_
    refine K2 (K3 (K0 ?_))
    have hx2 : NV A (at_ l i.toNat) x4_4 := by rw [← atI_in (by omega) hi.2]; exact hx4_4
    refine K1 ?_
    refine l_y rfl rfl (D8 (cs := [.int .i64 x4_4.Kind, .int .i64 x4_4.Space, .string x4_4.Name, .slice x4_4.AttrsP x4_4.Attrs.length x4_4.AttrsC, .string x4_4.Data, .string x4_4.System, .int .i64 x4_4.Parent, .int .i64 x4_4.First, .int .i64 x4_4.Last, .int .i64 x4_4.Prev, .int .i64 x4_4.Next, .int .i64 x4_4.Inner]) hO rfl) ?_
    refine l_y rfl rfl (y_move rfl) ?_
    refine s_lit (parts := [(0, .tmp 26)]) (enc := eS) [name] [.string name] hO rfl (fun b27 w hO => ?_)
    refine CK [] hO rfl (fun k' hx hr hO' => pis_spec (n := x4_4) (ts := [name]) (sls_roK (p := (some ⟨b27, 0, none⟩)) hr (sls_fct hO)) (by simp) (hO := hO')) ?_
    rintro _ _ w ⟨rfl, rfl⟩ hO
    rw [hx2.pl (elB_has hxe), hxe, Bool.true_and]
    simp only [List.nil_append] at hO
    refine K2 (K3 ?_)
    refine c_split rfl (fun hc28 => ?_) (fun hc28 => ?_)
    · refine K7 (L7 (L1 (L1 (L2 (K3 (K0 (K1 ?_)))))))
      refine l_y rfl rfl (y_move rfl) ?_
      refine l_y rfl rfl (y_assign rfl) ?_
      refine K2 (K3 (K6 ?_))
      first
      | (rw [lastV_some (r := (l.take i.toNat).reverse) (by rw [hs2, if_pos hc28]), show ((l.take i.toNat).reverse.length : Int) = i by simp; omega]
         exact fin1 rfl rfl ⟨_, ⟨rfl, rfl⟩, hO.only [.o a, .b s, .p p]⟩)
      | (rw [lastV_none (by rw [hs, show (i + 1).toNat = 0 by omega]; rfl), show (-1 : Int) = i by omega]
         exact fin1 rfl rfl ⟨_, ⟨rfl, rfl⟩, hO.only [.o a, .b s, .p p]⟩)
    · refine K5 (K8 (K3 (K1 ?_)))
      refine l_y rfl rfl (y_move rfl) ?_
      refine l_y rfl rfl (D4) ?_
      refine l_y rfl rfl (y_assign rfl) ?_
      refine K2 ?_
      exact q_next (i - 1) ⟨rfl, rfl, rfl, rfl, rfl, trivial⟩ ⟨hO.only [.o a, .b s, .p p], ⟨by omega, by omega⟩, by rw [hs2, if_neg (by rw [hc28]; simp), show (i - 1 + 1).toNat = i.toNat by omega]⟩ (by omega)
  · refine K2 (K3 (L9 (K7 (L1 (L1 (L2 (K3 (K0 (K1 ?_)))))))))
    refine l_y rfl rfl (y_move rfl) ?_
    refine l_y rfl rfl (y_assign rfl) ?_
    refine K2 (K3 (K6 ?_))
    first
    | (rw [lastV_some (r := (l.take i.toNat).reverse) (by rw [hs2, if_pos hc28]), show ((l.take i.toNat).reverse.length : Int) = i by simp; omega]
       exact fin1 rfl rfl ⟨_, ⟨rfl, rfl⟩, hO.only [.o a, .b s, .p p]⟩)
    | (rw [lastV_none (by rw [hs, show (i + 1).toNat = 0 by omega]; rfl), show (-1 : Int) = i by omega]
       exact fin1 rfl rfl ⟨_, ⟨rfl, rfl⟩, hO.only [.o a, .b s, .p p]⟩)
def nd (A : List Node_one) (x : Int) : Api_node := (at_ A x.toNat).Node
def fosterV (A : List Node_one) (l : List Int) : Api_spot :=
  if lastV (namA A tableL) l < lastV (namA A templL) l then ⟨(nd A (at_ l (lastV (namA A templL) l).toNat)).Inner, -1⟩
  else if lastV (namA A tableL) l < 0 then (if 0 < l.length then ⟨at_ l 0, -1⟩ else ⟨-1, -1⟩)
  else if (nd A (at_ l (lastV (namA A tableL) l).toNat)).Parent ≠ -1 then ⟨(nd A (at_ l (lastV (namA A tableL) l).toNat)).Parent, at_ l (lastV (namA A tableL) l).toNat⟩
  else if 0 < lastV (namA A tableL) l then ⟨at_ l (lastV (namA A tableL) l - 1).toNat, -1⟩ else ⟨-1, -1⟩
theorem NV.inner {x : Int} {n : Api_node} (h : NV A x n) (hb : hasB A x = true) : n.Inner = (nd A x).Inner := by
  rcases h with ⟨h, _⟩ | ⟨_, q, d, rfl⟩
  · rw [hb] at h; cases h
  · rfl
theorem NV.parent {x : Int} {n : Api_node} (h : NV A x n) (hb : hasB A x = true) : n.Parent = (nd A x).Parent := by
  rcases h with ⟨h, _⟩ | ⟨_, q, d, rfl⟩
  · rw [hb] at h; cases h
  · rfl
set_option maxHeartbeats 2000000 in
theorem foster_spec (hn : 0 < A.length) (ha : AttrsOk A) (hel : AllEl A l) (hg : Gs p l.length) (hl : l.length ≤ 1000000) (hO : Own k w [arenaL a A, sB s a p l.length c, sI p c l]) :
    Tri Tryz.prog 221 #[.pointer (some ⟨a, 0, none⟩), .pointer (some ⟨s, 0, none⟩)] k w fun v m => v = .agg (Api_spot.cells (fosterV A l)).toArray ∧ m = [arenaL a A, sB s a p l.length c, sI p c l] := by
  refine enter (args := [.pointer (some ⟨a, 0, none⟩), .pointer (some ⟨s, 0, none⟩)]) Tryz.func221 rfl rfl ?_
  obtain ⟨tb, htb⟩ : ∃ tb, tb = lastV (namA A tableL) l := ⟨_, rfl⟩
  obtain ⟨tp, htp⟩ : ∃ tp, tp = lastV (namA A templL) l := ⟨_, rfl⟩
  have hb1 : -1 ≤ tb ∧ tb < l.length := by rcases lastV_cases (namA A tableL) l with h | ⟨i, h, h2, _⟩ <;> omega
  have hp1 : -1 ≤ tp ∧ tp < l.length := by rcases lastV_cases (namA A templL) l with h | ⟨i, h, h2, _⟩ <;> omega
  have hf : fosterV A l = if tb < tp then ⟨(nd A (at_ l tp.toNat)).Inner, -1⟩ else if tb < 0 then (if 0 < l.length then ⟨at_ l 0, -1⟩ else ⟨-1, -1⟩) else if (nd A (at_ l tb.toNat)).Parent ≠ -1 then ⟨(nd A (at_ l tb.toNat)).Parent, at_ l tb.toNat⟩ else if 0 < tb then ⟨at_ l (tb - 1).toNat, -1⟩ else ⟨-1, -1⟩ := by rw [htb, htp]; rfl
  have hhas : ∀ i : Int, 0 ≤ i → i < l.length → hasB A (at_ l i.toNat) = true := fun i h0 h1 => elB_has (hel _ (at_mem (by omega)))
  refine K0 (K1 ?_)
  refine s_alloc (vs := [.int .i64 0, .int .i64 0]) hO rfl rfl rfl fun b4 w hO => ?_
  refine K2 (K3 ?_)
  refine c_scopeJ (X := Nat) (fun b5 => [(4, .pointer (some ⟨b4, 0, none⟩)), (5, .pointer (some ⟨b5, 0, none⟩))]) (fun b5 w => Own k w [arenaL a A, sB s a p l.length c, sI p c l, blk b4 117 [.int .i64 0, .int .i64 0], blk b5 117 (Api_spot.cells (fosterV A l))] ∧ True) 0 rfl ?_ ?_
  · refine K0 (K1 ?_)
    refine CK [] hO rfl (fun k' hx hr hO' => nowhere_spec (hO := hO')) ?_
    rintro _ _ w ⟨rfl, rfl⟩ hO
    simp only [List.cons_append, List.nil_append] at hO
    refine s_alloc (vs := [.int .i64 0, .int .i64 0]) hO rfl rfl rfl fun b5 w hO => ?_
    refine Y3 hO rfl rfl (fun w hO => ?_)
    refine K2 (K3 (K0 (K1 ?_)))
    refine s_alloc (vs := [.int .i64 0, .int .i64 0, .string ⟨#[]⟩, .slice none 0 0, .string ⟨#[]⟩, .string ⟨#[]⟩, .int .i64 0, .int .i64 0, .int .i64 0, .int .i64 0, .int .i64 0, .int .i64 0]) hO rfl rfl rfl fun b6 w hO => ?_
    refine K2 (K3 (K0 (K1 ?_)))
    refine l_y rfl rfl (y_move rfl) ?_
    refine l_y rfl rfl (y_move rfl) ?_
    refine CK [.o a, .b s, .p p] hO rfl (fun k' hx hr hO' => plast_spec hn ha hel hg hl (hO := hO')) ?_
    rintro _ _ w ⟨rfl, rfl⟩ hO
    simp only [List.cons_append, List.nil_append] at hO
    rw [show lastV (namA A [⟨#[116, 97, 98, 108, 101]⟩]) l = tb from htb.symm]
    refine l_y rfl rfl (y_assign rfl) ?_
    refine K2 (K3 (K0 (K1 ?_)))
    refine l_y rfl rfl (y_move rfl) ?_
    refine l_y rfl rfl (y_move rfl) ?_
    refine CK [.o a, .b s, .p p] hO rfl (fun k' hx hr hO' => plast_spec hn ha hel hg hl (hO := hO')) ?_
    rintro _ _ w ⟨rfl, rfl⟩ hO
    simp only [List.cons_append, List.nil_append] at hO
    rw [show lastV (namA A [⟨#[116, 101, 109, 112, 108, 97, 116, 101]⟩]) l = tp from htp.symm]
    refine l_y rfl rfl (y_assign rfl) ?_
    refine K2 (K3 (K0 (K0 (K1 ?_))))
    refine l_y rfl rfl (y_move rfl) ?_
    refine l_y rfl rfl (y_move rfl) ?_
    refine Z0 (fun h5_2 => ?_) (fun h5_2 => ?_)
    · refine K2 (K3 (L8 (K0 (K1 ?_))))
      refine l_y rfl rfl (y_move rfl) ?_
      refine l_y rfl rfl (y_move rfl) ?_
      refine l_y rfl rfl (y_move rfl) ?_
      refine CK [.b s, .p p] hO rfl (fun k' hx hr hO' => sAt_spec hg (hO := hO')) ?_
      rintro _ _ w ⟨rfl, rfl⟩ hO
      simp only [List.cons_append, List.nil_append] at hO
      refine CK [.o a] hO rfl (fun k' hx hr hO' => NodeD_spec hn ha (hO := hO')) ?_
      rintro _ _ w ⟨x6_4, hx6_4, rfl, rfl⟩ hO
      simp only [List.cons_append, List.nil_append] at hO
      refine l_y rfl rfl (y_move rfl) ?_
      refine l_y rfl rfl (y_extract rfl rfl) ?_
      refine l_y rfl rfl (y_extract rfl rfl) ?_
      refine Y3 hO rfl rfl (fun w hO => ?_)
      refine K2 (K3 (K0 ?_))
      have e1 := NV.inner (by rw [← atI_in (by omega) (by omega)]; exact hx6_4) (hhas tp (by omega) (by omega))
      refine K1 ?_
      refine l_y rfl rfl (y_fldb (o' := 11) rfl) ?_
      refine l_y rfl rfl (D5 hO rfl) ?_
      refine CK [] hO rfl (fun k' hx hr hO' => end_spec (hO := hO')) ?_
      rintro _ _ w ⟨rfl, rfl⟩ hO
      simp only [List.cons_append, List.nil_append] at hO
      refine Y3 hO rfl rfl (fun w hO => ?_)
      refine K2 (K3 (c_goto (GT1 ?_)))
      have hO : Own k w [blk b5 117 (Api_spot.cells (fosterV A l)), arenaL a A, sB s a p l.length c, sI p c l, blk b4 117 [.int .i64 0, .int .i64 0]] := by
        first
        | exact hO.only [.b b5, .o a, .b s, .p p, .b b4]
        | skip
          obtain ⟨u, v, h8, hO⟩ : ∃ u v, fosterV A l = ⟨u, v⟩ ∧ Own k w [blk b5 117 [.int .i64 u, .int .i64 v], arenaL a A, sB s a p l.length c, sI p c l, blk b4 117 [.int .i64 0, .int .i64 0]] := by
            refine ⟨_, _, ?_, hO.only [.b b5, .o a, .b s, .p p, .b b4]⟩
            rw [hf]
            first
            | rw [if_pos h5_2, e1]
            | rw [if_neg h5_2, if_pos h8_1, if_pos (show 0 < l.length by omega), ez]
            | rw [if_neg h5_2, if_pos h8_1, if_neg (show ¬ 0 < l.length by omega)]
            | rw [if_neg h5_2, if_neg h8_1, if_pos h13, e2, ez]
            | rw [if_neg h5_2, if_neg h8_1, if_neg h14, if_pos h14_1, ez]
            | rw [if_neg h5_2, if_neg h8_1, if_neg h14, if_neg h14_1]
          rw [h8]; exact hO
      exact q_goto (b5) ⟨rfl, rfl, trivial⟩ ⟨hO.only [.o a, .b s, .p p, .b b4, .b b5], trivial⟩
    · refine K2 (K3 (L9 (K5 (K3 (K0 (K0 (K1 ?_)))))))
      refine l_y rfl rfl (y_move rfl) ?_
      refine Z0 (fun h8_1 => ?_) (fun h8_1 => ?_)
      · refine K2 (K3 (L8 (K0 (K0 (K1 ?_)))))
        refine l_y rfl rfl (y_move rfl) ?_
        refine CK [.b s] hO rfl (fun k' hx hr hO' => sLen_spec (hO := hO')) ?_
        rintro _ _ w ⟨rfl, rfl⟩ hO
        simp only [List.cons_append, List.nil_append] at hO
        refine Z0 (fun h9_2 => ?_) (fun h9_2 => ?_)
        · refine K2 (K3 (L8 ?_))
          have ez : atI l 0 = at_ l 0 := atI_in (by omega) (by omega)
          refine K1 ?_
          refine l_y rfl rfl (y_move rfl) ?_
          refine CK [.b s, .p p] hO rfl (fun k' hx hr hO' => sAt_spec hg (hO := hO')) ?_
          rintro _ _ w ⟨rfl, rfl⟩ hO
          simp only [List.cons_append, List.nil_append] at hO
          refine CK [] hO rfl (fun k' hx hr hO' => end_spec (hO := hO')) ?_
          rintro _ _ w ⟨rfl, rfl⟩ hO
          simp only [List.cons_append, List.nil_append] at hO
          refine Y3 hO rfl rfl (fun w hO => ?_)
          refine K2 (K3 (c_goto (GT1 ?_)))
          have hO : Own k w [blk b5 117 (Api_spot.cells (fosterV A l)), arenaL a A, sB s a p l.length c, sI p c l, blk b4 117 [.int .i64 0, .int .i64 0]] := by
            first
            | exact hO.only [.b b5, .o a, .b s, .p p, .b b4]
            | skip
              obtain ⟨u, v, h8, hO⟩ : ∃ u v, fosterV A l = ⟨u, v⟩ ∧ Own k w [blk b5 117 [.int .i64 u, .int .i64 v], arenaL a A, sB s a p l.length c, sI p c l, blk b4 117 [.int .i64 0, .int .i64 0]] := by
                refine ⟨_, _, ?_, hO.only [.b b5, .o a, .b s, .p p, .b b4]⟩
                rw [hf]
                first
                | rw [if_pos h5_2, e1]
                | rw [if_neg h5_2, if_pos h8_1, if_pos (show 0 < l.length by omega), ez]
                | rw [if_neg h5_2, if_pos h8_1, if_neg (show ¬ 0 < l.length by omega)]
                | rw [if_neg h5_2, if_neg h8_1, if_pos h13, e2, ez]
                | rw [if_neg h5_2, if_neg h8_1, if_neg h14, if_pos h14_1, ez]
                | rw [if_neg h5_2, if_neg h8_1, if_neg h14, if_neg h14_1]
              rw [h8]; exact hO
          exact q_goto (b5) ⟨rfl, rfl, trivial⟩ ⟨hO.only [.o a, .b s, .p p, .b b4, .b b5], trivial⟩
        · refine K2 (K3 (L9 (K5 (K3 (c_goto (GT1 ?_))))))
          have hO : Own k w [blk b5 117 (Api_spot.cells (fosterV A l)), arenaL a A, sB s a p l.length c, sI p c l, blk b4 117 [.int .i64 0, .int .i64 0]] := by
            first
            | exact hO.only [.b b5, .o a, .b s, .p p, .b b4]
            | skip
              obtain ⟨u, v, h8, hO⟩ : ∃ u v, fosterV A l = ⟨u, v⟩ ∧ Own k w [blk b5 117 [.int .i64 u, .int .i64 v], arenaL a A, sB s a p l.length c, sI p c l, blk b4 117 [.int .i64 0, .int .i64 0]] := by
                refine ⟨_, _, ?_, hO.only [.b b5, .o a, .b s, .p p, .b b4]⟩
                rw [hf]
                first
                | rw [if_pos h5_2, e1]
                | rw [if_neg h5_2, if_pos h8_1, if_pos (show 0 < l.length by omega), ez]
                | rw [if_neg h5_2, if_pos h8_1, if_neg (show ¬ 0 < l.length by omega)]
                | rw [if_neg h5_2, if_neg h8_1, if_pos h13, e2, ez]
                | rw [if_neg h5_2, if_neg h8_1, if_neg h14, if_pos h14_1, ez]
                | rw [if_neg h5_2, if_neg h8_1, if_neg h14, if_neg h14_1]
              rw [h8]; exact hO
          exact q_goto (b5) ⟨rfl, rfl, trivial⟩ ⟨hO.only [.o a, .b s, .p p, .b b4, .b b5], trivial⟩
      · refine K2 (K3 (L9 (K5 (K3 (K0 (K0 (K1 ?_)))))))
        refine l_y rfl rfl (y_move rfl) ?_
        refine l_y rfl rfl (y_move rfl) ?_
        refine l_y rfl rfl (y_move rfl) ?_
        refine CK [.b s, .p p] hO rfl (fun k' hx hr hO' => sAt_spec hg (hO := hO')) ?_
        rintro _ _ w ⟨rfl, rfl⟩ hO
        simp only [List.cons_append, List.nil_append] at hO
        refine CK [.o a] hO rfl (fun k' hx hr hO' => NodeD_spec hn ha (hO := hO')) ?_
        rintro _ _ w ⟨x11_4, hx11_4, rfl, rfl⟩ hO
        simp only [List.cons_append, List.nil_append] at hO
        refine l_y rfl rfl (y_move rfl) ?_
        refine l_y rfl rfl (y_extract rfl rfl) ?_
        refine l_y rfl rfl (y_extract rfl rfl) ?_
        refine Y3 hO rfl rfl (fun w hO => ?_)
        refine K2 (K3 (K0 ?_))
        have e2 := NV.parent (by rw [← atI_in (by omega) (by omega)]; exact hx11_4) (hhas tb (by omega) (by omega))
        refine K1 ?_
        refine l_y rfl rfl (y_fldb (o' := 6) rfl) ?_
        refine l_y rfl rfl (D5 hO rfl) ?_
        refine Z1 (fun h12_2 => ?_) (fun h12_2 => ?_)
        · refine K2 (K3 (L8 (K0 ?_)))
          have h13 : (nd A (at_ l tb.toNat)).Parent ≠ -1 := by rw [← e2]; exact h12_2
          have ez : atI l tb = at_ l tb.toNat := atI_in (by omega) (by omega)
          refine da_region (by intro c a d v w h; cases d <;> exact h) ?_
          have hO := hO.drew
          refine da_phase _ [5] (SO.ks [.b b6] hO) ?_
          refine dx_u 0 (by kernel_rfl) rfl rfl rfl (fun w => y_fldb (o' := 6) rfl) ?_
          refine dx_y 1 (by kernel_rfl) rfl rfl rfl (fun w ⟨m, hw⟩ => D5 hw rfl) ?_
          refine dx_u 2 (by kernel_rfl) rfl rfl rfl (fun w => y_move rfl) ?_
          refine dx_u 3 (by kernel_rfl) rfl rfl rfl (fun w => y_move rfl) ?_
          refine dx_only 4 (by kernel_rfl) rfl rfl ?_
          refine CK [.b s, .p p] hO rfl (fun k' hx hr hO' => sAt_spec hg (hO := hO')) ?_
          rintro _ _ w ⟨rfl, rfl⟩ hO
          simp only [List.cons_append, List.nil_append] at hO
          refine o_done ?_
          refine ⟨SO.ks [.b b6] hO, ?_⟩
          refine dx_close 5 (by kernel_rfl) rfl rfl ?_
          refine s_build (parts := [(0, .tmp 50), (1, .tmp 53)]) (cs := [.int .i64 x11_4.Parent, .int .i64 (atI l (tb))]) rfl rfl (fun a ha => partsOf_sound ha _ _ rfl) (by kernel_rfl) ?_
          refine o_done ?_
          refine da_only 6 (by kernel_rfl) rfl ?_
          refine Y3 hO rfl rfl (fun w hO => ?_)
          refine o_done ?_
          refine da_end (by kernel_rfl) ?_
          refine K3 (c_goto (GT1 ?_))
          have hO : Own k w [blk b5 117 (Api_spot.cells (fosterV A l)), arenaL a A, sB s a p l.length c, sI p c l, blk b4 117 [.int .i64 0, .int .i64 0]] := by
            first
            | exact hO.only [.b b5, .o a, .b s, .p p, .b b4]
            | skip
              obtain ⟨u, v, h8, hO⟩ : ∃ u v, fosterV A l = ⟨u, v⟩ ∧ Own k w [blk b5 117 [.int .i64 u, .int .i64 v], arenaL a A, sB s a p l.length c, sI p c l, blk b4 117 [.int .i64 0, .int .i64 0]] := by
                refine ⟨_, _, ?_, hO.only [.b b5, .o a, .b s, .p p, .b b4]⟩
                rw [hf]
                first
                | rw [if_pos h5_2, e1]
                | rw [if_neg h5_2, if_pos h8_1, if_pos (show 0 < l.length by omega), ez]
                | rw [if_neg h5_2, if_pos h8_1, if_neg (show ¬ 0 < l.length by omega)]
                | rw [if_neg h5_2, if_neg h8_1, if_pos h13, e2, ez]
                | rw [if_neg h5_2, if_neg h8_1, if_neg h14, if_pos h14_1, ez]
                | rw [if_neg h5_2, if_neg h8_1, if_neg h14, if_neg h14_1]
              rw [h8]; exact hO
          exact q_goto (b5) ⟨rfl, rfl, trivial⟩ ⟨hO.only [.o a, .b s, .p p, .b b4, .b b5], trivial⟩
        · refine K2 (K3 (L9 (K5 (K3 (K0 (K0 ?_))))))
          have h14 : ¬ (nd A (at_ l tb.toNat)).Parent ≠ -1 := by rw [← e2]; exact fun h => h h12_2
          refine K1 ?_
          refine l_y rfl rfl (y_move rfl) ?_
          refine Z0 (fun h14_1 => ?_) (fun h14_1 => ?_)
          · refine K2 (K3 (L8 ?_))
            have ez : atI l (tb - 1) = at_ l (tb - 1).toNat := atI_in (by omega) (by omega)
            refine K1 ?_
            refine l_y rfl rfl (y_move rfl) ?_
            refine l_y rfl rfl (y_move rfl) ?_
            refine l_y rfl rfl (D4) ?_
            refine CK [.b s, .p p] hO rfl (fun k' hx hr hO' => sAt_spec hg (hO := hO')) ?_
            rintro _ _ w ⟨rfl, rfl⟩ hO
            simp only [List.cons_append, List.nil_append] at hO
            refine CK [] hO rfl (fun k' hx hr hO' => end_spec (hO := hO')) ?_
            rintro _ _ w ⟨rfl, rfl⟩ hO
            simp only [List.cons_append, List.nil_append] at hO
            refine Y3 hO rfl rfl (fun w hO => ?_)
            refine K2 (K3 (K0 (L5 (K3 (K0 ?_)))))
            have hO : Own k w [blk b5 117 (Api_spot.cells (fosterV A l)), arenaL a A, sB s a p l.length c, sI p c l, blk b4 117 [.int .i64 0, .int .i64 0]] := by
              first
              | exact hO.only [.b b5, .o a, .b s, .p p, .b b4]
              | skip
                obtain ⟨u, v, h8, hO⟩ : ∃ u v, fosterV A l = ⟨u, v⟩ ∧ Own k w [blk b5 117 [.int .i64 u, .int .i64 v], arenaL a A, sB s a p l.length c, sI p c l, blk b4 117 [.int .i64 0, .int .i64 0]] := by
                  refine ⟨_, _, ?_, hO.only [.b b5, .o a, .b s, .p p, .b b4]⟩
                  rw [hf]
                  first
                  | rw [if_pos h5_2, e1]
                  | rw [if_neg h5_2, if_pos h8_1, if_pos (show 0 < l.length by omega), ez]
                  | rw [if_neg h5_2, if_pos h8_1, if_neg (show ¬ 0 < l.length by omega)]
                  | rw [if_neg h5_2, if_neg h8_1, if_pos h13, e2, ez]
                  | rw [if_neg h5_2, if_neg h8_1, if_neg h14, if_pos h14_1, ez]
                  | rw [if_neg h5_2, if_neg h8_1, if_neg h14, if_neg h14_1]
                rw [h8]; exact hO
            refine K1 ?_
            refine l_y rfl rfl (D8 (cs := [.int .i64 (fosterV A l).Parent, .int .i64 (fosterV A l).Before]) hO rfl) ?_
            refine Y3 hO rfl rfl (fun w hO => ?_)
            refine K2 (K3 (K6 (J4 ?_)))
            exact finC hO rfl rfl ⟨_, ⟨rfl, rfl⟩, hO.only [.o a, .b s, .p p]⟩
          · refine K2 (K3 (L9 (K5 (K3 (K0 (L5 (K3 (K0 ?_))))))))
            have hO : Own k w [blk b5 117 (Api_spot.cells (fosterV A l)), arenaL a A, sB s a p l.length c, sI p c l, blk b4 117 [.int .i64 0, .int .i64 0]] := by
              first
              | exact hO.only [.b b5, .o a, .b s, .p p, .b b4]
              | skip
                obtain ⟨u, v, h8, hO⟩ : ∃ u v, fosterV A l = ⟨u, v⟩ ∧ Own k w [blk b5 117 [.int .i64 u, .int .i64 v], arenaL a A, sB s a p l.length c, sI p c l, blk b4 117 [.int .i64 0, .int .i64 0]] := by
                  refine ⟨_, _, ?_, hO.only [.b b5, .o a, .b s, .p p, .b b4]⟩
                  rw [hf]
                  first
                  | rw [if_pos h5_2, e1]
                  | rw [if_neg h5_2, if_pos h8_1, if_pos (show 0 < l.length by omega), ez]
                  | rw [if_neg h5_2, if_pos h8_1, if_neg (show ¬ 0 < l.length by omega)]
                  | rw [if_neg h5_2, if_neg h8_1, if_pos h13, e2, ez]
                  | rw [if_neg h5_2, if_neg h8_1, if_neg h14, if_pos h14_1, ez]
                  | rw [if_neg h5_2, if_neg h8_1, if_neg h14, if_neg h14_1]
                rw [h8]; exact hO
            refine K1 ?_
            refine l_y rfl rfl (D8 (cs := [.int .i64 (fosterV A l).Parent, .int .i64 (fosterV A l).Before]) hO rfl) ?_
            refine Y3 hO rfl rfl (fun w hO => ?_)
            refine K2 (K3 (K6 (J4 ?_)))
            exact finC hO rfl rfl ⟨_, ⟨rfl, rfl⟩, hO.only [.o a, .b s, .p p]⟩
  · rintro b5 w ⟨hO, _⟩
    refine K0 (K5 (K3 (K0 ?_)))
    have hO : Own k w [blk b5 117 (Api_spot.cells (fosterV A l)), arenaL a A, sB s a p l.length c, sI p c l, blk b4 117 [.int .i64 0, .int .i64 0]] := by
      first
      | exact hO.only [.b b5, .o a, .b s, .p p, .b b4]
      | skip
        obtain ⟨u, v, h8, hO⟩ : ∃ u v, fosterV A l = ⟨u, v⟩ ∧ Own k w [blk b5 117 [.int .i64 u, .int .i64 v], arenaL a A, sB s a p l.length c, sI p c l, blk b4 117 [.int .i64 0, .int .i64 0]] := by
          refine ⟨_, _, ?_, hO.only [.b b5, .o a, .b s, .p p, .b b4]⟩
          rw [hf]
          first
          | rw [if_pos h5_2, e1]
          | rw [if_neg h5_2, if_pos h8_1, if_pos (show 0 < l.length by omega), ez]
          | rw [if_neg h5_2, if_pos h8_1, if_neg (show ¬ 0 < l.length by omega)]
          | rw [if_neg h5_2, if_neg h8_1, if_pos h13, e2, ez]
          | rw [if_neg h5_2, if_neg h8_1, if_neg h14, if_pos h14_1, ez]
          | rw [if_neg h5_2, if_neg h8_1, if_neg h14, if_neg h14_1]
        rw [h8]; exact hO
    refine K1 ?_
    refine l_y rfl rfl (D8 (cs := [.int .i64 (fosterV A l).Parent, .int .i64 (fosterV A l).Before]) hO rfl) ?_
    refine Y3 hO rfl rfl (fun w hO => ?_)
    refine K2 (K3 (K6 (L4 ?_)))
    exact finC hO rfl rfl ⟨_, ⟨rfl, rfl⟩, hO.only [.o a, .b s, .p p]⟩
end
end Go.Proofs.YtpejdlfkaaiehaaGreatDoor
end
