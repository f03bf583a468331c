/- The walks of the arena's readers and links; no condition. -/
import Derived.Test.YtoohapbaelmkcaaGreatNode1
set_option linter.unusedVariables false
set_option linter.unusedSimpArgs false
set_option maxRecDepth 100000
namespace Go.Proofs.YtoohapbaelmkcaaGreat
open Go Go.Hb Go.RowKit
theorem attrs_set {A : List Node_one} {i : Nat} {u : Node_one} (h : attrsP u = attrsP (at_ A i)) : (A.set i u).map attrsP = A.map attrsP := map_set_same' h
def setFirst (A : List Node_one) (i v : Int) : List Node_one := A.set i.toNat { at_ A i.toNat with Node := { (at_ A i.toNat).Node with First := v } }
def setLast (A : List Node_one) (i v : Int) : List Node_one := A.set i.toNat { at_ A i.toNat with Node := { (at_ A i.toNat).Node with Last := v } }
def setNext (A : List Node_one) (i v : Int) : List Node_one := A.set i.toNat { at_ A i.toNat with Node := { (at_ A i.toNat).Node with Next := v } }
def setPrev (A : List Node_one) (i v : Int) : List Node_one := A.set i.toNat { at_ A i.toNat with Node := { (at_ A i.toNat).Node with Prev := v } }
def joinA (A : List Node_one) (up left right : Int) : List Node_one := if left = -1 then setFirst A up right else setNext A left right
def joinB (A : List Node_one) (up left right : Int) : List Node_one := if right = -1 then setLast A up left else setPrev A right left
def joinL (A : List Node_one) (up left right : Int) : List Node_one := joinB (joinA A up left right) up left right
theorem joinA_len {A : List Node_one} {up left right : Int} : (joinA A up left right).length = A.length := by unfold joinA; split <;> simp [setFirst, setNext]
theorem joinB_len {A : List Node_one} {up left right : Int} : (joinB A up left right).length = A.length := by unfold joinB; split <;> simp [setLast, setPrev]
theorem joinL_len {A : List Node_one} {up left right : Int} : (joinL A up left right).length = A.length := by rw [joinL, joinB_len, joinA_len]
theorem joinA_attrs {A : List Node_one} {up left right : Int} : (joinA A up left right).map attrsP = A.map attrsP := by unfold joinA; split <;> exact attrs_set rfl
theorem joinB_attrs {A : List Node_one} {up left right : Int} : (joinB A up left right).map attrsP = A.map attrsP := by unfold joinB; split <;> exact attrs_set rfl
theorem joinL_attrs {A : List Node_one} {up left right : Int} : (joinL A up left right).map attrsP = A.map attrsP := by rw [joinL, joinB_attrs, joinA_attrs]
theorem join_spec {k : Ctx} {w : World} {a : Nat} {A : List Node_one} {p : Option Addr} {c n : Nat} {up left right : Int} (hg : Gs p n) (hn : n = A.length) (hup : 0 ≤ up ∧ up < n) (hl : left = -1 ∨ 0 ≤ left ∧ left < n) (hr : right = -1 ∨ 0 ≤ right ∧ right < n) (hO : Own k w [arB a p n c, arS p c A]) :
    Tri Tryz.prog 55 #[.pointer (some ⟨a, 0, none⟩), .int .i64 up, .int .i64 left, .int .i64 right] k w fun v m => v = .tuple #[] ∧ m = [arB a p n c, arS p c (joinL A up left right)] := by
  refine enter (args := [.pointer (some ⟨a, 0, none⟩), .int .i64 up, .int .i64 left, .int .i64 right]) Tryz.func55 rfl rfl ?_
  have hgA : Gs p A.length := hn ▸ hg
  have hj := joinA_len (A := A) (up := up) (left := left) (right := right)
  have hgJ : Gs p (joinA A up left right).length := by rw [hj]; exact hgA
  refine K0 (K0 (K1 ?_))
  refine l_y rfl rfl (y_move rfl) ?_
  refine Z0 (fun h0_1 => ?_) (fun h0_1 => ?_)
  · refine K2 (K3 (L8 (K1 ?_)))
    refine l_y rfl rfl (y_move rfl) ?_
    refine l_y rfl rfl (y_nilCheck rfl rfl) ?_
    refine l_y rfl rfl (y_fldb (o' := 0) rfl) ?_
    refine l_y rfl rfl (D5 hO rfl) ?_
    refine l_y rfl rfl (y_move rfl) ?_
    refine l_y rfl rfl (y_move rfl) ?_
    refine l_y rfl rfl (y_idx rfl rfl) ?_
    refine l_y rfl rfl (y_fld (j' := 0) rfl) ?_
    refine l_y rfl rfl (y_fld (j' := 7) rfl) ?_
    refine s_e1 (x0 := 7) hO rfl rfl (fun w hO => ?_)
    refine K2 (K3 (K0 ?_))
    have hO : Own k w [arB a p n c, arS p c (joinA A up left right)] := by simp only [joinA]; first | rw [if_pos h0_1]; exact hO | rw [if_neg h0_1]; exact hO
    refine K1 ?_
    refine l_y rfl rfl (y_move rfl) ?_
    refine Z0 (fun h3_1 => ?_) (fun h3_1 => ?_)
    · refine K2 (K3 (L8 (K1 ?_)))
      refine l_y rfl rfl (y_move rfl) ?_
      refine l_y rfl rfl (y_nilCheck rfl rfl) ?_
      refine l_y rfl rfl (y_fldb (o' := 0) rfl) ?_
      refine l_y rfl rfl (D5 hO rfl) ?_
      refine l_y rfl rfl (y_move rfl) ?_
      refine l_y rfl rfl (y_move rfl) ?_
      refine l_y rfl rfl (y_idx rfl rfl) ?_
      refine l_y rfl rfl (y_fld (j' := 0) rfl) ?_
      refine l_y rfl rfl (y_fld (j' := 8) rfl) ?_
      refine s_e1 (x0 := 8) hO rfl rfl (fun w hO => ?_)
      refine K2 ?_
      have hO : Own k w [arB a p n c, arS p c (joinL A up left right)] := by simp only [joinL, joinB]; first | rw [if_pos h3_1]; exact hO | rw [if_neg h3_1]; exact hO
      exact fin0 rfl ⟨_, ⟨rfl, rfl⟩, hO⟩
    · refine K2 (K3 (L9 (K1 ?_)))
      refine l_y rfl rfl (y_move rfl) ?_
      refine l_y rfl rfl (y_nilCheck rfl rfl) ?_
      refine l_y rfl rfl (y_fldb (o' := 0) rfl) ?_
      refine l_y rfl rfl (D5 hO rfl) ?_
      refine l_y rfl rfl (y_move rfl) ?_
      refine l_y rfl rfl (y_move rfl) ?_
      refine l_y rfl rfl (y_idx rfl rfl) ?_
      refine l_y rfl rfl (y_fld (j' := 0) rfl) ?_
      refine l_y rfl rfl (y_fld (j' := 9) rfl) ?_
      refine s_e1 (x0 := 9) hO rfl rfl (fun w hO => ?_)
      refine K2 ?_
      have hO : Own k w [arB a p n c, arS p c (joinL A up left right)] := by simp only [joinL, joinB]; first | rw [if_pos h3_1]; exact hO | rw [if_neg h3_1]; exact hO
      exact fin0 rfl ⟨_, ⟨rfl, rfl⟩, hO⟩
  · refine K2 (K3 (L9 (K1 ?_)))
    refine l_y rfl rfl (y_move rfl) ?_
    refine l_y rfl rfl (y_nilCheck rfl rfl) ?_
    refine l_y rfl rfl (y_fldb (o' := 0) rfl) ?_
    refine l_y rfl rfl (D5 hO rfl) ?_
    refine l_y rfl rfl (y_move rfl) ?_
    refine l_y rfl rfl (y_move rfl) ?_
    refine l_y rfl rfl (y_idx rfl rfl) ?_
    refine l_y rfl rfl (y_fld (j' := 0) rfl) ?_
    refine l_y rfl rfl (y_fld (j' := 10) rfl) ?_
    refine s_e1 (x0 := 10) hO rfl rfl (fun w hO => ?_)
    refine K2 (K3 (K0 ?_))
    have hO : Own k w [arB a p n c, arS p c (joinA A up left right)] := by simp only [joinA]; first | rw [if_pos h0_1]; exact hO | rw [if_neg h0_1]; exact hO
    refine K1 ?_
    refine l_y rfl rfl (y_move rfl) ?_
    refine Z0 (fun h3_1 => ?_) (fun h3_1 => ?_)
    · refine K2 (K3 (L8 (K1 ?_)))
      refine l_y rfl rfl (y_move rfl) ?_
      refine l_y rfl rfl (y_nilCheck rfl rfl) ?_
      refine l_y rfl rfl (y_fldb (o' := 0) rfl) ?_
      refine l_y rfl rfl (D5 hO rfl) ?_
      refine l_y rfl rfl (y_move rfl) ?_
      refine l_y rfl rfl (y_move rfl) ?_
      refine l_y rfl rfl (y_idx rfl rfl) ?_
      refine l_y rfl rfl (y_fld (j' := 0) rfl) ?_
      refine l_y rfl rfl (y_fld (j' := 8) rfl) ?_
      refine s_e1 (x0 := 8) hO rfl rfl (fun w hO => ?_)
      refine K2 ?_
      have hO : Own k w [arB a p n c, arS p c (joinL A up left right)] := by simp only [joinL, joinB]; first | rw [if_pos h3_1]; exact hO | rw [if_neg h3_1]; exact hO
      exact fin0 rfl ⟨_, ⟨rfl, rfl⟩, hO⟩
    · refine K2 (K3 (L9 (K1 ?_)))
      refine l_y rfl rfl (y_move rfl) ?_
      refine l_y rfl rfl (y_nilCheck rfl rfl) ?_
      refine l_y rfl rfl (y_fldb (o' := 0) rfl) ?_
      refine l_y rfl rfl (D5 hO rfl) ?_
      refine l_y rfl rfl (y_move rfl) ?_
      refine l_y rfl rfl (y_move rfl) ?_
      refine l_y rfl rfl (y_idx rfl rfl) ?_
      refine l_y rfl rfl (y_fld (j' := 0) rfl) ?_
      refine l_y rfl rfl (y_fld (j' := 9) rfl) ?_
      refine s_e1 (x0 := 9) hO rfl rfl (fun w hO => ?_)
      refine K2 ?_
      have hO : Own k w [arB a p n c, arS p c (joinL A up left right)] := by simp only [joinL, joinB]; first | rw [if_pos h3_1]; exact hO | rw [if_neg h3_1]; exact hO
      exact fin0 rfl ⟨_, ⟨rfl, rfl⟩, hO⟩
def nextUp (A : List Node_one) (x : Int) : Int := if (at_ A x.toNat).Node.Parent = -1 then (at_ A x.toNat).host else (at_ A x.toNat).Node.Parent
inductive Anc (A : List Node_one) : Int → Int → Prop
  | refl (x : Int) : Anc A x x
  | step {x y : Int} (h : x ≠ -1) (hs : Anc A (nextUp A x) y) : Anc A x y
def Ranked (A : List Node_one) : Prop := ∃ rk : Int → Nat, ∀ x, hasB A x = true → nextUp A x = -1 ∨ hasB A (nextUp A x) = true ∧ rk (nextUp A x) < rk x
noncomputable def ancB (A : List Node_one) (x y : Int) : Bool := @decide (Anc A x y) (Classical.propDecidable _)
noncomputable def aboveB (A : List Node_one) (x y : Int) : Bool := hasB A x && hasB A y && ancB A x y
theorem anc_none {A : List Node_one} {y : Int} (h : Anc A (-1) y) : y = -1 := by
  cases h with
  | refl => rfl
  | step h _ => exact absurd rfl h
theorem anc_ne {A : List Node_one} {x y : Int} (h : x ≠ y) (h1 : x ≠ -1) : Anc A x y ↔ Anc A (nextUp A x) y := ⟨fun k => by
  cases k with
  | refl => exact absurd rfl h
  | step _ hs => exact hs, fun k => .step h1 k⟩
theorem ancB_iff {A : List Node_one} {x y : Int} : ancB A x y = true ↔ Anc A x y := by simp [ancB]
theorem ancB_of {A : List Node_one} {x y : Int} (h : Anc A x y) : ancB A x y = true := ancB_iff.2 h
theorem ancB_not {A : List Node_one} {x y : Int} (h : ¬ Anc A x y) : ancB A x y = false := by
  cases e : ancB A x y with
  | false => rfl
  | true => exact absurd (ancB_iff.1 e) h
theorem Above_spec {k : Ctx} {w : World} {a : Nat} {A : List Node_one} {p : Option Addr} {c : Nat} {id other : Int} (hn : 0 < A.length) (hg : Gs p A.length) (hrk : Ranked A) (hO : Own k w [arB a p A.length c, arS p c A]) :
    Tri Tryz.prog 54 #[.pointer (some ⟨a, 0, none⟩), .int .i64 id, .int .i64 other] k w fun v m => v = .bool (aboveB A id other) ∧ m = [arB a p A.length c, arS p c A] := by
  refine enter (args := [.pointer (some ⟨a, 0, none⟩), .int .i64 id, .int .i64 other]) Tryz.func54 rfl rfl ?_
  obtain ⟨rk, hrk⟩ := hrk
  refine K0 (K1 ?_)
  refine l_y rfl rfl (y_assign rfl) ?_
  refine K2 (K3 (K0 (K0 (K1 ?_))))
  refine l_y rfl rfl (y_move rfl) ?_
  refine CK [.b a, .p p] hO rfl (fun k' hx hr hO' => none_spec (hO := hO')) ?_
  rintro _ _ w ⟨rfl, rfl⟩ hO
  simp only [List.cons_append, List.nil_append] at hO
  refine l_y rfl rfl (y_move rfl) ?_
  refine l_y rfl rfl (y_move rfl) ?_
  refine l_y rfl rfl (y_move rfl) ?_
  refine CK [.b a, .p p] hO rfl (fun k' hx hr hO' => has_spec (hO := hO')) ?_
  rintro _ _ w ⟨rfl, rfl⟩ hO
  simp only [List.cons_append, List.nil_append] at hO
  refine l_y rfl rfl (y_not rfl rfl) ?_
  refine l_y rfl rfl (y_pick_f rfl rfl) ?_
  refine l_y rfl rfl (y_move rfl) ?_
  refine l_split 16 rfl (fun hg16 => ?_) (fun hg16 => ?_)
  · simp only [Bool.not_eq_true', Bool.not_eq_false'] at hg16
    repeat refine M2 ?_
    refine l_y rfl rfl (y_pick_t rfl rfl) ?_
    refine K2 (K3 (L8 (K0 (K1 ?_))))
    refine l_y rfl rfl (y_assign rfl) ?_
    refine K2 (K3 (K6 (K9 ?_)))
    first
    | exact fin1 rfl rfl ⟨_, ⟨by rw [aboveB, hg16]; rfl, rfl⟩, hO⟩
    | exact fin1 rfl rfl ⟨_, ⟨by rw [aboveB, hc21, Bool.and_false]; rfl, rfl⟩, hO⟩
  · simp only [Bool.not_eq_true', Bool.not_eq_false'] at hg16
    refine l_y rfl rfl (y_move rfl) ?_
    refine l_y rfl rfl (y_move rfl) ?_
    refine CK [.b a, .p p] hO rfl (fun k' hx hr hO' => has_spec (hO := hO')) ?_
    rintro _ _ w ⟨rfl, rfl⟩ hO
    simp only [List.cons_append, List.nil_append] at hO
    refine l_y rfl rfl (y_not rfl rfl) ?_
    refine l_y rfl rfl (y_pick_f rfl rfl) ?_
    refine K2 (K3 ?_)
    refine c_split rfl (fun hc21 => ?_) (fun hc21 => ?_)
    · simp only [Bool.not_eq_true', Bool.not_eq_false'] at hc21
      refine K0 (K1 ?_)
      refine l_y rfl rfl (y_assign rfl) ?_
      refine K2 (K3 (K6 (K9 ?_)))
      first
      | exact fin1 rfl rfl ⟨_, ⟨by rw [aboveB, hg16]; rfl, rfl⟩, hO⟩
      | exact fin1 rfl rfl ⟨_, ⟨by rw [aboveB, hc21, Bool.and_false]; rfl, rfl⟩, hO⟩
    · simp only [Bool.not_eq_true', Bool.not_eq_false'] at hc21
      refine K5 (K3 (K0 (K4 ?_)))
      refine c_rounds (X := Int) (fun x => [(0, .pointer (some ⟨a, 0, none⟩)), (1, .int .i64 x), (2, .int .i64 other), (6, .bool false)]) (fun x w => Own k w [arB a p A.length c, arS p c A] ∧ ((x = -1 ∨ hasB A x = true)) ∧ ((Anc A id other ↔ Anc A x other))) (fun x => if x = -1 then 0 else rk x + 1) (id) ⟨rfl, rfl, rfl, rfl, trivial⟩ ⟨hO.only [.b a, .p p], .inr hg16, Iff.rfl⟩ ?_
      rintro x w m hm ⟨hO, hx, he⟩
      refine K0 (K0 (K1 ?_))
      refine l_y rfl rfl (y_move rfl) ?_
      refine l_y rfl rfl (y_move rfl) ?_
      refine Z1 (fun h3_2 => ?_) (fun h3_2 => ?_)
      · refine l_y rfl rfl (y_move rfl) ?_
        refine l_y rfl rfl (y_move rfl) ?_
        refine Z1 (fun h3_5 => ?_) (fun h3_5 => ?_)
        · refine l_y rfl rfl (y_pick_t rfl rfl) ?_
          refine K2 (K3 (L8 (K5 (K3 (K4 (K0 ?_))))))
          have hb := hx.resolve_left h3_5
          have hb2 := hasB_true hb
          refine K1 ?_
          refine l_y rfl rfl (y_move rfl) ?_
          refine l_y rfl rfl (y_nilCheck rfl rfl) ?_
          refine l_y rfl rfl (y_fldb (o' := 0) rfl) ?_
          refine l_y rfl rfl (D5 hO rfl) ?_
          refine l_y rfl rfl (y_move rfl) ?_
          refine l_y rfl rfl (y_idx rfl rfl) ?_
          refine l_y rfl rfl (y_eA (x0 := 0) (cs := [.int .i64 (at_ A (x : Int).toNat).Node.Kind, .int .i64 (at_ A (x : Int).toNat).Node.Space, .string (at_ A (x : Int).toNat).Node.Name, .slice (at_ A (x : Int).toNat).Node.AttrsP (at_ A (x : Int).toNat).Node.Attrs.length (at_ A (x : Int).toNat).Node.AttrsC, .string (at_ A (x : Int).toNat).Node.Data, .string (at_ A (x : Int).toNat).Node.System, .int .i64 (at_ A (x : Int).toNat).Node.Parent, .int .i64 (at_ A (x : Int).toNat).Node.First, .int .i64 (at_ A (x : Int).toNat).Node.Last, .int .i64 (at_ A (x : Int).toNat).Node.Prev, .int .i64 (at_ A (x : Int).toNat).Node.Next, .int .i64 (at_ A (x : Int).toNat).Node.Inner, .int .i64 (at_ A (x : Int).toNat).host]) hO rfl) ?_
          refine s_alloc (vs := [.int .i64 0, .int .i64 0, .string ⟨#[]⟩, .slice none 0 0, .string ⟨#[]⟩, .string ⟨#[]⟩, .int .i64 0, .int .i64 0, .int .i64 0, .int .i64 0, .int .i64 0, .int .i64 0, .int .i64 0]) hO rfl rfl rfl fun b7 w hO => ?_
          refine Y3 hO rfl rfl (fun w hO => ?_)
          refine K2 (K3 (K0 (K1 ?_)))
          refine l_y rfl rfl (y_fldb (o' := 0) rfl) ?_
          refine l_y rfl rfl (y_fldb (o' := 6) rfl) ?_
          refine l_y rfl rfl (D5 hO rfl) ?_
          refine l_y rfl rfl (y_assign rfl) ?_
          refine K2 (K3 (K0 (K1 ?_)))
          refine l_y rfl rfl (y_move rfl) ?_
          refine Z0 (fun h6_1 => ?_) (fun h6_1 => ?_)
          · refine K2 (K3 (L8 (K1 ?_)))
            refine l_y rfl rfl (y_fldb (o' := 12) rfl) ?_
            refine l_y rfl rfl (D5 hO rfl) ?_
            refine l_y rfl rfl (y_assign rfl) ?_
            refine K2 (K8 ?_)
            have hnx : nextUp A x = (at_ A (x : Int).toNat).host := by simp only [nextUp]; first | rw [if_pos h6_1] | rw [if_neg h6_1]
            have hrx := hrk x (hx.resolve_left h3_5)
            have hlt : (if nextUp A x = -1 then 0 else rk (nextUp A x) + 1) < rk x + 1 := by
              split
              · omega
              · rename_i h; have := (hrx.resolve_left h).2; omega
            exact q_next ((at_ A (x : Int).toNat).host) ⟨rfl, rfl, rfl, rfl, trivial⟩ ⟨hO.only [.b a, .p p], by rw [← hnx]; exact hrx.imp (fun h => h) And.left, by rw [he, anc_ne h3_2 h3_5, hnx]⟩ (by rw [← hm, if_neg h3_5, ← hnx]; exact hlt)
          · refine K2 (K3 (L9 (K5 (K8 ?_))))
            have hnx : nextUp A x = (at_ A (x : Int).toNat).Node.Parent := by simp only [nextUp]; first | rw [if_pos h6_1] | rw [if_neg h6_1]
            have hrx := hrk x (hx.resolve_left h3_5)
            have hlt : (if nextUp A x = -1 then 0 else rk (nextUp A x) + 1) < rk x + 1 := by
              split
              · omega
              · rename_i h; have := (hrx.resolve_left h).2; omega
            exact q_next ((at_ A (x : Int).toNat).Node.Parent) ⟨rfl, rfl, rfl, rfl, trivial⟩ ⟨hO.only [.b a, .p p], by rw [← hnx]; exact hrx.imp (fun h => h) And.left, by rw [he, anc_ne h3_2 h3_5, hnx]⟩ (by rw [← hm, if_neg h3_5, ← hnx]; exact hlt)
        · refine l_y rfl rfl (y_pick_t rfl rfl) ?_
          refine K2 (K3 (L9 (K7 (L1 (L1 (L2 (K3 (K0 (K1 ?_)))))))))
          refine l_y rfl rfl (y_move rfl) ?_
          refine l_y rfl rfl (y_move rfl) ?_
          refine Z0 (fun h8_2 => ?_) (fun h8_2 => ?_)
          · refine l_y rfl rfl (y_assign rfl) ?_
            refine K2 (K3 (K6 ?_))
            have hid : hasB A id = true := hg16
            have hot : hasB A other = true := hc21
            have hot2 := hasB_true hot
            first
            | (exfalso; omega)
            | (have e : x = other := by omega
               subst e
               exact fin1 rfl rfl ⟨_, ⟨by simp [aboveB, hid, hot, ancB_of (he.2 (.refl _))], rfl⟩, hO⟩)
            | (have e : x = -1 := by omega
               subst e
               exact fin1 rfl rfl ⟨_, ⟨by simp [aboveB, ancB_not (fun h => h8_2 (anc_none (he.1 h)).symm)], rfl⟩, hO⟩)
          · refine l_y rfl rfl (y_assign rfl) ?_
            refine K2 (K3 (K6 ?_))
            have hid : hasB A id = true := hg16
            have hot : hasB A other = true := hc21
            have hot2 := hasB_true hot
            first
            | (exfalso; omega)
            | (have e : x = other := by omega
               subst e
               exact fin1 rfl rfl ⟨_, ⟨by simp [aboveB, hid, hot, ancB_of (he.2 (.refl _))], rfl⟩, hO⟩)
            | (have e : x = -1 := by omega
               subst e
               exact fin1 rfl rfl ⟨_, ⟨by simp [aboveB, ancB_not (fun h => h8_2 (anc_none (he.1 h)).symm)], rfl⟩, hO⟩)
      · refine l_y rfl rfl (y_move rfl) ?_
        repeat refine M2 ?_
        refine l_y rfl rfl (y_pick_f rfl rfl) ?_
        refine K2 (K3 (L9 (K7 (L1 (L1 (L2 (K3 (K0 (K1 ?_)))))))))
        refine l_y rfl rfl (y_move rfl) ?_
        refine l_y rfl rfl (y_move rfl) ?_
        refine Z0 (fun h8_2 => ?_) (fun h8_2 => ?_)
        · refine l_y rfl rfl (y_assign rfl) ?_
          refine K2 (K3 (K6 ?_))
          have hid : hasB A id = true := hg16
          have hot : hasB A other = true := hc21
          have hot2 := hasB_true hot
          first
          | (exfalso; omega)
          | (have e : x = other := by omega
             subst e
             exact fin1 rfl rfl ⟨_, ⟨by simp [aboveB, hid, hot, ancB_of (he.2 (.refl _))], rfl⟩, hO⟩)
          | (have e : x = -1 := by omega
             subst e
             exact fin1 rfl rfl ⟨_, ⟨by simp [aboveB, ancB_not (fun h => h8_2 (anc_none (he.1 h)).symm)], rfl⟩, hO⟩)
        · refine l_y rfl rfl (y_assign rfl) ?_
          refine K2 (K3 (K6 ?_))
          have hid : hasB A id = true := hg16
          have hot : hasB A other = true := hc21
          have hot2 := hasB_true hot
          first
          | (exfalso; omega)
          | (have e : x = other := by omega
             subst e
             exact fin1 rfl rfl ⟨_, ⟨by simp [aboveB, hid, hot, ancB_of (he.2 (.refl _))], rfl⟩, hO⟩)
          | (have e : x = -1 := by omega
             subst e
             exact fin1 rfl rfl ⟨_, ⟨by simp [aboveB, ancB_not (fun h => h8_2 (anc_none (he.1 h)).symm)], rfl⟩, hO⟩)
def InR (A : List Node_one) (v : Int) : Prop := v = -1 ∨ 0 ≤ v ∧ v < A.length
structure LinksOk (A : List Node_one) : Prop where
  first : ∀ x, hasB A x = true → InR A (at_ A x.toNat).Node.First
  last : ∀ x, hasB A x = true → InR A (at_ A x.toNat).Node.Last
  prev : ∀ x, hasB A x = true → InR A (at_ A x.toNat).Node.Prev
  next : ∀ x, hasB A x = true → InR A (at_ A x.toNat).Node.Next
  parent : ∀ x, hasB A x = true → InR A (at_ A x.toNat).Node.Parent
def setLinks (A : List Node_one) (id up prev next : Int) : List Node_one := A.set id.toNat { at_ A id.toNat with Node := { (at_ A id.toNat).Node with Parent := up, Prev := prev, Next := next } }
def prevL (A : List Node_one) (up before : Int) : Int := if before = -1 then (at_ A up.toNat).Node.Last else (at_ A before.toNat).Node.Prev
noncomputable def linkL (A : List Node_one) (up id before : Int) : Int × List Node_one :=
  if hasB A up = false ∨ hasB A id = false ∨ (before ≠ -1 ∧ hasB A before = false) then (6, A)
  else if parentB (at_ A up.toNat).Node.Kind = false ∨ (at_ A id.toNat).Node.Kind = 0 ∨ (at_ A id.toNat).Node.Kind = 5 then (10, A)
  else if (at_ A id.toNat).Node.Parent ≠ -1 ∨ aboveB A up id = true then (11, A)
  else if before ≠ -1 ∧ (at_ A before.toNat).Node.Parent ≠ up then (1, A)
  else (0, joinL (joinL (setLinks A id up (prevL A up before) before) up (prevL A up before) id) up id before)
set_option maxHeartbeats 2000000 in
theorem Link_spec {k : Ctx} {w : World} {a : Nat} {A : List Node_one} {p : Option Addr} {c : Nat} {up id before : Int} (hn : 0 < A.length) (hg : Gs p A.length) (hrk : Ranked A) (hL : LinksOk A) (hO : Own k w [arB a p A.length c, arS p c A]) :
    Tri Tryz.prog 19 #[.pointer (some ⟨a, 0, none⟩), .int .i64 up, .int .i64 id, .int .i64 before] k w fun v m => v = .int .i64 (linkL A up id before).1 ∧ m = [arB a p A.length c, arS p c (linkL A up id before).2] := by
  refine enter (args := [.pointer (some ⟨a, 0, none⟩), .int .i64 up, .int .i64 id, .int .i64 before]) Tryz.func19 rfl rfl ?_
  refine K0 (K1 ?_)
  refine l_y rfl rfl (y_assign rfl) ?_
  refine K2 (K3 (K0 (K4 (K0 (K1 ?_)))))
  refine l_y rfl rfl (y_move rfl) ?_
  refine CK [.b a, .p p] hO rfl (fun k' hx hr hO' => none_spec (hO := hO')) ?_
  rintro _ _ w ⟨rfl, rfl⟩ hO
  simp only [List.cons_append, List.nil_append] at hO
  refine l_y rfl rfl (y_assign rfl) ?_
  refine K2 (K3 (L9 (K0 (K1 ?_))))
  refine l_y rfl rfl (y_move rfl) ?_
  refine l_y rfl rfl (y_move rfl) ?_
  refine CK [.b a, .p p] hO rfl (fun k' hx hr hO' => has_spec (hO := hO')) ?_
  rintro _ _ w ⟨rfl, rfl⟩ hO
  simp only [List.cons_append, List.nil_append] at hO
  refine l_y rfl rfl (y_not rfl rfl) ?_
  refine l_y rfl rfl (y_move rfl) ?_
  refine l_split 19 rfl (fun hg19 => ?_) (fun hg19 => ?_)
  · simp only [Bool.not_eq_true', Bool.not_eq_false'] at hg19
    repeat refine M2 ?_
    refine l_y rfl rfl (y_pick_t rfl rfl) ?_
    refine l_y rfl rfl (y_move rfl) ?_
    repeat refine M2 ?_
    refine l_y rfl rfl (y_pick_t rfl rfl) ?_
    refine l_y rfl rfl (y_assign rfl) ?_
    refine K2 (K3 (L8 (K0 (K1 ?_))))
    refine l_y rfl rfl (y_assign rfl) ?_
    refine K2 (K3 (K6 (L0 (K9 ?_))))
    exact fin1 rfl rfl ⟨_, ⟨by simp [linkL, *], by simp [linkL, *]⟩, hO⟩
  · simp only [Bool.not_eq_true', Bool.not_eq_false'] at hg19
    refine l_y rfl rfl (y_move rfl) ?_
    refine l_y rfl rfl (y_move rfl) ?_
    refine CK [.b a, .p p] hO rfl (fun k' hx hr hO' => has_spec (hO := hO')) ?_
    rintro _ _ w ⟨rfl, rfl⟩ hO
    simp only [List.cons_append, List.nil_append] at hO
    refine l_y rfl rfl (y_not rfl rfl) ?_
    refine l_y rfl rfl (y_pick_f rfl rfl) ?_
    refine l_y rfl rfl (y_move rfl) ?_
    refine l_split 25 rfl (fun hg25 => ?_) (fun hg25 => ?_)
    · simp only [Bool.not_eq_true', Bool.not_eq_false'] at hg25
      repeat refine M2 ?_
      refine l_y rfl rfl (y_pick_t rfl rfl) ?_
      refine l_y rfl rfl (y_assign rfl) ?_
      refine K2 (K3 (L8 (K0 (K1 ?_))))
      refine l_y rfl rfl (y_assign rfl) ?_
      refine K2 (K3 (K6 (L0 (K9 ?_))))
      exact fin1 rfl rfl ⟨_, ⟨by simp [linkL, *], by simp [linkL, *]⟩, hO⟩
    · simp only [Bool.not_eq_true', Bool.not_eq_false'] at hg25
      refine l_y rfl rfl (y_move rfl) ?_
      refine Z1 (fun h3_12 => ?_) (fun h3_12 => ?_)
      · refine l_y rfl rfl (y_move rfl) ?_
        refine l_y rfl rfl (y_move rfl) ?_
        refine l_y rfl rfl (y_move rfl) ?_
        refine CK [.b a, .p p] hO rfl (fun k' hx hr hO' => has_spec (hO := hO')) ?_
        rintro _ _ w ⟨rfl, rfl⟩ hO
        simp only [List.cons_append, List.nil_append] at hO
        refine l_y rfl rfl (y_not rfl rfl) ?_
        refine l_y rfl rfl (y_pick_t rfl rfl) ?_
        refine l_y rfl rfl (y_pick_f rfl rfl) ?_
        refine l_y rfl rfl (y_assign rfl) ?_
        refine K2 (K3 ?_)
        refine c_split rfl (fun hc14 => ?_) (fun hc14 => ?_)
        · simp only [Bool.not_eq_true', Bool.not_eq_false'] at hc14
          refine K0 (K1 ?_)
          refine l_y rfl rfl (y_assign rfl) ?_
          refine K2 (K3 (K6 (L0 (K9 ?_))))
          exact fin1 rfl rfl ⟨_, ⟨by simp [linkL, *], by simp [linkL, *]⟩, hO⟩
        · simp only [Bool.not_eq_true', Bool.not_eq_false'] at hc14
          refine K0 ?_
          have hup := hasB_true hg19
          have hid := hasB_true hg25
          try have hbe := hasB_true hc14
          have hq1 : _ ∨ _ := hL.last up hg19
          try have hq2 : _ ∨ _ := hL.prev before hc14
          refine K1 ?_
          refine l_y rfl rfl (y_move rfl) ?_
          refine l_y rfl rfl (y_nilCheck rfl rfl) ?_
          refine l_y rfl rfl (y_fldb (o' := 0) rfl) ?_
          refine l_y rfl rfl (D5 hO rfl) ?_
          refine l_y rfl rfl (y_move rfl) ?_
          refine l_y rfl rfl (y_idx rfl rfl) ?_
          refine l_y rfl rfl (y_fld (j' := 0) rfl) ?_
          refine l_y rfl rfl (y_fld (j' := 0) rfl) ?_
          refine l_y rfl rfl (y_e1 (x0 := 0) hO rfl) ?_
          refine CK [] hO rfl (fun k' hx hr hO' => parent_spec (hO := hO')) ?_
          rintro _ _ w ⟨rfl, rfl⟩ hO
          simp only [List.cons_append, List.nil_append] at hO
          refine l_y rfl rfl (y_not rfl rfl) ?_
          refine l_y rfl rfl (y_move rfl) ?_
          refine l_split 47 rfl (fun hg47 => ?_) (fun hg47 => ?_)
          · simp only [Bool.not_eq_true', Bool.not_eq_false'] at hg47
            repeat refine M2 ?_
            refine l_y rfl rfl (y_pick_t rfl rfl) ?_
            refine l_y rfl rfl (y_move rfl) ?_
            repeat refine M2 ?_
            refine l_y rfl rfl (y_pick_t rfl rfl) ?_
            refine l_y rfl rfl (y_assign rfl) ?_
            refine K2 (K3 (L8 (K0 (K1 ?_))))
            refine l_y rfl rfl (y_assign rfl) ?_
            refine K2 (K3 (K6 (L0 (K9 ?_))))
            exact fin1 rfl rfl ⟨_, ⟨by simp [linkL, *], by simp [linkL, *]⟩, hO⟩
          · simp only [Bool.not_eq_true', Bool.not_eq_false'] at hg47
            refine l_y rfl rfl (y_move rfl) ?_
            refine l_y rfl rfl (y_nilCheck rfl rfl) ?_
            refine l_y rfl rfl (y_fldb (o' := 0) rfl) ?_
            refine l_y rfl rfl (D5 hO rfl) ?_
            refine l_y rfl rfl (y_move rfl) ?_
            refine l_y rfl rfl (y_idx rfl rfl) ?_
            refine l_y rfl rfl (y_fld (j' := 0) rfl) ?_
            refine l_y rfl rfl (y_fld (j' := 0) rfl) ?_
            refine l_y rfl rfl (y_e1 (x0 := 0) hO rfl) ?_
            refine Z0 (fun h5_21 => ?_) (fun h5_21 => ?_)
            · refine l_y rfl rfl (y_pick_f rfl rfl) ?_
              refine l_y rfl rfl (y_move rfl) ?_
              repeat refine M2 ?_
              refine l_y rfl rfl (y_pick_t rfl rfl) ?_
              refine l_y rfl rfl (y_assign rfl) ?_
              refine K2 (K3 (L8 (K0 (K1 ?_))))
              refine l_y rfl rfl (y_assign rfl) ?_
              refine K2 (K3 (K6 (L0 (K9 ?_))))
              exact fin1 rfl rfl ⟨_, ⟨by simp [linkL, *], by simp [linkL, *]⟩, hO⟩
            · refine l_y rfl rfl (y_pick_f rfl rfl) ?_
              refine l_y rfl rfl (y_move rfl) ?_
              refine l_y rfl rfl (y_move rfl) ?_
              refine l_y rfl rfl (y_nilCheck rfl rfl) ?_
              refine l_y rfl rfl (y_fldb (o' := 0) rfl) ?_
              refine l_y rfl rfl (D5 hO rfl) ?_
              refine l_y rfl rfl (y_move rfl) ?_
              refine l_y rfl rfl (y_idx rfl rfl) ?_
              refine l_y rfl rfl (y_fld (j' := 0) rfl) ?_
              refine l_y rfl rfl (y_fld (j' := 0) rfl) ?_
              refine l_y rfl rfl (y_e1 (x0 := 0) hO rfl) ?_
              refine Z0 (fun h5_33 => ?_) (fun h5_33 => ?_)
              · refine l_y rfl rfl (y_pick_f rfl rfl) ?_
                refine l_y rfl rfl (y_assign rfl) ?_
                refine K2 (K3 (L8 (K0 (K1 ?_))))
                refine l_y rfl rfl (y_assign rfl) ?_
                refine K2 (K3 (K6 (L0 (K9 ?_))))
                exact fin1 rfl rfl ⟨_, ⟨by simp [linkL, *], by simp [linkL, *]⟩, hO⟩
              · refine l_y rfl rfl (y_pick_f rfl rfl) ?_
                refine l_y rfl rfl (y_assign rfl) ?_
                refine K2 (K3 (L9 (K0 (K1 ?_))))
                refine l_y rfl rfl (y_move rfl) ?_
                refine l_y rfl rfl (y_nilCheck rfl rfl) ?_
                refine l_y rfl rfl (y_fldb (o' := 0) rfl) ?_
                refine l_y rfl rfl (D5 hO rfl) ?_
                refine l_y rfl rfl (y_move rfl) ?_
                refine l_y rfl rfl (y_idx rfl rfl) ?_
                refine l_y rfl rfl (y_fld (j' := 0) rfl) ?_
                refine l_y rfl rfl (y_fld (j' := 6) rfl) ?_
                refine l_y rfl rfl (y_e1 (x0 := 6) hO rfl) ?_
                refine Z1 (fun h7_9 => ?_) (fun h7_9 => ?_)
                · refine l_y rfl rfl (y_move rfl) ?_
                  repeat refine M2 ?_
                  refine l_y rfl rfl (y_pick_t rfl rfl) ?_
                  refine l_y rfl rfl (y_assign rfl) ?_
                  refine K2 (K3 (L8 (K0 (K1 ?_))))
                  refine l_y rfl rfl (y_assign rfl) ?_
                  refine K2 (K3 (K6 (L0 (K9 ?_))))
                  exact fin1 rfl rfl ⟨_, ⟨by simp [linkL, *], by simp [linkL, *]⟩, hO⟩
                · refine l_y rfl rfl (y_move rfl) ?_
                  refine l_y rfl rfl (y_move rfl) ?_
                  refine l_y rfl rfl (y_move rfl) ?_
                  refine l_y rfl rfl (y_move rfl) ?_
                  refine CK [.b a, .p p] hO rfl (fun k' hx hr hO' => Above_spec hn hg hrk (hO := hO')) ?_
                  rintro _ _ w ⟨rfl, rfl⟩ hO
                  simp only [List.cons_append, List.nil_append] at hO
                  refine l_y rfl rfl (y_pick_f rfl rfl) ?_
                  refine l_y rfl rfl (y_assign rfl) ?_
                  refine K2 (K3 ?_)
                  refine c_split rfl (fun hc71 => ?_) (fun hc71 => ?_)
                  · refine K0 (K1 ?_)
                    refine l_y rfl rfl (y_assign rfl) ?_
                    refine K2 (K3 (K6 (L0 (K9 ?_))))
                    exact fin1 rfl rfl ⟨_, ⟨by simp [linkL, *], by simp [linkL, *]⟩, hO⟩
                  · refine K0 (K1 ?_)
                    refine l_y rfl rfl (y_move rfl) ?_
                    refine Z1 (fun h9_1 => ?_) (fun h9_1 => ?_)
                    · first
                      | (exfalso; omega)
                      | skip
                        refine l_y rfl rfl (y_move rfl) ?_
                        refine l_y rfl rfl (y_move rfl) ?_
                        refine l_y rfl rfl (y_nilCheck rfl rfl) ?_
                        refine l_y rfl rfl (y_fldb (o' := 0) rfl) ?_
                        refine l_y rfl rfl (D5 hO rfl) ?_
                        refine l_y rfl rfl (y_move rfl) ?_
                        refine l_y rfl rfl (y_idx rfl rfl) ?_
                        refine l_y rfl rfl (y_fld (j' := 0) rfl) ?_
                        refine l_y rfl rfl (y_fld (j' := 6) rfl) ?_
                        refine l_y rfl rfl (y_e1 (x0 := 6) hO rfl) ?_
                        refine l_y rfl rfl (y_move rfl) ?_
                        refine Z1 (fun h9_13 => ?_) (fun h9_13 => ?_)
                        · refine l_y rfl rfl (y_pick_t rfl rfl) ?_
                          refine l_y rfl rfl (y_assign rfl) ?_
                          refine K2 (K3 (L8 (K0 (K1 ?_))))
                          refine l_y rfl rfl (y_assign rfl) ?_
                          refine K2 (K3 (K6 (L0 (K9 ?_))))
                          exact fin1 rfl rfl ⟨_, ⟨by simp [linkL, *], by simp [linkL, *]⟩, hO⟩
                        · refine l_y rfl rfl (y_pick_t rfl rfl) ?_
                          refine l_y rfl rfl (y_assign rfl) ?_
                          refine K2 (K3 (L9 (K5 (K8 (K3 (K0 (K1 ?_)))))))
                          refine l_y rfl rfl (y_move rfl) ?_
                          refine l_y rfl rfl (y_nilCheck rfl rfl) ?_
                          refine l_y rfl rfl (y_fldb (o' := 0) rfl) ?_
                          refine l_y rfl rfl (D5 hO rfl) ?_
                          refine l_y rfl rfl (y_move rfl) ?_
                          refine l_y rfl rfl (y_idx rfl rfl) ?_
                          refine l_y rfl rfl (y_fld (j' := 0) rfl) ?_
                          refine l_y rfl rfl (y_fld (j' := 8) rfl) ?_
                          refine l_y rfl rfl (y_e1 (x0 := 8) hO rfl) ?_
                          refine l_y rfl rfl (y_assign rfl) ?_
                          refine K2 (K3 (K0 (K0 (K1 ?_))))
                          refine l_y rfl rfl (y_move rfl) ?_
                          refine Z1 (fun h12_1 => ?_) (fun h12_1 => ?_)
                          · first
                            | (exfalso; omega)
                            | skip
                              refine K2 (K3 (L8 (K1 ?_)))
                              refine l_y rfl rfl (y_move rfl) ?_
                              refine l_y rfl rfl (y_nilCheck rfl rfl) ?_
                              refine l_y rfl rfl (y_fldb (o' := 0) rfl) ?_
                              refine l_y rfl rfl (D5 hO rfl) ?_
                              refine l_y rfl rfl (y_move rfl) ?_
                              refine l_y rfl rfl (y_idx rfl rfl) ?_
                              refine l_y rfl rfl (y_fld (j' := 0) rfl) ?_
                              refine l_y rfl rfl (y_fld (j' := 9) rfl) ?_
                              refine l_y rfl rfl (y_e1 (x0 := 9) hO rfl) ?_
                              refine l_y rfl rfl (y_assign rfl) ?_
                              refine K2 (K3 (K0 (K1 ?_)))
                              refine l_y rfl rfl (y_move rfl) ?_
                              refine l_y rfl rfl (y_nilCheck rfl rfl) ?_
                              refine l_y rfl rfl (y_fldb (o' := 0) rfl) ?_
                              refine l_y rfl rfl (D5 hO rfl) ?_
                              refine l_y rfl rfl (y_move rfl) ?_
                              refine l_y rfl rfl (y_idx rfl rfl) ?_
                              refine l_y rfl rfl (y_assign rfl) ?_
                              refine K2 (K3 (K0 (K1 ?_)))
                              refine l_y rfl rfl (y_move rfl) ?_
                              refine l_y rfl rfl (y_move rfl) ?_
                              refine l_y rfl rfl (y_move rfl) ?_
                              refine l_y rfl rfl (y_move rfl) ?_
                              refine l_y rfl rfl (y_move rfl) ?_
                              refine l_y rfl rfl (y_move rfl) ?_
                              refine l_y rfl rfl (y_nilCheck rfl rfl) ?_
                              refine l_y rfl rfl (y_fld (j' := 0) rfl) ?_
                              refine l_y rfl rfl (y_fld (j' := 6) rfl) ?_
                              refine s_e1 (x0 := 6) hO rfl rfl (fun w hO => ?_)
                              refine l_y rfl rfl (y_nilCheck rfl rfl) ?_
                              refine l_y rfl rfl (y_fld (j' := 0) rfl) ?_
                              refine l_y rfl rfl (y_fld (j' := 9) rfl) ?_
                              refine s_e1 (x0 := 9) hO rfl rfl (fun w hO => ?_)
                              simp only [at_set_eq (show id.toNat < A.length by omega), List.set_set] at hO
                              refine l_y rfl rfl (y_nilCheck rfl rfl) ?_
                              refine l_y rfl rfl (y_fld (j' := 0) rfl) ?_
                              refine l_y rfl rfl (y_fld (j' := 10) rfl) ?_
                              refine s_e1 (x0 := 10) hO rfl rfl (fun w hO => ?_)
                              simp only [at_set_eq (show id.toNat < A.length by omega), List.set_set] at hO
                              refine K2 (K3 (K0 ?_))
                              have hO : Own k w [arB a p A.length c, arS p c (setLinks A id up (at_ A (before : Int).toNat).Node.Prev before)] := hO
                              refine K1 ?_
                              refine l_y rfl rfl (y_move rfl) ?_
                              refine l_y rfl rfl (y_move rfl) ?_
                              refine l_y rfl rfl (y_move rfl) ?_
                              refine l_y rfl rfl (y_move rfl) ?_
                              refine CK [.b a, .p p] hO rfl (fun k' hx hr hO' => join_spec hg (by simp only [setLinks, List.length_set, joinL_len]) (by omega) (by omega) (by omega) (hO := hO')) ?_
                              rintro _ _ w ⟨rfl, rfl⟩ hO
                              simp only [List.cons_append, List.nil_append] at hO
                              refine K2 (K3 (K0 (K1 ?_)))
                              refine l_y rfl rfl (y_move rfl) ?_
                              refine l_y rfl rfl (y_move rfl) ?_
                              refine l_y rfl rfl (y_move rfl) ?_
                              refine l_y rfl rfl (y_move rfl) ?_
                              refine CK [.b a, .p p] hO rfl (fun k' hx hr hO' => join_spec hg (by simp only [setLinks, List.length_set, joinL_len]) (by omega) (by omega) (by omega) (hO := hO')) ?_
                              rintro _ _ w ⟨rfl, rfl⟩ hO
                              simp only [List.cons_append, List.nil_append] at hO
                              refine K2 (K3 (K0 (K1 ?_)))
                              refine l_y rfl rfl (y_assign rfl) ?_
                              refine K2 (K3 (K6 ?_))
                              have e : prevL A up before = (at_ A (before : Int).toNat).Node.Prev := by simp only [prevL]; first | rw [if_pos h12_1] | rw [if_neg h12_1]
                              have e2 : linkL A up id before = (0, joinL (joinL (setLinks A id up (prevL A up before) before) up (prevL A up before) id) up id before) := by
                                unfold linkL; rw [if_neg (by simp [*]), if_neg (by simp [*]), if_neg (by simp [*]), if_neg (by simp [*])]
                              exact fin1 rfl rfl ⟨_, ⟨by rw [e2], by rw [e2, e]⟩, hO⟩
                          · first
                            | (exfalso; omega)
                            | skip
                              refine K2 (K3 (L9 (K5 (K3 (K0 (K1 ?_))))))
                              refine l_y rfl rfl (y_move rfl) ?_
                              refine l_y rfl rfl (y_nilCheck rfl rfl) ?_
                              refine l_y rfl rfl (y_fldb (o' := 0) rfl) ?_
                              refine l_y rfl rfl (D5 hO rfl) ?_
                              refine l_y rfl rfl (y_move rfl) ?_
                              refine l_y rfl rfl (y_idx rfl rfl) ?_
                              refine l_y rfl rfl (y_assign rfl) ?_
                              refine K2 (K3 (K0 (K1 ?_)))
                              refine l_y rfl rfl (y_move rfl) ?_
                              refine l_y rfl rfl (y_move rfl) ?_
                              refine l_y rfl rfl (y_move rfl) ?_
                              refine l_y rfl rfl (y_move rfl) ?_
                              refine l_y rfl rfl (y_move rfl) ?_
                              refine l_y rfl rfl (y_move rfl) ?_
                              refine l_y rfl rfl (y_nilCheck rfl rfl) ?_
                              refine l_y rfl rfl (y_fld (j' := 0) rfl) ?_
                              refine l_y rfl rfl (y_fld (j' := 6) rfl) ?_
                              refine s_e1 (x0 := 6) hO rfl rfl (fun w hO => ?_)
                              refine l_y rfl rfl (y_nilCheck rfl rfl) ?_
                              refine l_y rfl rfl (y_fld (j' := 0) rfl) ?_
                              refine l_y rfl rfl (y_fld (j' := 9) rfl) ?_
                              refine s_e1 (x0 := 9) hO rfl rfl (fun w hO => ?_)
                              simp only [at_set_eq (show id.toNat < A.length by omega), List.set_set] at hO
                              refine l_y rfl rfl (y_nilCheck rfl rfl) ?_
                              refine l_y rfl rfl (y_fld (j' := 0) rfl) ?_
                              refine l_y rfl rfl (y_fld (j' := 10) rfl) ?_
                              refine s_e1 (x0 := 10) hO rfl rfl (fun w hO => ?_)
                              simp only [at_set_eq (show id.toNat < A.length by omega), List.set_set] at hO
                              refine K2 (K3 (K0 ?_))
                              have hO : Own k w [arB a p A.length c, arS p c (setLinks A id up (at_ A (up : Int).toNat).Node.Last before)] := hO
                              refine K1 ?_
                              refine l_y rfl rfl (y_move rfl) ?_
                              refine l_y rfl rfl (y_move rfl) ?_
                              refine l_y rfl rfl (y_move rfl) ?_
                              refine l_y rfl rfl (y_move rfl) ?_
                              refine CK [.b a, .p p] hO rfl (fun k' hx hr hO' => join_spec hg (by simp only [setLinks, List.length_set, joinL_len]) (by omega) (by omega) (by omega) (hO := hO')) ?_
                              rintro _ _ w ⟨rfl, rfl⟩ hO
                              simp only [List.cons_append, List.nil_append] at hO
                              refine K2 (K3 (K0 (K1 ?_)))
                              refine l_y rfl rfl (y_move rfl) ?_
                              refine l_y rfl rfl (y_move rfl) ?_
                              refine l_y rfl rfl (y_move rfl) ?_
                              refine l_y rfl rfl (y_move rfl) ?_
                              refine CK [.b a, .p p] hO rfl (fun k' hx hr hO' => join_spec hg (by simp only [setLinks, List.length_set, joinL_len]) (by omega) (by omega) (by omega) (hO := hO')) ?_
                              rintro _ _ w ⟨rfl, rfl⟩ hO
                              simp only [List.cons_append, List.nil_append] at hO
                              refine K2 (K3 (K0 (K1 ?_)))
                              refine l_y rfl rfl (y_assign rfl) ?_
                              refine K2 (K3 (K6 ?_))
                              have e : prevL A up before = (at_ A (up : Int).toNat).Node.Last := by simp only [prevL]; first | rw [if_pos h12_1] | rw [if_neg h12_1]
                              have e2 : linkL A up id before = (0, joinL (joinL (setLinks A id up (prevL A up before) before) up (prevL A up before) id) up id before) := by
                                unfold linkL; rw [if_neg (by simp [*]), if_neg (by simp [*]), if_neg (by simp [*]), if_neg (by simp [*])]
                              exact fin1 rfl rfl ⟨_, ⟨by rw [e2], by rw [e2, e]⟩, hO⟩
                    · first
                      | (exfalso; omega)
                      | skip
                        refine l_y rfl rfl (y_move rfl) ?_
                        repeat refine M2 ?_
                        refine l_y rfl rfl (y_pick_f rfl rfl) ?_
                        refine l_y rfl rfl (y_assign rfl) ?_
                        refine K2 (K3 (L9 (K5 (K8 (K3 (K0 (K1 ?_)))))))
                        refine l_y rfl rfl (y_move rfl) ?_
                        refine l_y rfl rfl (y_nilCheck rfl rfl) ?_
                        refine l_y rfl rfl (y_fldb (o' := 0) rfl) ?_
                        refine l_y rfl rfl (D5 hO rfl) ?_
                        refine l_y rfl rfl (y_move rfl) ?_
                        refine l_y rfl rfl (y_idx rfl rfl) ?_
                        refine l_y rfl rfl (y_fld (j' := 0) rfl) ?_
                        refine l_y rfl rfl (y_fld (j' := 8) rfl) ?_
                        refine l_y rfl rfl (y_e1 (x0 := 8) hO rfl) ?_
                        refine l_y rfl rfl (y_assign rfl) ?_
                        refine K2 (K3 (K0 (K0 (K1 ?_))))
                        refine l_y rfl rfl (y_move rfl) ?_
                        refine Z1 (fun h12_1 => ?_) (fun h12_1 => ?_)
                        · first
                          | (exfalso; omega)
                          | skip
                            refine K2 (K3 (L8 (K1 ?_)))
                            refine l_y rfl rfl (y_move rfl) ?_
                            refine l_y rfl rfl (y_nilCheck rfl rfl) ?_
                            refine l_y rfl rfl (y_fldb (o' := 0) rfl) ?_
                            refine l_y rfl rfl (D5 hO rfl) ?_
                            refine l_y rfl rfl (y_move rfl) ?_
                            refine l_y rfl rfl (y_idx rfl rfl) ?_
                            refine l_y rfl rfl (y_fld (j' := 0) rfl) ?_
                            refine l_y rfl rfl (y_fld (j' := 9) rfl) ?_
                            refine l_y rfl rfl (y_e1 (x0 := 9) hO rfl) ?_
                            refine l_y rfl rfl (y_assign rfl) ?_
                            refine K2 (K3 (K0 (K1 ?_)))
                            refine l_y rfl rfl (y_move rfl) ?_
                            refine l_y rfl rfl (y_nilCheck rfl rfl) ?_
                            refine l_y rfl rfl (y_fldb (o' := 0) rfl) ?_
                            refine l_y rfl rfl (D5 hO rfl) ?_
                            refine l_y rfl rfl (y_move rfl) ?_
                            refine l_y rfl rfl (y_idx rfl rfl) ?_
                            refine l_y rfl rfl (y_assign rfl) ?_
                            refine K2 (K3 (K0 (K1 ?_)))
                            refine l_y rfl rfl (y_move rfl) ?_
                            refine l_y rfl rfl (y_move rfl) ?_
                            refine l_y rfl rfl (y_move rfl) ?_
                            refine l_y rfl rfl (y_move rfl) ?_
                            refine l_y rfl rfl (y_move rfl) ?_
                            refine l_y rfl rfl (y_move rfl) ?_
                            refine l_y rfl rfl (y_nilCheck rfl rfl) ?_
                            refine l_y rfl rfl (y_fld (j' := 0) rfl) ?_
                            refine l_y rfl rfl (y_fld (j' := 6) rfl) ?_
                            refine s_e1 (x0 := 6) hO rfl rfl (fun w hO => ?_)
                            refine l_y rfl rfl (y_nilCheck rfl rfl) ?_
                            refine l_y rfl rfl (y_fld (j' := 0) rfl) ?_
                            refine l_y rfl rfl (y_fld (j' := 9) rfl) ?_
                            refine s_e1 (x0 := 9) hO rfl rfl (fun w hO => ?_)
                            simp only [at_set_eq (show id.toNat < A.length by omega), List.set_set] at hO
                            refine l_y rfl rfl (y_nilCheck rfl rfl) ?_
                            refine l_y rfl rfl (y_fld (j' := 0) rfl) ?_
                            refine l_y rfl rfl (y_fld (j' := 10) rfl) ?_
                            refine s_e1 (x0 := 10) hO rfl rfl (fun w hO => ?_)
                            simp only [at_set_eq (show id.toNat < A.length by omega), List.set_set] at hO
                            refine K2 (K3 (K0 ?_))
                            have hO : Own k w [arB a p A.length c, arS p c (setLinks A id up (at_ A (before : Int).toNat).Node.Prev before)] := hO
                            refine K1 ?_
                            refine l_y rfl rfl (y_move rfl) ?_
                            refine l_y rfl rfl (y_move rfl) ?_
                            refine l_y rfl rfl (y_move rfl) ?_
                            refine l_y rfl rfl (y_move rfl) ?_
                            refine CK [.b a, .p p] hO rfl (fun k' hx hr hO' => join_spec hg (by simp only [setLinks, List.length_set, joinL_len]) (by omega) (by omega) (by omega) (hO := hO')) ?_
                            rintro _ _ w ⟨rfl, rfl⟩ hO
                            simp only [List.cons_append, List.nil_append] at hO
                            refine K2 (K3 (K0 (K1 ?_)))
                            refine l_y rfl rfl (y_move rfl) ?_
                            refine l_y rfl rfl (y_move rfl) ?_
                            refine l_y rfl rfl (y_move rfl) ?_
                            refine l_y rfl rfl (y_move rfl) ?_
                            refine CK [.b a, .p p] hO rfl (fun k' hx hr hO' => join_spec hg (by simp only [setLinks, List.length_set, joinL_len]) (by omega) (by omega) (by omega) (hO := hO')) ?_
                            rintro _ _ w ⟨rfl, rfl⟩ hO
                            simp only [List.cons_append, List.nil_append] at hO
                            refine K2 (K3 (K0 (K1 ?_)))
                            refine l_y rfl rfl (y_assign rfl) ?_
                            refine K2 (K3 (K6 ?_))
                            have e : prevL A up before = (at_ A (before : Int).toNat).Node.Prev := by simp only [prevL]; first | rw [if_pos h12_1] | rw [if_neg h12_1]
                            have e2 : linkL A up id before = (0, joinL (joinL (setLinks A id up (prevL A up before) before) up (prevL A up before) id) up id before) := by
                              unfold linkL; rw [if_neg (by simp [*]), if_neg (by simp [*]), if_neg (by simp [*]), if_neg (by simp [*])]
                            exact fin1 rfl rfl ⟨_, ⟨by rw [e2], by rw [e2, e]⟩, hO⟩
                        · first
                          | (exfalso; omega)
                          | skip
                            refine K2 (K3 (L9 (K5 (K3 (K0 (K1 ?_))))))
                            refine l_y rfl rfl (y_move rfl) ?_
                            refine l_y rfl rfl (y_nilCheck rfl rfl) ?_
                            refine l_y rfl rfl (y_fldb (o' := 0) rfl) ?_
                            refine l_y rfl rfl (D5 hO rfl) ?_
                            refine l_y rfl rfl (y_move rfl) ?_
                            refine l_y rfl rfl (y_idx rfl rfl) ?_
                            refine l_y rfl rfl (y_assign rfl) ?_
                            refine K2 (K3 (K0 (K1 ?_)))
                            refine l_y rfl rfl (y_move rfl) ?_
                            refine l_y rfl rfl (y_move rfl) ?_
                            refine l_y rfl rfl (y_move rfl) ?_
                            refine l_y rfl rfl (y_move rfl) ?_
                            refine l_y rfl rfl (y_move rfl) ?_
                            refine l_y rfl rfl (y_move rfl) ?_
                            refine l_y rfl rfl (y_nilCheck rfl rfl) ?_
                            refine l_y rfl rfl (y_fld (j' := 0) rfl) ?_
                            refine l_y rfl rfl (y_fld (j' := 6) rfl) ?_
                            refine s_e1 (x0 := 6) hO rfl rfl (fun w hO => ?_)
                            refine l_y rfl rfl (y_nilCheck rfl rfl) ?_
                            refine l_y rfl rfl (y_fld (j' := 0) rfl) ?_
                            refine l_y rfl rfl (y_fld (j' := 9) rfl) ?_
                            refine s_e1 (x0 := 9) hO rfl rfl (fun w hO => ?_)
                            simp only [at_set_eq (show id.toNat < A.length by omega), List.set_set] at hO
                            refine l_y rfl rfl (y_nilCheck rfl rfl) ?_
                            refine l_y rfl rfl (y_fld (j' := 0) rfl) ?_
                            refine l_y rfl rfl (y_fld (j' := 10) rfl) ?_
                            refine s_e1 (x0 := 10) hO rfl rfl (fun w hO => ?_)
                            simp only [at_set_eq (show id.toNat < A.length by omega), List.set_set] at hO
                            refine K2 (K3 (K0 ?_))
                            have hO : Own k w [arB a p A.length c, arS p c (setLinks A id up (at_ A (up : Int).toNat).Node.Last before)] := hO
                            refine K1 ?_
                            refine l_y rfl rfl (y_move rfl) ?_
                            refine l_y rfl rfl (y_move rfl) ?_
                            refine l_y rfl rfl (y_move rfl) ?_
                            refine l_y rfl rfl (y_move rfl) ?_
                            refine CK [.b a, .p p] hO rfl (fun k' hx hr hO' => join_spec hg (by simp only [setLinks, List.length_set, joinL_len]) (by omega) (by omega) (by omega) (hO := hO')) ?_
                            rintro _ _ w ⟨rfl, rfl⟩ hO
                            simp only [List.cons_append, List.nil_append] at hO
                            refine K2 (K3 (K0 (K1 ?_)))
                            refine l_y rfl rfl (y_move rfl) ?_
                            refine l_y rfl rfl (y_move rfl) ?_
                            refine l_y rfl rfl (y_move rfl) ?_
                            refine l_y rfl rfl (y_move rfl) ?_
                            refine CK [.b a, .p p] hO rfl (fun k' hx hr hO' => join_spec hg (by simp only [setLinks, List.length_set, joinL_len]) (by omega) (by omega) (by omega) (hO := hO')) ?_
                            rintro _ _ w ⟨rfl, rfl⟩ hO
                            simp only [List.cons_append, List.nil_append] at hO
                            refine K2 (K3 (K0 (K1 ?_)))
                            refine l_y rfl rfl (y_assign rfl) ?_
                            refine K2 (K3 (K6 ?_))
                            have e : prevL A up before = (at_ A (up : Int).toNat).Node.Last := by simp only [prevL]; first | rw [if_pos h12_1] | rw [if_neg h12_1]
                            have e2 : linkL A up id before = (0, joinL (joinL (setLinks A id up (prevL A up before) before) up (prevL A up before) id) up id before) := by
                              unfold linkL; rw [if_neg (by simp [*]), if_neg (by simp [*]), if_neg (by simp [*]), if_neg (by simp [*])]
                            exact fin1 rfl rfl ⟨_, ⟨by rw [e2], by rw [e2, e]⟩, hO⟩
      · refine l_y rfl rfl (y_move rfl) ?_
        repeat refine M2 ?_
        refine l_y rfl rfl (y_pick_f rfl rfl) ?_
        refine l_y rfl rfl (y_pick_f rfl rfl) ?_
        refine l_y rfl rfl (y_assign rfl) ?_
        refine K2 (K3 (L9 (K0 ?_)))
        have hup := hasB_true hg19
        have hid := hasB_true hg25
        try have hbe := hasB_true hc14
        have hq1 : _ ∨ _ := hL.last up hg19
        try have hq2 : _ ∨ _ := hL.prev before hc14
        refine K1 ?_
        refine l_y rfl rfl (y_move rfl) ?_
        refine l_y rfl rfl (y_nilCheck rfl rfl) ?_
        refine l_y rfl rfl (y_fldb (o' := 0) rfl) ?_
        refine l_y rfl rfl (D5 hO rfl) ?_
        refine l_y rfl rfl (y_move rfl) ?_
        refine l_y rfl rfl (y_idx rfl rfl) ?_
        refine l_y rfl rfl (y_fld (j' := 0) rfl) ?_
        refine l_y rfl rfl (y_fld (j' := 0) rfl) ?_
        refine l_y rfl rfl (y_e1 (x0 := 0) hO rfl) ?_
        refine CK [] hO rfl (fun k' hx hr hO' => parent_spec (hO := hO')) ?_
        rintro _ _ w ⟨rfl, rfl⟩ hO
        simp only [List.cons_append, List.nil_append] at hO
        refine l_y rfl rfl (y_not rfl rfl) ?_
        refine l_y rfl rfl (y_move rfl) ?_
        refine l_split 47 rfl (fun hg47 => ?_) (fun hg47 => ?_)
        · simp only [Bool.not_eq_true', Bool.not_eq_false'] at hg47
          repeat refine M2 ?_
          refine l_y rfl rfl (y_pick_t rfl rfl) ?_
          refine l_y rfl rfl (y_move rfl) ?_
          repeat refine M2 ?_
          refine l_y rfl rfl (y_pick_t rfl rfl) ?_
          refine l_y rfl rfl (y_assign rfl) ?_
          refine K2 (K3 (L8 (K0 (K1 ?_))))
          refine l_y rfl rfl (y_assign rfl) ?_
          refine K2 (K3 (K6 (L0 (K9 ?_))))
          exact fin1 rfl rfl ⟨_, ⟨by simp [linkL, *], by simp [linkL, *]⟩, hO⟩
        · simp only [Bool.not_eq_true', Bool.not_eq_false'] at hg47
          refine l_y rfl rfl (y_move rfl) ?_
          refine l_y rfl rfl (y_nilCheck rfl rfl) ?_
          refine l_y rfl rfl (y_fldb (o' := 0) rfl) ?_
          refine l_y rfl rfl (D5 hO rfl) ?_
          refine l_y rfl rfl (y_move rfl) ?_
          refine l_y rfl rfl (y_idx rfl rfl) ?_
          refine l_y rfl rfl (y_fld (j' := 0) rfl) ?_
          refine l_y rfl rfl (y_fld (j' := 0) rfl) ?_
          refine l_y rfl rfl (y_e1 (x0 := 0) hO rfl) ?_
          refine Z0 (fun h5_21 => ?_) (fun h5_21 => ?_)
          · refine l_y rfl rfl (y_pick_f rfl rfl) ?_
            refine l_y rfl rfl (y_move rfl) ?_
            repeat refine M2 ?_
            refine l_y rfl rfl (y_pick_t rfl rfl) ?_
            refine l_y rfl rfl (y_assign rfl) ?_
            refine K2 (K3 (L8 (K0 (K1 ?_))))
            refine l_y rfl rfl (y_assign rfl) ?_
            refine K2 (K3 (K6 (L0 (K9 ?_))))
            exact fin1 rfl rfl ⟨_, ⟨by simp [linkL, *], by simp [linkL, *]⟩, hO⟩
          · refine l_y rfl rfl (y_pick_f rfl rfl) ?_
            refine l_y rfl rfl (y_move rfl) ?_
            refine l_y rfl rfl (y_move rfl) ?_
            refine l_y rfl rfl (y_nilCheck rfl rfl) ?_
            refine l_y rfl rfl (y_fldb (o' := 0) rfl) ?_
            refine l_y rfl rfl (D5 hO rfl) ?_
            refine l_y rfl rfl (y_move rfl) ?_
            refine l_y rfl rfl (y_idx rfl rfl) ?_
            refine l_y rfl rfl (y_fld (j' := 0) rfl) ?_
            refine l_y rfl rfl (y_fld (j' := 0) rfl) ?_
            refine l_y rfl rfl (y_e1 (x0 := 0) hO rfl) ?_
            refine Z0 (fun h5_33 => ?_) (fun h5_33 => ?_)
            · refine l_y rfl rfl (y_pick_f rfl rfl) ?_
              refine l_y rfl rfl (y_assign rfl) ?_
              refine K2 (K3 (L8 (K0 (K1 ?_))))
              refine l_y rfl rfl (y_assign rfl) ?_
              refine K2 (K3 (K6 (L0 (K9 ?_))))
              exact fin1 rfl rfl ⟨_, ⟨by simp [linkL, *], by simp [linkL, *]⟩, hO⟩
            · refine l_y rfl rfl (y_pick_f rfl rfl) ?_
              refine l_y rfl rfl (y_assign rfl) ?_
              refine K2 (K3 (L9 (K0 (K1 ?_))))
              refine l_y rfl rfl (y_move rfl) ?_
              refine l_y rfl rfl (y_nilCheck rfl rfl) ?_
              refine l_y rfl rfl (y_fldb (o' := 0) rfl) ?_
              refine l_y rfl rfl (D5 hO rfl) ?_
              refine l_y rfl rfl (y_move rfl) ?_
              refine l_y rfl rfl (y_idx rfl rfl) ?_
              refine l_y rfl rfl (y_fld (j' := 0) rfl) ?_
              refine l_y rfl rfl (y_fld (j' := 6) rfl) ?_
              refine l_y rfl rfl (y_e1 (x0 := 6) hO rfl) ?_
              refine Z1 (fun h7_9 => ?_) (fun h7_9 => ?_)
              · refine l_y rfl rfl (y_move rfl) ?_
                repeat refine M2 ?_
                refine l_y rfl rfl (y_pick_t rfl rfl) ?_
                refine l_y rfl rfl (y_assign rfl) ?_
                refine K2 (K3 (L8 (K0 (K1 ?_))))
                refine l_y rfl rfl (y_assign rfl) ?_
                refine K2 (K3 (K6 (L0 (K9 ?_))))
                exact fin1 rfl rfl ⟨_, ⟨by simp [linkL, *], by simp [linkL, *]⟩, hO⟩
              · refine l_y rfl rfl (y_move rfl) ?_
                refine l_y rfl rfl (y_move rfl) ?_
                refine l_y rfl rfl (y_move rfl) ?_
                refine l_y rfl rfl (y_move rfl) ?_
                refine CK [.b a, .p p] hO rfl (fun k' hx hr hO' => Above_spec hn hg hrk (hO := hO')) ?_
                rintro _ _ w ⟨rfl, rfl⟩ hO
                simp only [List.cons_append, List.nil_append] at hO
                refine l_y rfl rfl (y_pick_f rfl rfl) ?_
                refine l_y rfl rfl (y_assign rfl) ?_
                refine K2 (K3 ?_)
                refine c_split rfl (fun hc71 => ?_) (fun hc71 => ?_)
                · refine K0 (K1 ?_)
                  refine l_y rfl rfl (y_assign rfl) ?_
                  refine K2 (K3 (K6 (L0 (K9 ?_))))
                  exact fin1 rfl rfl ⟨_, ⟨by simp [linkL, *], by simp [linkL, *]⟩, hO⟩
                · refine K0 (K1 ?_)
                  refine l_y rfl rfl (y_move rfl) ?_
                  refine Z1 (fun h9_1 => ?_) (fun h9_1 => ?_)
                  · first
                    | (exfalso; omega)
                    | skip
                      refine l_y rfl rfl (y_move rfl) ?_
                      refine l_y rfl rfl (y_move rfl) ?_
                      refine l_y rfl rfl (y_nilCheck rfl rfl) ?_
                      refine l_y rfl rfl (y_fldb (o' := 0) rfl) ?_
                      refine l_y rfl rfl (D5 hO rfl) ?_
                      refine l_y rfl rfl (y_move rfl) ?_
                      refine l_y rfl rfl (y_idx rfl rfl) ?_
                      refine l_y rfl rfl (y_fld (j' := 0) rfl) ?_
                      refine l_y rfl rfl (y_fld (j' := 6) rfl) ?_
                      refine l_y rfl rfl (y_e1 (x0 := 6) hO rfl) ?_
                      refine l_y rfl rfl (y_move rfl) ?_
                      refine Z1 (fun h9_13 => ?_) (fun h9_13 => ?_)
                      · refine l_y rfl rfl (y_pick_t rfl rfl) ?_
                        refine l_y rfl rfl (y_assign rfl) ?_
                        refine K2 (K3 (L8 (K0 (K1 ?_))))
                        refine l_y rfl rfl (y_assign rfl) ?_
                        refine K2 (K3 (K6 (L0 (K9 ?_))))
                        exact fin1 rfl rfl ⟨_, ⟨by simp [linkL, *], by simp [linkL, *]⟩, hO⟩
                      · refine l_y rfl rfl (y_pick_t rfl rfl) ?_
                        refine l_y rfl rfl (y_assign rfl) ?_
                        refine K2 (K3 (L9 (K5 (K8 (K3 (K0 (K1 ?_)))))))
                        refine l_y rfl rfl (y_move rfl) ?_
                        refine l_y rfl rfl (y_nilCheck rfl rfl) ?_
                        refine l_y rfl rfl (y_fldb (o' := 0) rfl) ?_
                        refine l_y rfl rfl (D5 hO rfl) ?_
                        refine l_y rfl rfl (y_move rfl) ?_
                        refine l_y rfl rfl (y_idx rfl rfl) ?_
                        refine l_y rfl rfl (y_fld (j' := 0) rfl) ?_
                        refine l_y rfl rfl (y_fld (j' := 8) rfl) ?_
                        refine l_y rfl rfl (y_e1 (x0 := 8) hO rfl) ?_
                        refine l_y rfl rfl (y_assign rfl) ?_
                        refine K2 (K3 (K0 (K0 (K1 ?_))))
                        refine l_y rfl rfl (y_move rfl) ?_
                        refine Z1 (fun h12_1 => ?_) (fun h12_1 => ?_)
                        · first
                          | (exfalso; omega)
                          | skip
                            refine K2 (K3 (L8 (K1 ?_)))
                            refine l_y rfl rfl (y_move rfl) ?_
                            refine l_y rfl rfl (y_nilCheck rfl rfl) ?_
                            refine l_y rfl rfl (y_fldb (o' := 0) rfl) ?_
                            refine l_y rfl rfl (D5 hO rfl) ?_
                            refine l_y rfl rfl (y_move rfl) ?_
                            refine l_y rfl rfl (y_idx rfl rfl) ?_
                            refine l_y rfl rfl (y_fld (j' := 0) rfl) ?_
                            refine l_y rfl rfl (y_fld (j' := 9) rfl) ?_
                            refine l_y rfl rfl (y_e1 (x0 := 9) hO rfl) ?_
                            refine l_y rfl rfl (y_assign rfl) ?_
                            refine K2 (K3 (K0 (K1 ?_)))
                            refine l_y rfl rfl (y_move rfl) ?_
                            refine l_y rfl rfl (y_nilCheck rfl rfl) ?_
                            refine l_y rfl rfl (y_fldb (o' := 0) rfl) ?_
                            refine l_y rfl rfl (D5 hO rfl) ?_
                            refine l_y rfl rfl (y_move rfl) ?_
                            refine l_y rfl rfl (y_idx rfl rfl) ?_
                            refine l_y rfl rfl (y_assign rfl) ?_
                            refine K2 (K3 (K0 (K1 ?_)))
                            refine l_y rfl rfl (y_move rfl) ?_
                            refine l_y rfl rfl (y_move rfl) ?_
                            refine l_y rfl rfl (y_move rfl) ?_
                            refine l_y rfl rfl (y_move rfl) ?_
                            refine l_y rfl rfl (y_move rfl) ?_
                            refine l_y rfl rfl (y_move rfl) ?_
                            refine l_y rfl rfl (y_nilCheck rfl rfl) ?_
                            refine l_y rfl rfl (y_fld (j' := 0) rfl) ?_
                            refine l_y rfl rfl (y_fld (j' := 6) rfl) ?_
                            refine s_e1 (x0 := 6) hO rfl rfl (fun w hO => ?_)
                            refine l_y rfl rfl (y_nilCheck rfl rfl) ?_
                            refine l_y rfl rfl (y_fld (j' := 0) rfl) ?_
                            refine l_y rfl rfl (y_fld (j' := 9) rfl) ?_
                            refine s_e1 (x0 := 9) hO rfl rfl (fun w hO => ?_)
                            simp only [at_set_eq (show id.toNat < A.length by omega), List.set_set] at hO
                            refine l_y rfl rfl (y_nilCheck rfl rfl) ?_
                            refine l_y rfl rfl (y_fld (j' := 0) rfl) ?_
                            refine l_y rfl rfl (y_fld (j' := 10) rfl) ?_
                            refine s_e1 (x0 := 10) hO rfl rfl (fun w hO => ?_)
                            simp only [at_set_eq (show id.toNat < A.length by omega), List.set_set] at hO
                            refine K2 (K3 (K0 ?_))
                            have hO : Own k w [arB a p A.length c, arS p c (setLinks A id up (at_ A (before : Int).toNat).Node.Prev before)] := hO
                            refine K1 ?_
                            refine l_y rfl rfl (y_move rfl) ?_
                            refine l_y rfl rfl (y_move rfl) ?_
                            refine l_y rfl rfl (y_move rfl) ?_
                            refine l_y rfl rfl (y_move rfl) ?_
                            refine CK [.b a, .p p] hO rfl (fun k' hx hr hO' => join_spec hg (by simp only [setLinks, List.length_set, joinL_len]) (by omega) (by omega) (by omega) (hO := hO')) ?_
                            rintro _ _ w ⟨rfl, rfl⟩ hO
                            simp only [List.cons_append, List.nil_append] at hO
                            refine K2 (K3 (K0 (K1 ?_)))
                            refine l_y rfl rfl (y_move rfl) ?_
                            refine l_y rfl rfl (y_move rfl) ?_
                            refine l_y rfl rfl (y_move rfl) ?_
                            refine l_y rfl rfl (y_move rfl) ?_
                            refine CK [.b a, .p p] hO rfl (fun k' hx hr hO' => join_spec hg (by simp only [setLinks, List.length_set, joinL_len]) (by omega) (by omega) (by omega) (hO := hO')) ?_
                            rintro _ _ w ⟨rfl, rfl⟩ hO
                            simp only [List.cons_append, List.nil_append] at hO
                            refine K2 (K3 (K0 (K1 ?_)))
                            refine l_y rfl rfl (y_assign rfl) ?_
                            refine K2 (K3 (K6 ?_))
                            have e : prevL A up before = (at_ A (before : Int).toNat).Node.Prev := by simp only [prevL]; first | rw [if_pos h12_1] | rw [if_neg h12_1]
                            have e2 : linkL A up id before = (0, joinL (joinL (setLinks A id up (prevL A up before) before) up (prevL A up before) id) up id before) := by
                              unfold linkL; rw [if_neg (by simp [*]), if_neg (by simp [*]), if_neg (by simp [*]), if_neg (by simp [*])]
                            exact fin1 rfl rfl ⟨_, ⟨by rw [e2], by rw [e2, e]⟩, hO⟩
                        · first
                          | (exfalso; omega)
                          | skip
                            refine K2 (K3 (L9 (K5 (K3 (K0 (K1 ?_))))))
                            refine l_y rfl rfl (y_move rfl) ?_
                            refine l_y rfl rfl (y_nilCheck rfl rfl) ?_
                            refine l_y rfl rfl (y_fldb (o' := 0) rfl) ?_
                            refine l_y rfl rfl (D5 hO rfl) ?_
                            refine l_y rfl rfl (y_move rfl) ?_
                            refine l_y rfl rfl (y_idx rfl rfl) ?_
                            refine l_y rfl rfl (y_assign rfl) ?_
                            refine K2 (K3 (K0 (K1 ?_)))
                            refine l_y rfl rfl (y_move rfl) ?_
                            refine l_y rfl rfl (y_move rfl) ?_
                            refine l_y rfl rfl (y_move rfl) ?_
                            refine l_y rfl rfl (y_move rfl) ?_
                            refine l_y rfl rfl (y_move rfl) ?_
                            refine l_y rfl rfl (y_move rfl) ?_
                            refine l_y rfl rfl (y_nilCheck rfl rfl) ?_
                            refine l_y rfl rfl (y_fld (j' := 0) rfl) ?_
                            refine l_y rfl rfl (y_fld (j' := 6) rfl) ?_
                            refine s_e1 (x0 := 6) hO rfl rfl (fun w hO => ?_)
                            refine l_y rfl rfl (y_nilCheck rfl rfl) ?_
                            refine l_y rfl rfl (y_fld (j' := 0) rfl) ?_
                            refine l_y rfl rfl (y_fld (j' := 9) rfl) ?_
                            refine s_e1 (x0 := 9) hO rfl rfl (fun w hO => ?_)
                            simp only [at_set_eq (show id.toNat < A.length by omega), List.set_set] at hO
                            refine l_y rfl rfl (y_nilCheck rfl rfl) ?_
                            refine l_y rfl rfl (y_fld (j' := 0) rfl) ?_
                            refine l_y rfl rfl (y_fld (j' := 10) rfl) ?_
                            refine s_e1 (x0 := 10) hO rfl rfl (fun w hO => ?_)
                            simp only [at_set_eq (show id.toNat < A.length by omega), List.set_set] at hO
                            refine K2 (K3 (K0 ?_))
                            have hO : Own k w [arB a p A.length c, arS p c (setLinks A id up (at_ A (up : Int).toNat).Node.Last before)] := hO
                            refine K1 ?_
                            refine l_y rfl rfl (y_move rfl) ?_
                            refine l_y rfl rfl (y_move rfl) ?_
                            refine l_y rfl rfl (y_move rfl) ?_
                            refine l_y rfl rfl (y_move rfl) ?_
                            refine CK [.b a, .p p] hO rfl (fun k' hx hr hO' => join_spec hg (by simp only [setLinks, List.length_set, joinL_len]) (by omega) (by omega) (by omega) (hO := hO')) ?_
                            rintro _ _ w ⟨rfl, rfl⟩ hO
                            simp only [List.cons_append, List.nil_append] at hO
                            refine K2 (K3 (K0 (K1 ?_)))
                            refine l_y rfl rfl (y_move rfl) ?_
                            refine l_y rfl rfl (y_move rfl) ?_
                            refine l_y rfl rfl (y_move rfl) ?_
                            refine l_y rfl rfl (y_move rfl) ?_
                            refine CK [.b a, .p p] hO rfl (fun k' hx hr hO' => join_spec hg (by simp only [setLinks, List.length_set, joinL_len]) (by omega) (by omega) (by omega) (hO := hO')) ?_
                            rintro _ _ w ⟨rfl, rfl⟩ hO
                            simp only [List.cons_append, List.nil_append] at hO
                            refine K2 (K3 (K0 (K1 ?_)))
                            refine l_y rfl rfl (y_assign rfl) ?_
                            refine K2 (K3 (K6 ?_))
                            have e : prevL A up before = (at_ A (up : Int).toNat).Node.Last := by simp only [prevL]; first | rw [if_pos h12_1] | rw [if_neg h12_1]
                            have e2 : linkL A up id before = (0, joinL (joinL (setLinks A id up (prevL A up before) before) up (prevL A up before) id) up id before) := by
                              unfold linkL; rw [if_neg (by simp [*]), if_neg (by simp [*]), if_neg (by simp [*]), if_neg (by simp [*])]
                            exact fin1 rfl rfl ⟨_, ⟨by rw [e2], by rw [e2, e]⟩, hO⟩
                  · first
                    | (exfalso; omega)
                    | skip
                      refine l_y rfl rfl (y_move rfl) ?_
                      repeat refine M2 ?_
                      refine l_y rfl rfl (y_pick_f rfl rfl) ?_
                      refine l_y rfl rfl (y_assign rfl) ?_
                      refine K2 (K3 (L9 (K5 (K8 (K3 (K0 (K1 ?_)))))))
                      refine l_y rfl rfl (y_move rfl) ?_
                      refine l_y rfl rfl (y_nilCheck rfl rfl) ?_
                      refine l_y rfl rfl (y_fldb (o' := 0) rfl) ?_
                      refine l_y rfl rfl (D5 hO rfl) ?_
                      refine l_y rfl rfl (y_move rfl) ?_
                      refine l_y rfl rfl (y_idx rfl rfl) ?_
                      refine l_y rfl rfl (y_fld (j' := 0) rfl) ?_
                      refine l_y rfl rfl (y_fld (j' := 8) rfl) ?_
                      refine l_y rfl rfl (y_e1 (x0 := 8) hO rfl) ?_
                      refine l_y rfl rfl (y_assign rfl) ?_
                      refine K2 (K3 (K0 (K0 (K1 ?_))))
                      refine l_y rfl rfl (y_move rfl) ?_
                      refine Z1 (fun h12_1 => ?_) (fun h12_1 => ?_)
                      · first
                        | (exfalso; omega)
                        | skip
                          refine K2 (K3 (L8 (K1 ?_)))
                          refine l_y rfl rfl (y_move rfl) ?_
                          refine l_y rfl rfl (y_nilCheck rfl rfl) ?_
                          refine l_y rfl rfl (y_fldb (o' := 0) rfl) ?_
                          refine l_y rfl rfl (D5 hO rfl) ?_
                          refine l_y rfl rfl (y_move rfl) ?_
                          refine l_y rfl rfl (y_idx rfl rfl) ?_
                          refine l_y rfl rfl (y_fld (j' := 0) rfl) ?_
                          refine l_y rfl rfl (y_fld (j' := 9) rfl) ?_
                          refine l_y rfl rfl (y_e1 (x0 := 9) hO rfl) ?_
                          refine l_y rfl rfl (y_assign rfl) ?_
                          refine K2 (K3 (K0 (K1 ?_)))
                          refine l_y rfl rfl (y_move rfl) ?_
                          refine l_y rfl rfl (y_nilCheck rfl rfl) ?_
                          refine l_y rfl rfl (y_fldb (o' := 0) rfl) ?_
                          refine l_y rfl rfl (D5 hO rfl) ?_
                          refine l_y rfl rfl (y_move rfl) ?_
                          refine l_y rfl rfl (y_idx rfl rfl) ?_
                          refine l_y rfl rfl (y_assign rfl) ?_
                          refine K2 (K3 (K0 (K1 ?_)))
                          refine l_y rfl rfl (y_move rfl) ?_
                          refine l_y rfl rfl (y_move rfl) ?_
                          refine l_y rfl rfl (y_move rfl) ?_
                          refine l_y rfl rfl (y_move rfl) ?_
                          refine l_y rfl rfl (y_move rfl) ?_
                          refine l_y rfl rfl (y_move rfl) ?_
                          refine l_y rfl rfl (y_nilCheck rfl rfl) ?_
                          refine l_y rfl rfl (y_fld (j' := 0) rfl) ?_
                          refine l_y rfl rfl (y_fld (j' := 6) rfl) ?_
                          refine s_e1 (x0 := 6) hO rfl rfl (fun w hO => ?_)
                          refine l_y rfl rfl (y_nilCheck rfl rfl) ?_
                          refine l_y rfl rfl (y_fld (j' := 0) rfl) ?_
                          refine l_y rfl rfl (y_fld (j' := 9) rfl) ?_
                          refine s_e1 (x0 := 9) hO rfl rfl (fun w hO => ?_)
                          simp only [at_set_eq (show id.toNat < A.length by omega), List.set_set] at hO
                          refine l_y rfl rfl (y_nilCheck rfl rfl) ?_
                          refine l_y rfl rfl (y_fld (j' := 0) rfl) ?_
                          refine l_y rfl rfl (y_fld (j' := 10) rfl) ?_
                          refine s_e1 (x0 := 10) hO rfl rfl (fun w hO => ?_)
                          simp only [at_set_eq (show id.toNat < A.length by omega), List.set_set] at hO
                          refine K2 (K3 (K0 ?_))
                          have hO : Own k w [arB a p A.length c, arS p c (setLinks A id up (at_ A (before : Int).toNat).Node.Prev before)] := hO
                          refine K1 ?_
                          refine l_y rfl rfl (y_move rfl) ?_
                          refine l_y rfl rfl (y_move rfl) ?_
                          refine l_y rfl rfl (y_move rfl) ?_
                          refine l_y rfl rfl (y_move rfl) ?_
                          refine CK [.b a, .p p] hO rfl (fun k' hx hr hO' => join_spec hg (by simp only [setLinks, List.length_set, joinL_len]) (by omega) (by omega) (by omega) (hO := hO')) ?_
                          rintro _ _ w ⟨rfl, rfl⟩ hO
                          simp only [List.cons_append, List.nil_append] at hO
                          refine K2 (K3 (K0 (K1 ?_)))
                          refine l_y rfl rfl (y_move rfl) ?_
                          refine l_y rfl rfl (y_move rfl) ?_
                          refine l_y rfl rfl (y_move rfl) ?_
                          refine l_y rfl rfl (y_move rfl) ?_
                          refine CK [.b a, .p p] hO rfl (fun k' hx hr hO' => join_spec hg (by simp only [setLinks, List.length_set, joinL_len]) (by omega) (by omega) (by omega) (hO := hO')) ?_
                          rintro _ _ w ⟨rfl, rfl⟩ hO
                          simp only [List.cons_append, List.nil_append] at hO
                          refine K2 (K3 (K0 (K1 ?_)))
                          refine l_y rfl rfl (y_assign rfl) ?_
                          refine K2 (K3 (K6 ?_))
                          have e : prevL A up before = (at_ A (before : Int).toNat).Node.Prev := by simp only [prevL]; first | rw [if_pos h12_1] | rw [if_neg h12_1]
                          have e2 : linkL A up id before = (0, joinL (joinL (setLinks A id up (prevL A up before) before) up (prevL A up before) id) up id before) := by
                            unfold linkL; rw [if_neg (by simp [*]), if_neg (by simp [*]), if_neg (by simp [*]), if_neg (by simp [*])]
                          exact fin1 rfl rfl ⟨_, ⟨by rw [e2], by rw [e2, e]⟩, hO⟩
                      · first
                        | (exfalso; omega)
                        | skip
                          refine K2 (K3 (L9 (K5 (K3 (K0 (K1 ?_))))))
                          refine l_y rfl rfl (y_move rfl) ?_
                          refine l_y rfl rfl (y_nilCheck rfl rfl) ?_
                          refine l_y rfl rfl (y_fldb (o' := 0) rfl) ?_
                          refine l_y rfl rfl (D5 hO rfl) ?_
                          refine l_y rfl rfl (y_move rfl) ?_
                          refine l_y rfl rfl (y_idx rfl rfl) ?_
                          refine l_y rfl rfl (y_assign rfl) ?_
                          refine K2 (K3 (K0 (K1 ?_)))
                          refine l_y rfl rfl (y_move rfl) ?_
                          refine l_y rfl rfl (y_move rfl) ?_
                          refine l_y rfl rfl (y_move rfl) ?_
                          refine l_y rfl rfl (y_move rfl) ?_
                          refine l_y rfl rfl (y_move rfl) ?_
                          refine l_y rfl rfl (y_move rfl) ?_
                          refine l_y rfl rfl (y_nilCheck rfl rfl) ?_
                          refine l_y rfl rfl (y_fld (j' := 0) rfl) ?_
                          refine l_y rfl rfl (y_fld (j' := 6) rfl) ?_
                          refine s_e1 (x0 := 6) hO rfl rfl (fun w hO => ?_)
                          refine l_y rfl rfl (y_nilCheck rfl rfl) ?_
                          refine l_y rfl rfl (y_fld (j' := 0) rfl) ?_
                          refine l_y rfl rfl (y_fld (j' := 9) rfl) ?_
                          refine s_e1 (x0 := 9) hO rfl rfl (fun w hO => ?_)
                          simp only [at_set_eq (show id.toNat < A.length by omega), List.set_set] at hO
                          refine l_y rfl rfl (y_nilCheck rfl rfl) ?_
                          refine l_y rfl rfl (y_fld (j' := 0) rfl) ?_
                          refine l_y rfl rfl (y_fld (j' := 10) rfl) ?_
                          refine s_e1 (x0 := 10) hO rfl rfl (fun w hO => ?_)
                          simp only [at_set_eq (show id.toNat < A.length by omega), List.set_set] at hO
                          refine K2 (K3 (K0 ?_))
                          have hO : Own k w [arB a p A.length c, arS p c (setLinks A id up (at_ A (up : Int).toNat).Node.Last before)] := hO
                          refine K1 ?_
                          refine l_y rfl rfl (y_move rfl) ?_
                          refine l_y rfl rfl (y_move rfl) ?_
                          refine l_y rfl rfl (y_move rfl) ?_
                          refine l_y rfl rfl (y_move rfl) ?_
                          refine CK [.b a, .p p] hO rfl (fun k' hx hr hO' => join_spec hg (by simp only [setLinks, List.length_set, joinL_len]) (by omega) (by omega) (by omega) (hO := hO')) ?_
                          rintro _ _ w ⟨rfl, rfl⟩ hO
                          simp only [List.cons_append, List.nil_append] at hO
                          refine K2 (K3 (K0 (K1 ?_)))
                          refine l_y rfl rfl (y_move rfl) ?_
                          refine l_y rfl rfl (y_move rfl) ?_
                          refine l_y rfl rfl (y_move rfl) ?_
                          refine l_y rfl rfl (y_move rfl) ?_
                          refine CK [.b a, .p p] hO rfl (fun k' hx hr hO' => join_spec hg (by simp only [setLinks, List.length_set, joinL_len]) (by omega) (by omega) (by omega) (hO := hO')) ?_
                          rintro _ _ w ⟨rfl, rfl⟩ hO
                          simp only [List.cons_append, List.nil_append] at hO
                          refine K2 (K3 (K0 (K1 ?_)))
                          refine l_y rfl rfl (y_assign rfl) ?_
                          refine K2 (K3 (K6 ?_))
                          have e : prevL A up before = (at_ A (up : Int).toNat).Node.Last := by simp only [prevL]; first | rw [if_pos h12_1] | rw [if_neg h12_1]
                          have e2 : linkL A up id before = (0, joinL (joinL (setLinks A id up (prevL A up before) before) up (prevL A up before) id) up id before) := by
                            unfold linkL; rw [if_neg (by simp [*]), if_neg (by simp [*]), if_neg (by simp [*]), if_neg (by simp [*])]
                          exact fin1 rfl rfl ⟨_, ⟨by rw [e2], by rw [e2, e]⟩, hO⟩
def unlinkL (A : List Node_one) (id : Int) : Int × List Node_one :=
  if hasB A id = false then (6, A)
  else if (at_ A id.toNat).Node.Parent = -1 then (5, A)
  else (0, setLinks (joinL A (at_ A id.toNat).Node.Parent (at_ A id.toNat).Node.Prev (at_ A id.toNat).Node.Next) id (-1) (-1) (-1))
set_option maxHeartbeats 2000000 in
theorem Unlink_spec {k : Ctx} {w : World} {a : Nat} {A : List Node_one} {p : Option Addr} {c : Nat} {id : Int} (hn : 0 < A.length) (hg : Gs p A.length) (hL : LinksOk A) (hO : Own k w [arB a p A.length c, arS p c A]) :
    Tri Tryz.prog 130 #[.pointer (some ⟨a, 0, none⟩), .int .i64 id] k w fun v m => v = .int .i64 (unlinkL A id).1 ∧ m = [arB a p A.length c, arS p c (unlinkL A id).2] := by
  refine enter (args := [.pointer (some ⟨a, 0, none⟩), .int .i64 id]) Tryz.func130 rfl rfl ?_
  refine K0 (K1 ?_)
  refine l_y rfl rfl (y_assign rfl) ?_
  refine K2 (K3 (K0 (K4 (K0 (K1 ?_)))))
  refine l_y rfl rfl (y_move rfl) ?_
  refine CK [.b a, .p p] hO rfl (fun k' hx hr hO' => none_spec (hO := hO')) ?_
  rintro _ _ w ⟨rfl, rfl⟩ hO
  simp only [List.cons_append, List.nil_append] at hO
  refine l_y rfl rfl (y_assign rfl) ?_
  refine K2 (K3 (L9 (K0 (K1 ?_))))
  refine l_y rfl rfl (y_move rfl) ?_
  refine l_y rfl rfl (y_move rfl) ?_
  refine CK [.b a, .p p] hO rfl (fun k' hx hr hO' => has_spec (hO := hO')) ?_
  rintro _ _ w ⟨rfl, rfl⟩ hO
  simp only [List.cons_append, List.nil_append] at hO
  refine l_y rfl rfl (y_not rfl rfl) ?_
  refine l_y rfl rfl (y_assign rfl) ?_
  refine K2 (K3 ?_)
  refine c_split rfl (fun hc9 => ?_) (fun hc9 => ?_)
  · simp only [Bool.not_eq_true', Bool.not_eq_false'] at hc9
    refine K0 (K1 ?_)
    refine l_y rfl rfl (y_assign rfl) ?_
    refine K2 (K3 (K6 (L0 (K9 ?_))))
    exact fin1 rfl rfl ⟨_, ⟨by simp [unlinkL, hc9], by simp [unlinkL, hc9]⟩, hO⟩
  · simp only [Bool.not_eq_true', Bool.not_eq_false'] at hc9
    refine K5 (K8 (K3 (K0 ?_)))
    have hid := hasB_true hc9
    have hq1 : _ ∨ _ := hL.parent id hc9
    have hq2 : _ ∨ _ := hL.prev id hc9
    have hq3 : _ ∨ _ := hL.next id hc9
    refine K1 ?_
    refine l_y rfl rfl (y_move rfl) ?_
    refine l_y rfl rfl (y_nilCheck rfl rfl) ?_
    refine l_y rfl rfl (y_fldb (o' := 0) rfl) ?_
    refine l_y rfl rfl (D5 hO rfl) ?_
    refine l_y rfl rfl (y_move rfl) ?_
    refine l_y rfl rfl (y_idx rfl rfl) ?_
    refine l_y rfl rfl (y_assign rfl) ?_
    refine K2 (K3 (K0 (K0 (K1 ?_))))
    refine l_y rfl rfl (y_move rfl) ?_
    refine l_y rfl rfl (y_nilCheck rfl rfl) ?_
    refine l_y rfl rfl (y_fld (j' := 0) rfl) ?_
    refine l_y rfl rfl (y_fld (j' := 6) rfl) ?_
    refine l_y rfl rfl (y_e1 (x0 := 6) hO rfl) ?_
    refine Z0 (fun h6_5 => ?_) (fun h6_5 => ?_)
    · refine K2 (K3 (L8 (K0 (K1 ?_))))
      refine l_y rfl rfl (y_assign rfl) ?_
      refine K2 (K3 (K6 (K9 ?_)))
      exact fin1 rfl rfl ⟨_, ⟨by simp [unlinkL, hc9, h6_5], by simp [unlinkL, hc9, h6_5]⟩, hO⟩
    · refine K2 (K3 (L9 (K5 (K3 (K0 ?_)))))
      refine da_region (by intro c a d v w h; cases d <;> exact h) ?_
      have hO := hO.drew
      refine da_phase _ [16] (SO.ks [.p p] hO) ?_
      refine dx_u 0 (by kernel_rfl) rfl rfl rfl (fun w => y_move rfl) ?_
      refine dx_u 1 (by kernel_rfl) rfl rfl rfl (fun w => y_move rfl) ?_
      refine dx_u 2 (by kernel_rfl) rfl rfl rfl (fun w => y_nilCheck rfl rfl) ?_
      refine dx_u 3 (by kernel_rfl) rfl rfl rfl (fun w => y_fld (j' := 0) rfl) ?_
      refine dx_u 4 (by kernel_rfl) rfl rfl rfl (fun w => y_fld (j' := 6) rfl) ?_
      refine dx_y 5 (by kernel_rfl) rfl rfl rfl (fun w ⟨m, hw⟩ => y_e1 (x0 := 6) hw rfl) ?_
      refine dx_u 6 (by kernel_rfl) rfl rfl rfl (fun w => y_move rfl) ?_
      refine dx_u 7 (by kernel_rfl) rfl rfl rfl (fun w => y_nilCheck rfl rfl) ?_
      refine dx_u 8 (by kernel_rfl) rfl rfl rfl (fun w => y_fld (j' := 0) rfl) ?_
      refine dx_u 9 (by kernel_rfl) rfl rfl rfl (fun w => y_fld (j' := 9) rfl) ?_
      refine dx_y 10 (by kernel_rfl) rfl rfl rfl (fun w ⟨m, hw⟩ => y_e1 (x0 := 9) hw rfl) ?_
      refine dx_u 11 (by kernel_rfl) rfl rfl rfl (fun w => y_move rfl) ?_
      refine dx_u 12 (by kernel_rfl) rfl rfl rfl (fun w => y_nilCheck rfl rfl) ?_
      refine dx_u 13 (by kernel_rfl) rfl rfl rfl (fun w => y_fld (j' := 0) rfl) ?_
      refine dx_u 14 (by kernel_rfl) rfl rfl rfl (fun w => y_fld (j' := 10) rfl) ?_
      refine dx_y 15 (by kernel_rfl) rfl rfl rfl (fun w ⟨m, hw⟩ => y_e1 (x0 := 10) hw rfl) ?_
      refine dx_close 16 (by kernel_rfl) rfl rfl ?_
      refine CK [.b a, .p p] hO rfl (fun k' hx hr hO' => join_spec hg (by simp only [setLinks, List.length_set, joinL_len]) (by omega) (by omega) (by omega) (hO := hO')) ?_
      rintro _ _ w ⟨rfl, rfl⟩ hO
      simp only [List.cons_append, List.nil_append] at hO
      refine o_done ?_
      refine da_end (by kernel_rfl) ?_
      refine K3 (K0 ?_)
      have hgj : Gs p (joinL A (at_ A id.toNat).Node.Parent (at_ A id.toNat).Node.Prev (at_ A id.toNat).Node.Next).length := by rw [joinL_len]; exact hg
      have hlj : id.toNat < (joinL A (at_ A id.toNat).Node.Parent (at_ A id.toNat).Node.Prev (at_ A id.toNat).Node.Next).length := by rw [joinL_len]; omega
      refine K1 ?_
      refine l_y rfl rfl (y_move rfl) ?_
      refine l_y rfl rfl (y_move rfl) ?_
      refine l_y rfl rfl (y_move rfl) ?_
      refine l_y rfl rfl (y_nilCheck rfl rfl) ?_
      refine l_y rfl rfl (y_fld (j' := 0) rfl) ?_
      refine l_y rfl rfl (y_fld (j' := 6) rfl) ?_
      refine s_e1 (x0 := 6) hO rfl rfl (fun w hO => ?_)
      refine l_y rfl rfl (y_nilCheck rfl rfl) ?_
      refine l_y rfl rfl (y_fld (j' := 0) rfl) ?_
      refine l_y rfl rfl (y_fld (j' := 9) rfl) ?_
      refine s_e1 (x0 := 9) hO rfl rfl (fun w hO => ?_)
      simp only [at_set_eq hlj, List.set_set] at hO
      refine l_y rfl rfl (y_nilCheck rfl rfl) ?_
      refine l_y rfl rfl (y_fld (j' := 0) rfl) ?_
      refine l_y rfl rfl (y_fld (j' := 10) rfl) ?_
      refine s_e1 (x0 := 10) hO rfl rfl (fun w hO => ?_)
      simp only [at_set_eq hlj, List.set_set] at hO
      refine K2 (K3 (K0 (K1 ?_)))
      refine l_y rfl rfl (y_assign rfl) ?_
      refine K2 (K3 (K6 ?_))
      have e2 : unlinkL A id = (0, setLinks (joinL A (at_ A id.toNat).Node.Parent (at_ A id.toNat).Node.Prev (at_ A id.toNat).Node.Next) id (-1) (-1) (-1)) := by
        unfold unlinkL; rw [if_neg (by simp [*]), if_neg h6_5]
      exact fin1 rfl rfl ⟨_, ⟨by rw [e2], by rw [e2]; rfl⟩, hO⟩
end Go.Proofs.YtoohapbaelmkcaaGreat
