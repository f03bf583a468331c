/- Whether two attributes are the same, and the walk of the law NodeAttrs. -/
import Derived.Test.YtnolpajggmfpdaaNode7
import Derived.Tactics
import Derived.Tactics2
set_option linter.unusedVariables false
set_option linter.unusedSimpArgs false
set_option maxRecDepth 100000
namespace Go.Proofs.Ytnolpajggmfpdaa
open Go Go.Hb Go.RowKit
instance : DecidableEq Api_attr := fun a b => decidable_of_iff (a.Space = b.Space ∧ a.Prefix = b.Prefix ∧ a.Name = b.Name ∧ a.Value = b.Value) ⟨fun ⟨h1, h2, h3, h4⟩ => Api_attr.ext h1 h2 h3 h4, fun h => by subst h; exact ⟨rfl, rfl, rfl, rfl⟩⟩
instance : EqT Try.prog 24 Api_attr.cells := ⟨by kernel_rfl, fun x y w => by
  have u3 := Try.underlying3
  have u9 := Try.underlying9
  have hS : Try.prog.underlying 24 = some (.struct (Try.prog.fieldsOf 24)) := by kernel_rfl
  have hp : Try.prog.stoodInHeld 24 = false := by kernel_rfl
  rw [show (10000 : Nat) = 9999 + 1 from rfl, run_equalIn_agg w 9999 24 _ _ hS hp]
  simp only [Program.fieldsOf, Try.underlying24, Api_attr.cells]
  go_simp
  simp only [ba_inj]
  have e : (x = y) ↔ x.Space = y.Space ∧ x.Prefix = y.Prefix ∧ x.Name = y.Name ∧ x.Value = y.Value := Api_attr.ext_iff
  by_cases h1 : x.Space = y.Space <;> by_cases h2 : x.Prefix = y.Prefix <;> by_cases h3 : x.Name = y.Name <;> by_cases h4 : x.Value = y.Value <;> simp [e, h1, h2, h3, h4]⟩
def pS : ByteArray := ⟨#[112]⟩
/-- the first of its name, or one past the last -/
structure FirstAt (x : Api_attr) (xs : List Api_attr) (m c : Nat) : Prop where
  ge : m ≤ c
  le : c ≤ xs.length
  no : ∀ j, m ≤ j → j < c → isA x.Space x.Name (at_ xs j) = false
  yes : c < xs.length → isA x.Space x.Name (at_ xs c) = true
/-- attributes with one set -/
structure SetAt (x : Api_attr) (xs ys : List Api_attr) (c : Nat) : Prop where
  len : ys.length = max xs.length (c + 1)
  space : (at_ ys c).Space = x.Space
  name : (at_ ys c).Name = x.Name
  value : (at_ ys c).Value = x.Value
  idx : idx (isA x.Space x.Name) ys = c
  lim : ys.length ≤ 1024
theorem setAttr_at {A : List Node_one} {x : Api_attr} {xs : List Api_attr} {c : Nat} {o : Node_one} (hA : A = [docD, o]) (hk : o.Node.Kind = 1) (hxs : o.Node.Attrs = xs) (hf : FirstAt x xs 0 c) (hl : xs.length ≤ 1024) :
    setAttrV A 1 x = (2, xs) ∨ ∃ ys, setAttrV A 1 x = (0, ys) ∧ SetAt x xs ys c := by
  subst hA hxs
  have e1 : at_ [docD, o] (Int.toNat 1) = o := rfl
  unfold setAttrV
  rw [e1, if_neg (show ¬ hasB [docD, o] 1 = false from fun h => absurd (show true = false from h) (by decide)), if_neg (by simp [hk])]
  by_cases h2 : longX x = true
  · rw [if_pos h2]; exact .inl rfl
  rw [if_neg h2]
  by_cases hc : c < o.Node.Attrs.length
  · have ei : idx (isA x.Space x.Name) o.Node.Attrs = c := idx_at hc (hf.yes hc) fun j hj => hf.no j (Nat.zero_le _) hj
    have hy := hf.yes hc
    simp only [isA, decide_eq_true_eq] at hy
    rw [ei, if_pos (by omega)]
    refine .inr ⟨_, rfl, ?_, ?_, ?_, ?_, ?_, by simpa using hl⟩
    · simp; omega
    · simp [at_set, hc, hy.1]
    · simp [at_set, hc, hy.2]
    · simp [at_set, hc]
    · refine idx_at (by simp; omega) (by simp [at_set, hc, isA, hy.1, hy.2]) fun j hj => ?_
      have hn := hf.no j (Nat.zero_le _) hj
      rw [show ((c : Int)).toNat = c from rfl, at_set_ne (by omega)]
      exact hn
  · have hce : c = o.Node.Attrs.length := by have := hf.le; omega
    have ei : idx (isA x.Space x.Name) o.Node.Attrs = -1 := idx_none fun j hj => hf.no j (Nat.zero_le _) (by omega)
    rw [ei, if_neg (by decide)]
    by_cases h3 : o.Node.Attrs.length = 1024
    · rw [if_pos h3]; exact .inl rfl
    rw [if_neg h3]
    subst hce
    refine .inr ⟨_, rfl, ?_, ?_, ?_, ?_, ?_, by simp; omega⟩
    · simp
    · rw [at_app_new]
    · rw [at_app_new]
    · rw [at_app_new]
    · refine idx_at (by simp) (by rw [at_app_new]; simp [isA]) fun j hj => ?_
      rw [at_app_l hj]
      exact hf.no j (Nat.zero_le _) hj
theorem attrsOk2 {x y : Node_one} (hx : x.Node.Attrs.length ≤ 1024) (hy : y.Node.Attrs.length ≤ 1024) : AttrsOk [x, y] := by
  intro i hi
  match i, hi with
  | 0, _ => exact hx
  | 1, _ => exact hy
theorem SetP_spec {k : Ctx} {w : World} {a c : Nat} {y : Api_attr} {xs : List Api_attr} {o : Node_one} (hk : o.Node.Kind = 1) (hxs : o.Node.Attrs = xs) (hl : xs.length ≤ 1024) (hf : FirstAt y xs 0 c) (hO : Own k w [arenaL a [docD, o]]) :
    Tri Try.prog 14 #[.pointer (some ⟨a, 0, none⟩), .int .i64 1, .agg (Api_attr.cells y).toArray] k w fun v m =>
      (v = .int .i64 2 ∧ ∃ ys q d, (ys.length ≤ 1024 ∧ ys = xs) ∧ m = [arenaL a [docD, setAttrs o q ys d]]) ∨ (v = .int .i64 0 ∧ ∃ ys q d, (ys.length ≤ 1024 ∧ SetAt y xs ys c) ∧ m = [arenaL a [docD, setAttrs o q ys d]]) := by
  refine (SetAttrC_spec (by simp) (attrsOk2 (Nat.zero_le _) (by rw [hxs]; exact hl)) hO).mono ?_
  rintro v m ⟨rfl, A', hA, rfl⟩
  rcases hA with ⟨h, _⟩ | ⟨_, q, d, rfl⟩
  · exact absurd (show true = false from h) (by decide)
  · rcases setAttr_at (A := [docD, o]) rfl hk hxs hf hl with e | ⟨ys, e, hs⟩
    · rw [e]; exact .inl ⟨rfl, xs, q, d, ⟨hl, rfl⟩, rfl⟩
    · rw [e]; exact .inr ⟨rfl, ys, q, d, ⟨hs.lim, hs⟩, rfl⟩
theorem DelP_spec {k : Ctx} {w : World} {a c : Nat} {y : Api_attr} {xs ys : List Api_attr} {o : Node_one} (hk : o.Node.Kind = 1) (hxs : o.Node.Attrs = ys) (hs : SetAt y xs ys c) (hO : Own k w [arenaL a [docD, o]]) :
    Tri Try.prog 16 #[.pointer (some ⟨a, 0, none⟩), .int .i64 1, .int .i64 y.Space, .string y.Name] k w fun v m =>
      v = .int .i64 0 ∧ ∃ q d, m = [arenaL a [docD, setAttrs o q (ys.eraseIdx c) d]] := by
  refine (DelAttrC_spec (by simp) (attrsOk2 (Nat.zero_le _) (by rw [hxs]; exact hs.lim)) hO).mono ?_
  rintro v m ⟨rfl, A', hA, rfl⟩
  rcases hA with ⟨h, _⟩ | ⟨_, q, d, rfl⟩
  · exact absurd (show true = false from h) (by decide)
  · subst hxs
    have e1 : at_ [docD, o] (Int.toNat 1) = o := rfl
    have e : delAttrV [docD, o] 1 y.Space y.Name = (0, o.Node.Attrs.eraseIdx c) := by
      unfold delAttrV
      rw [e1, if_neg (show ¬ hasB [docD, o] 1 = false from fun h => absurd (show true = false from h) (by decide)), if_neg (by simp [hk]), hs.idx, if_neg (by omega)]
      rfl
    rw [e]; exact ⟨rfl, q, d, rfl⟩
theorem erase_at {ys : List Api_attr} {c i j : Nat} (h : (i < c ∧ j = i) ∨ (c ≤ i ∧ j = i + 1)) : at_ (ys.eraseIdx c) i = at_ ys j := by
  simp only [at_, List.getD_eq_getElem?_getD, List.getElem?_eraseIdx]
  rcases h with ⟨h, rfl⟩ | ⟨h, rfl⟩
  · rw [if_pos h]
  · rw [if_neg (by omega)]
theorem first_yes {y : Api_attr} {xs : List Api_attr} {i : Int} (h0 : 0 ≤ i) (h1 : i < xs.length) (h : isA y.Space y.Name (at_ xs i.toNat) = true) : FirstAt y xs (i - 1 + 1).toNat i.toNat := by
  rw [show i - 1 + 1 = i by omega]
  exact ⟨Nat.le_refl _, by omega, fun j hj hj2 => by omega, fun _ => h⟩
theorem first_no {y : Api_attr} {xs : List Api_attr} {i : Int} {c : Nat} (h0 : 0 ≤ i) (hf : FirstAt y xs (i + 1).toNat c) (h : isA y.Space y.Name (at_ xs i.toNat) = false) : FirstAt y xs (i - 1 + 1).toNat c := by
  rw [show i - 1 + 1 = i by omega]
  have := hf.ge
  refine ⟨by omega, hf.le, fun j hj hj2 => ?_, hf.yes⟩
  by_cases hji : j = i.toNat
  · rw [hji]; exact h
  · exact hf.no j (by omega) hj2
set_option maxHeartbeats 4000000 in
theorem NodeAttrs_spec {k : Ctx} {w : World} {y : Api_attr} {xs : List Api_attr} {ap : Option Addr} {ac : Nat} (hs : Sli (Ro k) (.slice ap xs.length ac) (xs.map Api_attr.cells)) (hO : Own k w []) :
    Tri Try.prog 3 #[.slice ap xs.length ac, .agg (Api_attr.cells y).toArray] k w fun v m => v = .bool true := by
  refine enter (args := [.slice ap xs.length ac, .agg (Api_attr.cells y).toArray]) Try.func3 rfl rfl ?_
  have hgs := sli_gs hs
  refine K0 (K1 ?_)
  refine s_box (vs := [.int .i64 y.Space, .string y.Prefix, .string y.Name, .string y.Value]) hO rfl rfl rfl (by rfl) fun b3 w hO => ?_
  refine l_y rfl rfl (y_assign rfl) ?_
  refine K2 (K3 (K0 (K1 ?_)))
  refine CK [] hO rfl (fun k' hx hr hO' => New_spec (hO := hO')) ?_
  rintro _ _ w ⟨a17, rfl, rfl⟩ hO
  simp only [List.cons_append, List.nil_append] at hO
  refine l_y rfl rfl (y_assign rfl) ?_
  refine K2 (K3 (K0 (K0 (K1 ?_))))
  refine l_y rfl rfl (y_move rfl) ?_
  refine l_y rfl rfl (y_eqPnil rfl rfl rfl) ?_
  refine K2 (K3 (L9 (K5 (K3 (K0 (K1 ?_))))))
  refine l_y rfl rfl (y_move rfl) ?_
  refine l_y rfl rfl (y_move rfl) ?_
  refine CK [.o a17] hO rfl (fun k' hx hr hO' => El1_spec (hs.ext hO hx) (hO := hO')) ?_
  rintro _ _ w (⟨e, he, rfl, rfl⟩ | ⟨o, rest, hel, rfl, rfl⟩) hO
  · simp only [List.cons_append, List.nil_append] at hO
    refine l_y rfl rfl (y_move rfl) ?_
    refine l_y rfl rfl (y_extract rfl rfl) ?_
    refine l_y rfl rfl (y_extract rfl rfl) ?_
    refine l_y rfl rfl (y_assign rfl) ?_
    refine l_y rfl rfl (y_assign rfl) ?_
    refine K2 (K3 (K0 (K0 (K1 ?_))))
    refine l_y rfl rfl (y_move rfl) ?_
    refine Z1 (fun h5_1 => ?_) (fun h5_1 => ?_)
    · first
      | (exfalso; omega)
      | skip
        refine K2 (K3 (L8 (K0 (K1 ?_))))
        refine l_y rfl rfl (y_move rfl) ?_
        refine N2 ?_
        refine l_y rfl rfl (y_move rfl) ?_
        refine CK [] hO rfl (fun k' hx hr hO' => awake_spec (hO := hO')) ?_
        rintro _ _ w ⟨rfl, rfl⟩ hO
        simp only [List.cons_append, List.nil_append] at hO
        refine l_y rfl rfl (y_pick_t rfl rfl) ?_
        refine l_y rfl rfl (y_assign rfl) ?_
        refine K2 (K3 (K6 (K9 ?_)))
        exact fin1 rfl rfl ⟨_, rfl, hO⟩
    · first
      | (exfalso; omega)
      | skip
        refine K2 (K3 (L9 (K5 (K3 (K0 ?_)))))
        have hxl := hel.len
        obtain ⟨_, ⟨q0, d0, rfl⟩, rfl⟩ := hel.which.resolve_left (fun h => absurd h.1.2 (by decide))
        refine K1 ?_
        refine l_y rfl rfl (y_move rfl) ?_
        refine l_y rfl rfl (y_lenL rfl) ?_
        refine l_y rfl rfl (y_assign rfl) ?_
        refine K2 (K3 (K0 (K0 (K1 ?_))))
        refine l_y rfl rfl (y_move rfl) ?_
        refine l_y rfl rfl (y_lenL rfl) ?_
        refine l_y rfl rfl (D4) ?_
        refine l_y rfl rfl (y_assign rfl) ?_
        refine K2 (K3 (K4 ?_))
        refine c_rounds (X := Int × Int) (fun q => [(0, .slice ap xs.length ac), (3, .pointer (some ⟨b3, 0, none⟩)), (4, .bool false), (5, .pointer (some ⟨a17, 0, none⟩)), (6, .int .i64 0), (8, .int .i64 q.2), (9, .int .i64 q.1)]) (fun q w => Own k w [arenaL a17 [docD, elD q0 d0 0 pS xs], blk b3 24 (Api_attr.cells y)] ∧ (-1 ≤ q.1 ∧ q.1 < xs.length ∧ 0 ≤ q.2) ∧ (FirstAt y xs (q.1 + 1).toNat q.2.toNat)) (fun q => (q.1 + 1).toNat) (((xs.length : Int) - 1, (xs.length : Int))) ⟨rfl, rfl, rfl, rfl, rfl, rfl, rfl, trivial⟩ ⟨hO.only [.o a17, .b b3], ⟨by dsimp only; omega, by dsimp only; omega, by dsimp only; omega⟩, ⟨by dsimp only; omega, by dsimp only; omega, fun j h1 h2 => by dsimp only at h1 h2; omega, fun h => by dsimp only at h; omega⟩⟩ ?_
        rintro q w m hm ⟨hO, hr, hf⟩
        obtain ⟨hr1, hr2, hr3⟩ := hr
        refine K0 (K0 (K1 ?_))
        refine l_y rfl rfl (y_move rfl) ?_
        refine Z0 (fun h9_1 => ?_) (fun h9_1 => ?_)
        · refine K2 (K3 (L8 (K5 (K3 (K0 (K4 (K0 ?_)))))))
          refine da_region (by intro c a d v w h; cases d <;> exact h) ?_
          have hO := hO.drew
          refine da_phase _ [] (SO.ks [.b b3] hO) ?_
          refine dx_u 0 (by kernel_rfl) rfl rfl rfl (fun w => y_move rfl) ?_
          refine dx_u 1 (by kernel_rfl) rfl rfl rfl (fun w => y_move rfl) ?_
          refine dx_u 2 (by kernel_rfl) rfl rfl rfl (fun w => y_idx rfl rfl) ?_
          refine dx_u 3 (by kernel_rfl) rfl rfl rfl (fun w => y_fld (j' := 0) rfl) ?_
          refine dx_y 4 (by kernel_rfl) rfl rfl rfl (fun w ⟨m, hw⟩ => y_r1 (x0 := 0) (enc := Api_attr.cells) (xs := xs) hw rfl) ?_
          refine dx_u 5 (by kernel_rfl) rfl rfl rfl (fun w => y_fldb (o' := 0) rfl) ?_
          refine dx_y 6 (by kernel_rfl) rfl rfl rfl (fun w ⟨m, hw⟩ => D5 hw rfl) ?_
          refine dx_u 7 (by kernel_rfl) rfl rfl rfl (fun w => y_cmpI rfl rfl rfl) ?_
          refine dx_u 8 (by kernel_rfl) rfl rfl rfl (fun w => y_move rfl) ?_
          refine dx_split 50 rfl (fun hg50 => ?_) (fun hg50 => ?_)
          · have h11_7 := of_decide_eq_true hg50
            refine dx_u 9 (by kernel_rfl) rfl rfl rfl (fun w => y_move rfl) ?_
            refine dx_u 10 (by kernel_rfl) rfl rfl rfl (fun w => y_move rfl) ?_
            refine dx_u 11 (by kernel_rfl) rfl rfl rfl (fun w => y_idx rfl rfl) ?_
            refine dx_u 12 (by kernel_rfl) rfl rfl rfl (fun w => y_fld (j' := 2) rfl) ?_
            refine dx_y 13 (by kernel_rfl) rfl rfl rfl (fun w ⟨m, hw⟩ => y_r1 (x0 := 2) (enc := Api_attr.cells) (xs := xs) hw rfl) ?_
            refine dx_u 14 (by kernel_rfl) rfl rfl rfl (fun w => y_fldb (o' := 2) rfl) ?_
            refine dx_y 15 (by kernel_rfl) rfl rfl rfl (fun w ⟨m, hw⟩ => D5 hw rfl) ?_
            refine dx_u 16 (by kernel_rfl) rfl rfl rfl (fun w => y_eqS rfl rfl rfl) ?_
            refine dx_u 17 (by kernel_rfl) rfl rfl rfl (fun w => y_pick_t rfl rfl) ?_
            refine dx_end (by kernel_rfl) ?_
            refine K3 ?_
            refine c_split rfl (fun hc59 => ?_) (fun hc59 => ?_)
            · refine K1 ?_
              refine l_y rfl rfl (y_move rfl) ?_
              refine l_y rfl rfl (y_assign rfl) ?_
              refine K2 (K8 (K3 (K1 ?_)))
              refine l_y rfl rfl (y_move rfl) ?_
              refine l_y rfl rfl (D4) ?_
              refine l_y rfl rfl (y_assign rfl) ?_
              refine K2 ?_
              exact q_next (((q.1 - 1), q.1)) ⟨rfl, rfl, rfl, rfl, rfl, rfl, rfl, trivial⟩ ⟨hO.only [.o a17, .b b3], ⟨by dsimp only; omega, by dsimp only; omega, by dsimp only; omega⟩, by first | exact first_yes (by omega) hr2 (by simp_all [isA]) | exact first_no (by omega) hf (by simp_all [isA])⟩ (by dsimp only; omega)
            · refine K5 (K8 (K3 (K1 ?_)))
              refine l_y rfl rfl (y_move rfl) ?_
              refine l_y rfl rfl (D4) ?_
              refine l_y rfl rfl (y_assign rfl) ?_
              refine K2 ?_
              exact q_next (((q.1 - 1), q.2)) ⟨rfl, rfl, rfl, rfl, rfl, rfl, rfl, trivial⟩ ⟨hO.only [.o a17, .b b3], ⟨by dsimp only; omega, by dsimp only; omega, by dsimp only; omega⟩, by first | exact first_yes (by omega) hr2 (by simp_all [isA]) | exact first_no (by omega) hf (by simp_all [isA])⟩ (by dsimp only; omega)
          · have h11_7 := of_decide_eq_false hg50
            refine dx_pass 9 (by kernel_rfl) rfl rfl rfl ?_
            refine dx_pass 10 (by kernel_rfl) rfl rfl rfl ?_
            refine dx_pass 11 (by kernel_rfl) rfl rfl rfl ?_
            refine dx_pass 12 (by kernel_rfl) rfl rfl rfl ?_
            refine dx_pass 13 (by kernel_rfl) rfl rfl rfl ?_
            refine dx_pass 14 (by kernel_rfl) rfl rfl rfl ?_
            refine dx_pass 15 (by kernel_rfl) rfl rfl rfl ?_
            refine dx_pass 16 (by kernel_rfl) rfl rfl rfl ?_
            refine dx_u 17 (by kernel_rfl) rfl rfl rfl (fun w => y_pick_f rfl rfl) ?_
            refine dx_end (by kernel_rfl) ?_
            refine K3 (L9 (K5 (K8 (K3 (K1 ?_)))))
            refine l_y rfl rfl (y_move rfl) ?_
            refine l_y rfl rfl (D4) ?_
            refine l_y rfl rfl (y_assign rfl) ?_
            refine K2 ?_
            exact q_next (((q.1 - 1), q.2)) ⟨rfl, rfl, rfl, rfl, rfl, rfl, rfl, trivial⟩ ⟨hO.only [.o a17, .b b3], ⟨by dsimp only; omega, by dsimp only; omega, by dsimp only; omega⟩, by first | exact first_yes (by omega) hr2 (by simp_all [isA]) | exact first_no (by omega) hf (by simp_all [isA])⟩ (by dsimp only; omega)
        · refine K2 (K3 (L9 (K7 (L1 (L1 (L2 (K3 (K0 ?_))))))))
          have hf0 : FirstAt y xs 0 q.2.toNat := by rw [show (q.1 + 1).toNat = 0 by omega] at hf; exact hf
          refine K1 ?_
          refine l_y rfl rfl (y_move rfl) ?_
          refine l_y rfl rfl (y_move rfl) ?_
          refine l_y rfl rfl (D8 (cs := [.int .i64 y.Space, .string y.Prefix, .string y.Name, .string y.Value]) hO rfl) ?_
          refine CK [.o a17] hO rfl (fun k' hx hr hO' => SetP_spec (y := y) hel.kind hel.attrs hel.len hf0 (hO := hO')) ?_
          rintro _ _ w (⟨rfl, ys, q1, d1, ⟨hyl, hsa⟩, rfl⟩ | ⟨rfl, ys, q1, d1, ⟨hyl, hsa⟩, rfl⟩) hO
          · simp only [List.cons_append, List.nil_append] at hO
            refine l_y rfl rfl (y_assign rfl) ?_
            refine K2 (K3 (K0 (K1 ?_)))
            refine l_y rfl rfl (y_move rfl) ?_
            refine l_y rfl rfl (y_move rfl) ?_
            refine CK [.o a17] hO rfl (fun k' hx hr hO' => NodeOk_spec (o := setAttrs (elD q0 d0 0 pS xs) q1 ys d1) rfl (by decide) (attrsOk2 (Nat.zero_le _) hyl) (hO := hO')) ?_
            rintro _ _ w ⟨q3, d3, rfl, rfl⟩ hO
            simp only [List.cons_append, List.nil_append] at hO
            refine l_y rfl rfl (y_move rfl) ?_
            refine l_y rfl rfl (y_extract rfl rfl) ?_
            refine l_y rfl rfl (y_extract rfl rfl) ?_
            refine s_alloc (vs := [.int .i64 0, .int .i64 0, .string ⟨#[]⟩, .slice none 0 0, .string ⟨#[]⟩, .string ⟨#[]⟩, .int .i64 0, .int .i64 0, .int .i64 0, .int .i64 0, .int .i64 0, .int .i64 0]) hO rfl rfl rfl fun b11 w hO => ?_
            refine Y3 hO rfl rfl (fun w hO => ?_)
            have hO : Own k w (blk b11 33 [.int .i64 1, .int .i64 0, .string pS, .slice q3 ys.length d3, .string ⟨#[]⟩, .string ⟨#[]⟩, .int .i64 (-1), .int .i64 (-1), .int .i64 (-1), .int .i64 (-1), .int .i64 (-1), .int .i64 (-1)] :: sls q3 d3 24 4 Api_attr.cells ys :: _) := hO.ks [.b b11, .p q3]
            have hg3 := (sls_fct (p := q3) hO).2
            refine l_y rfl rfl (y_assign rfl) ?_
            refine K2 (K3 (K0 (K0 (K1 ?_))))
            refine l_y rfl rfl (y_move rfl) ?_
            refine N5 ?_
            refine K2 (K3 (L8 (K0 (K1 ?_))))
            refine l_y rfl rfl (y_move rfl) ?_
            refine N2 ?_
            refine l_y rfl rfl (y_move rfl) ?_
            refine l_y rfl rfl (y_fldb (o' := 3) rfl) ?_
            refine l_y rfl rfl (D5 hO rfl) ?_
            refine l_y rfl rfl (y_lenL rfl) ?_
            refine l_y rfl rfl (y_move rfl) ?_
            refine l_y rfl rfl (y_lenL rfl) ?_
            refine N2 (hp := (by rw [hsa])) ?_
            refine l_y rfl rfl (y_pick_t rfl rfl) ?_
            refine l_y rfl rfl (y_assign rfl) ?_
            refine K2 (K3 (K6 (K9 ?_)))
            exact fin1 rfl rfl ⟨_, rfl, hO⟩
          · simp only [List.cons_append, List.nil_append] at hO
            refine l_y rfl rfl (y_assign rfl) ?_
            refine K2 (K3 (K0 (K1 ?_)))
            refine l_y rfl rfl (y_move rfl) ?_
            refine l_y rfl rfl (y_move rfl) ?_
            refine CK [.o a17] hO rfl (fun k' hx hr hO' => NodeOk_spec (o := setAttrs (elD q0 d0 0 pS xs) q1 ys d1) rfl (by decide) (attrsOk2 (Nat.zero_le _) hyl) (hO := hO')) ?_
            rintro _ _ w ⟨q3, d3, rfl, rfl⟩ hO
            simp only [List.cons_append, List.nil_append] at hO
            refine l_y rfl rfl (y_move rfl) ?_
            refine l_y rfl rfl (y_extract rfl rfl) ?_
            refine l_y rfl rfl (y_extract rfl rfl) ?_
            refine s_alloc (vs := [.int .i64 0, .int .i64 0, .string ⟨#[]⟩, .slice none 0 0, .string ⟨#[]⟩, .string ⟨#[]⟩, .int .i64 0, .int .i64 0, .int .i64 0, .int .i64 0, .int .i64 0, .int .i64 0]) hO rfl rfl rfl fun b11 w hO => ?_
            refine Y3 hO rfl rfl (fun w hO => ?_)
            have hO : Own k w (blk b11 33 [.int .i64 1, .int .i64 0, .string pS, .slice q3 ys.length d3, .string ⟨#[]⟩, .string ⟨#[]⟩, .int .i64 (-1), .int .i64 (-1), .int .i64 (-1), .int .i64 (-1), .int .i64 (-1), .int .i64 (-1)] :: sls q3 d3 24 4 Api_attr.cells ys :: _) := hO.ks [.b b11, .p q3]
            have hg3 := (sls_fct (p := q3) hO).2
            refine l_y rfl rfl (y_assign rfl) ?_
            refine K2 (K3 (K0 (K0 (K1 ?_))))
            refine l_y rfl rfl (y_move rfl) ?_
            refine N4 ?_
            refine K2 (K3 (L9 (K5 (K3 (K0 (K0 ?_))))))
            have hln := hsa.len
            refine da_region (by intro c a d v w h; cases d <;> exact h) ?_
            have hO := hO.drew
            refine da_phase _ [] (SO.ks [.b b11, .p q3, .b b3] hO) ?_
            refine dx_u 0 (by kernel_rfl) rfl rfl rfl (fun w => y_fldb (o' := 3) rfl) ?_
            refine dx_y 1 (by kernel_rfl) rfl rfl rfl (fun w ⟨m, hw⟩ => D5 hw rfl) ?_
            refine dx_u 2 (by kernel_rfl) rfl rfl rfl (fun w => y_lenL rfl) ?_
            refine dx_u 3 (by kernel_rfl) rfl rfl rfl (fun w => y_move rfl) ?_
            refine dx_u 4 (by kernel_rfl) rfl rfl rfl (fun w => y_lenL rfl) ?_
            refine dx_u 5 (by kernel_rfl) rfl rfl rfl (fun w => y_move rfl) ?_
            refine dx_u 6 (by kernel_rfl) rfl rfl rfl (fun w => D4) ?_
            refine dx_u 7 (by kernel_rfl) rfl rfl rfl (fun w => y_max rfl rfl) ?_
            refine dx_y 8 (by kernel_rfl) rfl rfl rfl (fun w ⟨m, hw⟩ => D2 (hp := (by omega))) ?_
            refine dx_u 9 (by kernel_rfl) rfl rfl rfl (fun w => y_move rfl) ?_
            refine dx_u 10 (by kernel_rfl) rfl rfl rfl (fun w => y_fldb (o' := 3) rfl) ?_
            refine dx_y 11 (by kernel_rfl) rfl rfl rfl (fun w ⟨m, hw⟩ => D5 hw rfl) ?_
            refine dx_u 12 (by kernel_rfl) rfl rfl rfl (fun w => y_move rfl) ?_
            refine dx_u 13 (by kernel_rfl) rfl rfl rfl (fun w => y_idx rfl rfl) ?_
            refine dx_u 14 (by kernel_rfl) rfl rfl rfl (fun w => y_fld (j' := 3) rfl) ?_
            refine dx_y 15 (by kernel_rfl) rfl rfl rfl (fun w ⟨m, hw⟩ => y_e1 (x0 := 3) hw rfl) ?_
            refine dx_u 16 (by kernel_rfl) rfl rfl rfl (fun w => y_fldb (o' := 3) rfl) ?_
            refine dx_y 17 (by kernel_rfl) rfl rfl rfl (fun w ⟨m, hw⟩ => D5 hw rfl) ?_
            refine dx_y 18 (by kernel_rfl) rfl rfl rfl (fun w ⟨m, hw⟩ => y_neS (c := false) rfl rfl (by simp [hsa.value])) ?_
            refine dx_u 19 (by kernel_rfl) rfl rfl rfl (fun w => y_pick_f rfl rfl) ?_
            refine dx_u 20 (by kernel_rfl) rfl rfl rfl (fun w => y_move rfl) ?_
            refine dx_u 21 (by kernel_rfl) rfl rfl rfl (fun w => y_fldb (o' := 3) rfl) ?_
            refine dx_y 22 (by kernel_rfl) rfl rfl rfl (fun w ⟨m, hw⟩ => D5 hw rfl) ?_
            refine dx_u 23 (by kernel_rfl) rfl rfl rfl (fun w => y_move rfl) ?_
            refine dx_u 24 (by kernel_rfl) rfl rfl rfl (fun w => y_idx rfl rfl) ?_
            refine dx_u 25 (by kernel_rfl) rfl rfl rfl (fun w => y_fld (j' := 2) rfl) ?_
            refine dx_y 26 (by kernel_rfl) rfl rfl rfl (fun w ⟨m, hw⟩ => y_e1 (x0 := 2) hw rfl) ?_
            refine dx_u 27 (by kernel_rfl) rfl rfl rfl (fun w => y_fldb (o' := 2) rfl) ?_
            refine dx_y 28 (by kernel_rfl) rfl rfl rfl (fun w ⟨m, hw⟩ => D5 hw rfl) ?_
            refine dx_y 29 (by kernel_rfl) rfl rfl rfl (fun w ⟨m, hw⟩ => y_neS (c := false) rfl rfl (by simp [hsa.name])) ?_
            refine dx_u 30 (by kernel_rfl) rfl rfl rfl (fun w => y_pick_f rfl rfl) ?_
            refine dx_u 31 (by kernel_rfl) rfl rfl rfl (fun w => y_move rfl) ?_
            refine dx_u 32 (by kernel_rfl) rfl rfl rfl (fun w => y_fldb (o' := 3) rfl) ?_
            refine dx_y 33 (by kernel_rfl) rfl rfl rfl (fun w ⟨m, hw⟩ => D5 hw rfl) ?_
            refine dx_u 34 (by kernel_rfl) rfl rfl rfl (fun w => y_move rfl) ?_
            refine dx_u 35 (by kernel_rfl) rfl rfl rfl (fun w => y_idx rfl rfl) ?_
            refine dx_u 36 (by kernel_rfl) rfl rfl rfl (fun w => y_fld (j' := 0) rfl) ?_
            refine dx_y 37 (by kernel_rfl) rfl rfl rfl (fun w ⟨m, hw⟩ => y_e1 (x0 := 0) hw rfl) ?_
            refine dx_u 38 (by kernel_rfl) rfl rfl rfl (fun w => y_fldb (o' := 0) rfl) ?_
            refine dx_y 39 (by kernel_rfl) rfl rfl rfl (fun w ⟨m, hw⟩ => D5 hw rfl) ?_
            refine dx_y 40 (by kernel_rfl) rfl rfl rfl (fun w ⟨m, hw⟩ => D2 (hp := hsa.space)) ?_
            refine dx_u 41 (by kernel_rfl) rfl rfl rfl (fun w => y_pick_f rfl rfl) ?_
            refine dx_end (by kernel_rfl) ?_
            refine K3 (L9 (K5 (K3 (K0 (K0 (K1 ?_))))))
            refine l_y rfl rfl (y_move rfl) ?_
            refine l_y rfl rfl (y_move rfl) ?_
            refine l_y rfl rfl (y_fldb (o' := 0) rfl) ?_
            refine l_y rfl rfl (D5 hO rfl) ?_
            refine l_y rfl rfl (y_fldb (o' := 2) rfl) ?_
            refine l_y rfl rfl (D5 hO rfl) ?_
            refine CK [.o a17] hO rfl (fun k' hx hr hO' => DelP_spec (y := y) rfl rfl hsa (hO := hO')) ?_
            rintro _ _ w ⟨rfl, q4, d4, rfl⟩ hO
            simp only [List.cons_append, List.nil_append] at hO
            refine N4 ?_
            refine K2 (K3 (L9 (K5 (K3 (K0 (K1 ?_))))))
            refine l_y rfl rfl (y_move rfl) ?_
            refine l_y rfl rfl (y_move rfl) ?_
            refine CK [.o a17] hO rfl (fun k' hx hr hO' => NodeOk_spec (o := setAttrs (setAttrs (elD q0 d0 0 pS xs) q1 ys d1) q4 (ys.eraseIdx q.2.toNat) d4) rfl (by decide) (attrsOk2 (Nat.zero_le _) (Nat.le_trans (List.length_eraseIdx_le ..) hyl)) (hO := hO')) ?_
            rintro _ _ w ⟨q5, d5, rfl, rfl⟩ hO
            simp only [List.cons_append, List.nil_append] at hO
            refine l_y rfl rfl (y_move rfl) ?_
            refine l_y rfl rfl (y_extract rfl rfl) ?_
            refine l_y rfl rfl (y_extract rfl rfl) ?_
            refine s_alloc (vs := [.int .i64 0, .int .i64 0, .string ⟨#[]⟩, .slice none 0 0, .string ⟨#[]⟩, .string ⟨#[]⟩, .int .i64 0, .int .i64 0, .int .i64 0, .int .i64 0, .int .i64 0, .int .i64 0]) hO rfl rfl rfl fun b13 w hO => ?_
            refine Y3 hO rfl rfl (fun w hO => ?_)
            have hO : Own k w (blk b13 33 [.int .i64 1, .int .i64 0, .string pS, .slice q5 (ys.eraseIdx q.2.toNat).length d5, .string ⟨#[]⟩, .string ⟨#[]⟩, .int .i64 (-1), .int .i64 (-1), .int .i64 (-1), .int .i64 (-1), .int .i64 (-1), .int .i64 (-1)] :: sls q5 d5 24 4 Api_attr.cells (ys.eraseIdx q.2.toNat) :: _) := hO.ks [.b b13, .p q5]
            have hg5 := (sls_fct (p := q5) hO).2
            refine l_y rfl rfl (y_assign rfl) ?_
            refine K2 (K3 (K0 (K0 ?_)))
            have hel2 : (ys.eraseIdx q.2.toNat).length = ys.length - 1 := List.length_eraseIdx_of_lt (by omega)
            refine K1 ?_
            refine l_y rfl rfl (y_fldb (o' := 3) rfl) ?_
            refine l_y rfl rfl (D5 hO rfl) ?_
            refine l_y rfl rfl (y_lenL rfl) ?_
            refine l_y rfl rfl (y_fldb (o' := 3) rfl) ?_
            refine l_y rfl rfl (D5 hO rfl) ?_
            refine l_y rfl rfl (y_lenL rfl) ?_
            refine l_y rfl rfl (D4) ?_
            refine N4 (hp := (by omega)) ?_
            refine K2 (K3 (L9 (K5 (K3 (K0 (K0 (K1 ?_)))))))
            refine l_y rfl rfl (y_assign rfl) ?_
            refine K2 (K3 (K4 ?_))
            refine c_rounds (X := Nat) (fun i => [(4, .bool false), (8, .int .i64 q.2), (11, .pointer (some ⟨b11, 0, none⟩)), (13, .pointer (some ⟨b13, 0, none⟩)), (15, .int .i64 (i : Int))]) (fun i w => Own k w [blk b11 33 [.int .i64 1, .int .i64 0, .string pS, .slice q3 ys.length d3, .string ⟨#[]⟩, .string ⟨#[]⟩, .int .i64 (-1), .int .i64 (-1), .int .i64 (-1), .int .i64 (-1), .int .i64 (-1), .int .i64 (-1)], sls q3 d3 24 4 Api_attr.cells ys, blk b13 33 [.int .i64 1, .int .i64 0, .string pS, .slice q5 (ys.eraseIdx q.2.toNat).length d5, .string ⟨#[]⟩, .string ⟨#[]⟩, .int .i64 (-1), .int .i64 (-1), .int .i64 (-1), .int .i64 (-1), .int .i64 (-1), .int .i64 (-1)], sls q5 d5 24 4 Api_attr.cells (ys.eraseIdx q.2.toNat)] ∧ (True)) (fun i => (ys.eraseIdx q.2.toNat).length - i) (0) ⟨rfl, rfl, rfl, rfl, rfl, trivial⟩ ⟨hO.only [.b b11, .p q3, .b b13, .p q5], trivial⟩ ?_
            rintro i w m hm ⟨hO, hT0⟩
            refine K0 (K0 (K1 ?_))
            refine l_y rfl rfl (y_move rfl) ?_
            refine l_y rfl rfl (y_fldb (o' := 3) rfl) ?_
            refine l_y rfl rfl (D5 hO rfl) ?_
            refine l_y rfl rfl (y_lenL rfl) ?_
            refine Z0 (fun h25_4 => ?_) (fun h25_4 => ?_)
            · refine K2 (K3 (L8 (K5 (K3 (K0 (K4 (K0 (K1 ?_))))))))
              refine l_y rfl rfl (y_move rfl) ?_
              refine l_y rfl rfl (y_assign rfl) ?_
              refine K2 (K3 (K0 (K0 (K1 ?_))))
              refine l_y rfl rfl (y_move rfl) ?_
              refine l_y rfl rfl (y_move rfl) ?_
              refine Z0 (fun h28_2 => ?_) (fun h28_2 => ?_)
              · refine K2 (K3 (L8 (K1 ?_)))
                refine l_y rfl rfl (y_move rfl) ?_
                refine l_y rfl rfl (D4) ?_
                refine l_y rfl rfl (y_assign rfl) ?_
                refine K2 (K3 (K0 ?_))
                refine da_region (by intro c a d v w h; cases d <;> exact h) ?_
                have hO := hO.drew
                refine da_phase _ [] (SO.ks [.b b13, .p q5, .b b11, .p q3] hO) ?_
                refine dx_u 0 (by kernel_rfl) rfl rfl rfl (fun w => y_fldb (o' := 3) rfl) ?_
                refine dx_y 1 (by kernel_rfl) rfl rfl rfl (fun w ⟨m, hw⟩ => D5 hw rfl) ?_
                refine dx_u 2 (by kernel_rfl) rfl rfl rfl (fun w => y_move rfl) ?_
                refine dx_u 3 (by kernel_rfl) rfl rfl rfl (fun w => y_idx rfl rfl) ?_
                refine dx_y 4 (by kernel_rfl) rfl rfl rfl (fun w ⟨m, hw⟩ => y_eA (x0 := 0) (cs := [.int .i64 (at_ (ys.eraseIdx q.2.toNat) ((i : Int) : Int).toNat).Space, .string (at_ (ys.eraseIdx q.2.toNat) ((i : Int) : Int).toNat).Prefix, .string (at_ (ys.eraseIdx q.2.toNat) ((i : Int) : Int).toNat).Name, .string (at_ (ys.eraseIdx q.2.toNat) ((i : Int) : Int).toNat).Value]) hw rfl) ?_
                refine dx_u 5 (by kernel_rfl) rfl rfl rfl (fun w => y_fldb (o' := 3) rfl) ?_
                refine dx_y 6 (by kernel_rfl) rfl rfl rfl (fun w ⟨m, hw⟩ => D5 hw rfl) ?_
                refine dx_u 7 (by kernel_rfl) rfl rfl rfl (fun w => y_move rfl) ?_
                refine dx_u 8 (by kernel_rfl) rfl rfl rfl (fun w => y_idx rfl rfl) ?_
                refine dx_y 9 (by kernel_rfl) rfl rfl rfl (fun w ⟨m, hw⟩ => y_eA (x0 := 0) (cs := [.int .i64 (at_ ys (((i : Int) + 1) : Int).toNat).Space, .string (at_ ys (((i : Int) + 1) : Int).toNat).Prefix, .string (at_ ys (((i : Int) + 1) : Int).toNat).Name, .string (at_ ys (((i : Int) + 1) : Int).toNat).Value]) hw rfl) ?_
                refine dx_y 10 (by kernel_rfl) rfl rfl rfl (fun w ⟨m, hw⟩ => y_neA (enc := Api_attr.cells) (c := false) rfl rfl (by rw [erase_at (j := (((i : Int) + 1)).toNat) (by omega)]; simp only [decide_true, Bool.not_true])) ?_
                refine dx_end (by kernel_rfl) ?_
                refine K3 (L9 (K5 (K8 (K3 (K1 ?_)))))
                refine l_y rfl rfl (y_move rfl) ?_
                refine l_y rfl rfl (D4) ?_
                refine l_y rfl rfl (y_assign rfl) ?_
                refine K2 ?_
                exact q_next (i + 1) ⟨rfl, rfl, rfl, rfl, rfl, trivial⟩ ⟨hO.only [.b b11, .p q3, .b b13, .p q5], trivial⟩ (by omega)
              · refine K2 (K3 (L9 (K5 (K3 (K0 ?_)))))
                refine da_region (by intro c a d v w h; cases d <;> exact h) ?_
                have hO := hO.drew
                refine da_phase _ [] (SO.ks [.b b13, .p q5, .b b11, .p q3] hO) ?_
                refine dx_u 0 (by kernel_rfl) rfl rfl rfl (fun w => y_fldb (o' := 3) rfl) ?_
                refine dx_y 1 (by kernel_rfl) rfl rfl rfl (fun w ⟨m, hw⟩ => D5 hw rfl) ?_
                refine dx_u 2 (by kernel_rfl) rfl rfl rfl (fun w => y_move rfl) ?_
                refine dx_u 3 (by kernel_rfl) rfl rfl rfl (fun w => y_idx rfl rfl) ?_
                refine dx_y 4 (by kernel_rfl) rfl rfl rfl (fun w ⟨m, hw⟩ => y_eA (x0 := 0) (cs := [.int .i64 (at_ (ys.eraseIdx q.2.toNat) ((i : Int) : Int).toNat).Space, .string (at_ (ys.eraseIdx q.2.toNat) ((i : Int) : Int).toNat).Prefix, .string (at_ (ys.eraseIdx q.2.toNat) ((i : Int) : Int).toNat).Name, .string (at_ (ys.eraseIdx q.2.toNat) ((i : Int) : Int).toNat).Value]) hw rfl) ?_
                refine dx_u 5 (by kernel_rfl) rfl rfl rfl (fun w => y_fldb (o' := 3) rfl) ?_
                refine dx_y 6 (by kernel_rfl) rfl rfl rfl (fun w ⟨m, hw⟩ => D5 hw rfl) ?_
                refine dx_u 7 (by kernel_rfl) rfl rfl rfl (fun w => y_move rfl) ?_
                refine dx_u 8 (by kernel_rfl) rfl rfl rfl (fun w => y_idx rfl rfl) ?_
                refine dx_y 9 (by kernel_rfl) rfl rfl rfl (fun w ⟨m, hw⟩ => y_eA (x0 := 0) (cs := [.int .i64 (at_ ys ((i : Int) : Int).toNat).Space, .string (at_ ys ((i : Int) : Int).toNat).Prefix, .string (at_ ys ((i : Int) : Int).toNat).Name, .string (at_ ys ((i : Int) : Int).toNat).Value]) hw rfl) ?_
                refine dx_y 10 (by kernel_rfl) rfl rfl rfl (fun w ⟨m, hw⟩ => y_neA (enc := Api_attr.cells) (c := false) rfl rfl (by rw [erase_at (j := ((i : Int)).toNat) (by omega)]; simp only [decide_true, Bool.not_true])) ?_
                refine dx_end (by kernel_rfl) ?_
                refine K3 (L9 (K5 (K8 (K3 (K1 ?_)))))
                refine l_y rfl rfl (y_move rfl) ?_
                refine l_y rfl rfl (D4) ?_
                refine l_y rfl rfl (y_assign rfl) ?_
                refine K2 ?_
                exact q_next (i + 1) ⟨rfl, rfl, rfl, rfl, rfl, trivial⟩ ⟨hO.only [.b b11, .p q3, .b b13, .p q5], trivial⟩ (by omega)
            · refine K2 (K3 (L9 (K7 (L1 (L1 (L2 (K3 (K0 (K1 ?_)))))))))
              refine CK [] hO rfl (fun k' hx hr hO' => awake_spec (hO := hO')) ?_
              rintro _ _ w ⟨rfl, rfl⟩ hO
              simp only [List.cons_append, List.nil_append] at hO
              refine l_y rfl rfl (y_assign rfl) ?_
              refine K2 (K3 (K6 ?_))
              exact fin1 rfl rfl ⟨_, rfl, hO⟩
  · simp only [List.cons_append, List.nil_append] at hO
    refine l_y rfl rfl (y_move rfl) ?_
    refine l_y rfl rfl (y_extract rfl rfl) ?_
    refine l_y rfl rfl (y_extract rfl rfl) ?_
    refine l_y rfl rfl (y_assign rfl) ?_
    refine l_y rfl rfl (y_assign rfl) ?_
    refine K2 (K3 (K0 (K0 (K1 ?_))))
    refine l_y rfl rfl (y_move rfl) ?_
    refine N4 ?_
    refine K2 (K3 (L9 (K5 (K3 (K0 ?_)))))
    have hxl := hel.len
    obtain ⟨_, ⟨q0, d0, rfl⟩, rfl⟩ := hel.which.resolve_left (fun h => absurd h.1.2 (by decide))
    refine K1 ?_
    refine l_y rfl rfl (y_move rfl) ?_
    refine l_y rfl rfl (y_lenL rfl) ?_
    refine l_y rfl rfl (y_assign rfl) ?_
    refine K2 (K3 (K0 (K0 (K1 ?_))))
    refine l_y rfl rfl (y_move rfl) ?_
    refine l_y rfl rfl (y_lenL rfl) ?_
    refine l_y rfl rfl (D4) ?_
    refine l_y rfl rfl (y_assign rfl) ?_
    refine K2 (K3 (K4 ?_))
    refine c_rounds (X := Int × Int) (fun q => [(0, .slice ap xs.length ac), (3, .pointer (some ⟨b3, 0, none⟩)), (4, .bool false), (5, .pointer (some ⟨a17, 0, none⟩)), (6, .int .i64 1), (8, .int .i64 q.2), (9, .int .i64 q.1)]) (fun q w => Own k w [arenaL a17 [docD, elD q0 d0 0 pS xs], blk b3 24 (Api_attr.cells y)] ∧ (-1 ≤ q.1 ∧ q.1 < xs.length ∧ 0 ≤ q.2) ∧ (FirstAt y xs (q.1 + 1).toNat q.2.toNat)) (fun q => (q.1 + 1).toNat) (((xs.length : Int) - 1, (xs.length : Int))) ⟨rfl, rfl, rfl, rfl, rfl, rfl, rfl, trivial⟩ ⟨hO.only [.o a17, .b b3], ⟨by dsimp only; omega, by dsimp only; omega, by dsimp only; omega⟩, ⟨by dsimp only; omega, by dsimp only; omega, fun j h1 h2 => by dsimp only at h1 h2; omega, fun h => by dsimp only at h; omega⟩⟩ ?_
    rintro q w m hm ⟨hO, hr, hf⟩
    obtain ⟨hr1, hr2, hr3⟩ := hr
    refine K0 (K0 (K1 ?_))
    refine l_y rfl rfl (y_move rfl) ?_
    refine Z0 (fun h9_1 => ?_) (fun h9_1 => ?_)
    · refine K2 (K3 (L8 (K5 (K3 (K0 (K4 (K0 ?_)))))))
      refine da_region (by intro c a d v w h; cases d <;> exact h) ?_
      have hO := hO.drew
      refine da_phase _ [] (SO.ks [.b b3] hO) ?_
      refine dx_u 0 (by kernel_rfl) rfl rfl rfl (fun w => y_move rfl) ?_
      refine dx_u 1 (by kernel_rfl) rfl rfl rfl (fun w => y_move rfl) ?_
      refine dx_u 2 (by kernel_rfl) rfl rfl rfl (fun w => y_idx rfl rfl) ?_
      refine dx_u 3 (by kernel_rfl) rfl rfl rfl (fun w => y_fld (j' := 0) rfl) ?_
      refine dx_y 4 (by kernel_rfl) rfl rfl rfl (fun w ⟨m, hw⟩ => y_r1 (x0 := 0) (enc := Api_attr.cells) (xs := xs) hw rfl) ?_
      refine dx_u 5 (by kernel_rfl) rfl rfl rfl (fun w => y_fldb (o' := 0) rfl) ?_
      refine dx_y 6 (by kernel_rfl) rfl rfl rfl (fun w ⟨m, hw⟩ => D5 hw rfl) ?_
      refine dx_u 7 (by kernel_rfl) rfl rfl rfl (fun w => y_cmpI rfl rfl rfl) ?_
      refine dx_u 8 (by kernel_rfl) rfl rfl rfl (fun w => y_move rfl) ?_
      refine dx_split 50 rfl (fun hg50 => ?_) (fun hg50 => ?_)
      · have h11_7 := of_decide_eq_true hg50
        refine dx_u 9 (by kernel_rfl) rfl rfl rfl (fun w => y_move rfl) ?_
        refine dx_u 10 (by kernel_rfl) rfl rfl rfl (fun w => y_move rfl) ?_
        refine dx_u 11 (by kernel_rfl) rfl rfl rfl (fun w => y_idx rfl rfl) ?_
        refine dx_u 12 (by kernel_rfl) rfl rfl rfl (fun w => y_fld (j' := 2) rfl) ?_
        refine dx_y 13 (by kernel_rfl) rfl rfl rfl (fun w ⟨m, hw⟩ => y_r1 (x0 := 2) (enc := Api_attr.cells) (xs := xs) hw rfl) ?_
        refine dx_u 14 (by kernel_rfl) rfl rfl rfl (fun w => y_fldb (o' := 2) rfl) ?_
        refine dx_y 15 (by kernel_rfl) rfl rfl rfl (fun w ⟨m, hw⟩ => D5 hw rfl) ?_
        refine dx_u 16 (by kernel_rfl) rfl rfl rfl (fun w => y_eqS rfl rfl rfl) ?_
        refine dx_u 17 (by kernel_rfl) rfl rfl rfl (fun w => y_pick_t rfl rfl) ?_
        refine dx_end (by kernel_rfl) ?_
        refine K3 ?_
        refine c_split rfl (fun hc59 => ?_) (fun hc59 => ?_)
        · refine K1 ?_
          refine l_y rfl rfl (y_move rfl) ?_
          refine l_y rfl rfl (y_assign rfl) ?_
          refine K2 (K8 (K3 (K1 ?_)))
          refine l_y rfl rfl (y_move rfl) ?_
          refine l_y rfl rfl (D4) ?_
          refine l_y rfl rfl (y_assign rfl) ?_
          refine K2 ?_
          exact q_next (((q.1 - 1), q.1)) ⟨rfl, rfl, rfl, rfl, rfl, rfl, rfl, trivial⟩ ⟨hO.only [.o a17, .b b3], ⟨by dsimp only; omega, by dsimp only; omega, by dsimp only; omega⟩, by first | exact first_yes (by omega) hr2 (by simp_all [isA]) | exact first_no (by omega) hf (by simp_all [isA])⟩ (by dsimp only; omega)
        · refine K5 (K8 (K3 (K1 ?_)))
          refine l_y rfl rfl (y_move rfl) ?_
          refine l_y rfl rfl (D4) ?_
          refine l_y rfl rfl (y_assign rfl) ?_
          refine K2 ?_
          exact q_next (((q.1 - 1), q.2)) ⟨rfl, rfl, rfl, rfl, rfl, rfl, rfl, trivial⟩ ⟨hO.only [.o a17, .b b3], ⟨by dsimp only; omega, by dsimp only; omega, by dsimp only; omega⟩, by first | exact first_yes (by omega) hr2 (by simp_all [isA]) | exact first_no (by omega) hf (by simp_all [isA])⟩ (by dsimp only; omega)
      · have h11_7 := of_decide_eq_false hg50
        refine dx_pass 9 (by kernel_rfl) rfl rfl rfl ?_
        refine dx_pass 10 (by kernel_rfl) rfl rfl rfl ?_
        refine dx_pass 11 (by kernel_rfl) rfl rfl rfl ?_
        refine dx_pass 12 (by kernel_rfl) rfl rfl rfl ?_
        refine dx_pass 13 (by kernel_rfl) rfl rfl rfl ?_
        refine dx_pass 14 (by kernel_rfl) rfl rfl rfl ?_
        refine dx_pass 15 (by kernel_rfl) rfl rfl rfl ?_
        refine dx_pass 16 (by kernel_rfl) rfl rfl rfl ?_
        refine dx_u 17 (by kernel_rfl) rfl rfl rfl (fun w => y_pick_f rfl rfl) ?_
        refine dx_end (by kernel_rfl) ?_
        refine K3 (L9 (K5 (K8 (K3 (K1 ?_)))))
        refine l_y rfl rfl (y_move rfl) ?_
        refine l_y rfl rfl (D4) ?_
        refine l_y rfl rfl (y_assign rfl) ?_
        refine K2 ?_
        exact q_next (((q.1 - 1), q.2)) ⟨rfl, rfl, rfl, rfl, rfl, rfl, rfl, trivial⟩ ⟨hO.only [.o a17, .b b3], ⟨by dsimp only; omega, by dsimp only; omega, by dsimp only; omega⟩, by first | exact first_yes (by omega) hr2 (by simp_all [isA]) | exact first_no (by omega) hf (by simp_all [isA])⟩ (by dsimp only; omega)
    · refine K2 (K3 (L9 (K7 (L1 (L1 (L2 (K3 (K0 ?_))))))))
      have hf0 : FirstAt y xs 0 q.2.toNat := by rw [show (q.1 + 1).toNat = 0 by omega] at hf; exact hf
      refine K1 ?_
      refine l_y rfl rfl (y_move rfl) ?_
      refine l_y rfl rfl (y_move rfl) ?_
      refine l_y rfl rfl (D8 (cs := [.int .i64 y.Space, .string y.Prefix, .string y.Name, .string y.Value]) hO rfl) ?_
      refine CK [.o a17] hO rfl (fun k' hx hr hO' => SetP_spec (y := y) hel.kind hel.attrs hel.len hf0 (hO := hO')) ?_
      rintro _ _ w (⟨rfl, ys, q1, d1, ⟨hyl, hsa⟩, rfl⟩ | ⟨rfl, ys, q1, d1, ⟨hyl, hsa⟩, rfl⟩) hO
      · simp only [List.cons_append, List.nil_append] at hO
        refine l_y rfl rfl (y_assign rfl) ?_
        refine K2 (K3 (K0 (K1 ?_)))
        refine l_y rfl rfl (y_move rfl) ?_
        refine l_y rfl rfl (y_move rfl) ?_
        refine CK [.o a17] hO rfl (fun k' hx hr hO' => NodeOk_spec (o := setAttrs (elD q0 d0 0 pS xs) q1 ys d1) rfl (by decide) (attrsOk2 (Nat.zero_le _) hyl) (hO := hO')) ?_
        rintro _ _ w ⟨q3, d3, rfl, rfl⟩ hO
        simp only [List.cons_append, List.nil_append] at hO
        refine l_y rfl rfl (y_move rfl) ?_
        refine l_y rfl rfl (y_extract rfl rfl) ?_
        refine l_y rfl rfl (y_extract rfl rfl) ?_
        refine s_alloc (vs := [.int .i64 0, .int .i64 0, .string ⟨#[]⟩, .slice none 0 0, .string ⟨#[]⟩, .string ⟨#[]⟩, .int .i64 0, .int .i64 0, .int .i64 0, .int .i64 0, .int .i64 0, .int .i64 0]) hO rfl rfl rfl fun b11 w hO => ?_
        refine Y3 hO rfl rfl (fun w hO => ?_)
        have hO : Own k w (blk b11 33 [.int .i64 1, .int .i64 0, .string pS, .slice q3 ys.length d3, .string ⟨#[]⟩, .string ⟨#[]⟩, .int .i64 (-1), .int .i64 (-1), .int .i64 (-1), .int .i64 (-1), .int .i64 (-1), .int .i64 (-1)] :: sls q3 d3 24 4 Api_attr.cells ys :: _) := hO.ks [.b b11, .p q3]
        have hg3 := (sls_fct (p := q3) hO).2
        refine l_y rfl rfl (y_assign rfl) ?_
        refine K2 (K3 (K0 (K0 (K1 ?_))))
        refine l_y rfl rfl (y_move rfl) ?_
        refine N5 ?_
        refine K2 (K3 (L8 (K0 (K1 ?_))))
        refine l_y rfl rfl (y_move rfl) ?_
        refine N2 ?_
        refine l_y rfl rfl (y_move rfl) ?_
        refine l_y rfl rfl (y_fldb (o' := 3) rfl) ?_
        refine l_y rfl rfl (D5 hO rfl) ?_
        refine l_y rfl rfl (y_lenL rfl) ?_
        refine l_y rfl rfl (y_move rfl) ?_
        refine l_y rfl rfl (y_lenL rfl) ?_
        refine N2 (hp := (by rw [hsa])) ?_
        refine l_y rfl rfl (y_pick_t rfl rfl) ?_
        refine l_y rfl rfl (y_assign rfl) ?_
        refine K2 (K3 (K6 (K9 ?_)))
        exact fin1 rfl rfl ⟨_, rfl, hO⟩
      · simp only [List.cons_append, List.nil_append] at hO
        refine l_y rfl rfl (y_assign rfl) ?_
        refine K2 (K3 (K0 (K1 ?_)))
        refine l_y rfl rfl (y_move rfl) ?_
        refine l_y rfl rfl (y_move rfl) ?_
        refine CK [.o a17] hO rfl (fun k' hx hr hO' => NodeOk_spec (o := setAttrs (elD q0 d0 0 pS xs) q1 ys d1) rfl (by decide) (attrsOk2 (Nat.zero_le _) hyl) (hO := hO')) ?_
        rintro _ _ w ⟨q3, d3, rfl, rfl⟩ hO
        simp only [List.cons_append, List.nil_append] at hO
        refine l_y rfl rfl (y_move rfl) ?_
        refine l_y rfl rfl (y_extract rfl rfl) ?_
        refine l_y rfl rfl (y_extract rfl rfl) ?_
        refine s_alloc (vs := [.int .i64 0, .int .i64 0, .string ⟨#[]⟩, .slice none 0 0, .string ⟨#[]⟩, .string ⟨#[]⟩, .int .i64 0, .int .i64 0, .int .i64 0, .int .i64 0, .int .i64 0, .int .i64 0]) hO rfl rfl rfl fun b11 w hO => ?_
        refine Y3 hO rfl rfl (fun w hO => ?_)
        have hO : Own k w (blk b11 33 [.int .i64 1, .int .i64 0, .string pS, .slice q3 ys.length d3, .string ⟨#[]⟩, .string ⟨#[]⟩, .int .i64 (-1), .int .i64 (-1), .int .i64 (-1), .int .i64 (-1), .int .i64 (-1), .int .i64 (-1)] :: sls q3 d3 24 4 Api_attr.cells ys :: _) := hO.ks [.b b11, .p q3]
        have hg3 := (sls_fct (p := q3) hO).2
        refine l_y rfl rfl (y_assign rfl) ?_
        refine K2 (K3 (K0 (K0 (K1 ?_))))
        refine l_y rfl rfl (y_move rfl) ?_
        refine N4 ?_
        refine K2 (K3 (L9 (K5 (K3 (K0 (K0 ?_))))))
        have hln := hsa.len
        refine da_region (by intro c a d v w h; cases d <;> exact h) ?_
        have hO := hO.drew
        refine da_phase _ [] (SO.ks [.b b11, .p q3, .b b3] hO) ?_
        refine dx_u 0 (by kernel_rfl) rfl rfl rfl (fun w => y_fldb (o' := 3) rfl) ?_
        refine dx_y 1 (by kernel_rfl) rfl rfl rfl (fun w ⟨m, hw⟩ => D5 hw rfl) ?_
        refine dx_u 2 (by kernel_rfl) rfl rfl rfl (fun w => y_lenL rfl) ?_
        refine dx_u 3 (by kernel_rfl) rfl rfl rfl (fun w => y_move rfl) ?_
        refine dx_u 4 (by kernel_rfl) rfl rfl rfl (fun w => y_lenL rfl) ?_
        refine dx_u 5 (by kernel_rfl) rfl rfl rfl (fun w => y_move rfl) ?_
        refine dx_u 6 (by kernel_rfl) rfl rfl rfl (fun w => D4) ?_
        refine dx_u 7 (by kernel_rfl) rfl rfl rfl (fun w => y_max rfl rfl) ?_
        refine dx_y 8 (by kernel_rfl) rfl rfl rfl (fun w ⟨m, hw⟩ => D2 (hp := (by omega))) ?_
        refine dx_u 9 (by kernel_rfl) rfl rfl rfl (fun w => y_move rfl) ?_
        refine dx_u 10 (by kernel_rfl) rfl rfl rfl (fun w => y_fldb (o' := 3) rfl) ?_
        refine dx_y 11 (by kernel_rfl) rfl rfl rfl (fun w ⟨m, hw⟩ => D5 hw rfl) ?_
        refine dx_u 12 (by kernel_rfl) rfl rfl rfl (fun w => y_move rfl) ?_
        refine dx_u 13 (by kernel_rfl) rfl rfl rfl (fun w => y_idx rfl rfl) ?_
        refine dx_u 14 (by kernel_rfl) rfl rfl rfl (fun w => y_fld (j' := 3) rfl) ?_
        refine dx_y 15 (by kernel_rfl) rfl rfl rfl (fun w ⟨m, hw⟩ => y_e1 (x0 := 3) hw rfl) ?_
        refine dx_u 16 (by kernel_rfl) rfl rfl rfl (fun w => y_fldb (o' := 3) rfl) ?_
        refine dx_y 17 (by kernel_rfl) rfl rfl rfl (fun w ⟨m, hw⟩ => D5 hw rfl) ?_
        refine dx_y 18 (by kernel_rfl) rfl rfl rfl (fun w ⟨m, hw⟩ => y_neS (c := false) rfl rfl (by simp [hsa.value])) ?_
        refine dx_u 19 (by kernel_rfl) rfl rfl rfl (fun w => y_pick_f rfl rfl) ?_
        refine dx_u 20 (by kernel_rfl) rfl rfl rfl (fun w => y_move rfl) ?_
        refine dx_u 21 (by kernel_rfl) rfl rfl rfl (fun w => y_fldb (o' := 3) rfl) ?_
        refine dx_y 22 (by kernel_rfl) rfl rfl rfl (fun w ⟨m, hw⟩ => D5 hw rfl) ?_
        refine dx_u 23 (by kernel_rfl) rfl rfl rfl (fun w => y_move rfl) ?_
        refine dx_u 24 (by kernel_rfl) rfl rfl rfl (fun w => y_idx rfl rfl) ?_
        refine dx_u 25 (by kernel_rfl) rfl rfl rfl (fun w => y_fld (j' := 2) rfl) ?_
        refine dx_y 26 (by kernel_rfl) rfl rfl rfl (fun w ⟨m, hw⟩ => y_e1 (x0 := 2) hw rfl) ?_
        refine dx_u 27 (by kernel_rfl) rfl rfl rfl (fun w => y_fldb (o' := 2) rfl) ?_
        refine dx_y 28 (by kernel_rfl) rfl rfl rfl (fun w ⟨m, hw⟩ => D5 hw rfl) ?_
        refine dx_y 29 (by kernel_rfl) rfl rfl rfl (fun w ⟨m, hw⟩ => y_neS (c := false) rfl rfl (by simp [hsa.name])) ?_
        refine dx_u 30 (by kernel_rfl) rfl rfl rfl (fun w => y_pick_f rfl rfl) ?_
        refine dx_u 31 (by kernel_rfl) rfl rfl rfl (fun w => y_move rfl) ?_
        refine dx_u 32 (by kernel_rfl) rfl rfl rfl (fun w => y_fldb (o' := 3) rfl) ?_
        refine dx_y 33 (by kernel_rfl) rfl rfl rfl (fun w ⟨m, hw⟩ => D5 hw rfl) ?_
        refine dx_u 34 (by kernel_rfl) rfl rfl rfl (fun w => y_move rfl) ?_
        refine dx_u 35 (by kernel_rfl) rfl rfl rfl (fun w => y_idx rfl rfl) ?_
        refine dx_u 36 (by kernel_rfl) rfl rfl rfl (fun w => y_fld (j' := 0) rfl) ?_
        refine dx_y 37 (by kernel_rfl) rfl rfl rfl (fun w ⟨m, hw⟩ => y_e1 (x0 := 0) hw rfl) ?_
        refine dx_u 38 (by kernel_rfl) rfl rfl rfl (fun w => y_fldb (o' := 0) rfl) ?_
        refine dx_y 39 (by kernel_rfl) rfl rfl rfl (fun w ⟨m, hw⟩ => D5 hw rfl) ?_
        refine dx_y 40 (by kernel_rfl) rfl rfl rfl (fun w ⟨m, hw⟩ => D2 (hp := hsa.space)) ?_
        refine dx_u 41 (by kernel_rfl) rfl rfl rfl (fun w => y_pick_f rfl rfl) ?_
        refine dx_end (by kernel_rfl) ?_
        refine K3 (L9 (K5 (K3 (K0 (K0 (K1 ?_))))))
        refine l_y rfl rfl (y_move rfl) ?_
        refine l_y rfl rfl (y_move rfl) ?_
        refine l_y rfl rfl (y_fldb (o' := 0) rfl) ?_
        refine l_y rfl rfl (D5 hO rfl) ?_
        refine l_y rfl rfl (y_fldb (o' := 2) rfl) ?_
        refine l_y rfl rfl (D5 hO rfl) ?_
        refine CK [.o a17] hO rfl (fun k' hx hr hO' => DelP_spec (y := y) rfl rfl hsa (hO := hO')) ?_
        rintro _ _ w ⟨rfl, q4, d4, rfl⟩ hO
        simp only [List.cons_append, List.nil_append] at hO
        refine N4 ?_
        refine K2 (K3 (L9 (K5 (K3 (K0 (K1 ?_))))))
        refine l_y rfl rfl (y_move rfl) ?_
        refine l_y rfl rfl (y_move rfl) ?_
        refine CK [.o a17] hO rfl (fun k' hx hr hO' => NodeOk_spec (o := setAttrs (setAttrs (elD q0 d0 0 pS xs) q1 ys d1) q4 (ys.eraseIdx q.2.toNat) d4) rfl (by decide) (attrsOk2 (Nat.zero_le _) (Nat.le_trans (List.length_eraseIdx_le ..) hyl)) (hO := hO')) ?_
        rintro _ _ w ⟨q5, d5, rfl, rfl⟩ hO
        simp only [List.cons_append, List.nil_append] at hO
        refine l_y rfl rfl (y_move rfl) ?_
        refine l_y rfl rfl (y_extract rfl rfl) ?_
        refine l_y rfl rfl (y_extract rfl rfl) ?_
        refine s_alloc (vs := [.int .i64 0, .int .i64 0, .string ⟨#[]⟩, .slice none 0 0, .string ⟨#[]⟩, .string ⟨#[]⟩, .int .i64 0, .int .i64 0, .int .i64 0, .int .i64 0, .int .i64 0, .int .i64 0]) hO rfl rfl rfl fun b13 w hO => ?_
        refine Y3 hO rfl rfl (fun w hO => ?_)
        have hO : Own k w (blk b13 33 [.int .i64 1, .int .i64 0, .string pS, .slice q5 (ys.eraseIdx q.2.toNat).length d5, .string ⟨#[]⟩, .string ⟨#[]⟩, .int .i64 (-1), .int .i64 (-1), .int .i64 (-1), .int .i64 (-1), .int .i64 (-1), .int .i64 (-1)] :: sls q5 d5 24 4 Api_attr.cells (ys.eraseIdx q.2.toNat) :: _) := hO.ks [.b b13, .p q5]
        have hg5 := (sls_fct (p := q5) hO).2
        refine l_y rfl rfl (y_assign rfl) ?_
        refine K2 (K3 (K0 (K0 ?_)))
        have hel2 : (ys.eraseIdx q.2.toNat).length = ys.length - 1 := List.length_eraseIdx_of_lt (by omega)
        refine K1 ?_
        refine l_y rfl rfl (y_fldb (o' := 3) rfl) ?_
        refine l_y rfl rfl (D5 hO rfl) ?_
        refine l_y rfl rfl (y_lenL rfl) ?_
        refine l_y rfl rfl (y_fldb (o' := 3) rfl) ?_
        refine l_y rfl rfl (D5 hO rfl) ?_
        refine l_y rfl rfl (y_lenL rfl) ?_
        refine l_y rfl rfl (D4) ?_
        refine N4 (hp := (by omega)) ?_
        refine K2 (K3 (L9 (K5 (K3 (K0 (K0 (K1 ?_)))))))
        refine l_y rfl rfl (y_assign rfl) ?_
        refine K2 (K3 (K4 ?_))
        refine c_rounds (X := Nat) (fun i => [(4, .bool false), (8, .int .i64 q.2), (11, .pointer (some ⟨b11, 0, none⟩)), (13, .pointer (some ⟨b13, 0, none⟩)), (15, .int .i64 (i : Int))]) (fun i w => Own k w [blk b11 33 [.int .i64 1, .int .i64 0, .string pS, .slice q3 ys.length d3, .string ⟨#[]⟩, .string ⟨#[]⟩, .int .i64 (-1), .int .i64 (-1), .int .i64 (-1), .int .i64 (-1), .int .i64 (-1), .int .i64 (-1)], sls q3 d3 24 4 Api_attr.cells ys, blk b13 33 [.int .i64 1, .int .i64 0, .string pS, .slice q5 (ys.eraseIdx q.2.toNat).length d5, .string ⟨#[]⟩, .string ⟨#[]⟩, .int .i64 (-1), .int .i64 (-1), .int .i64 (-1), .int .i64 (-1), .int .i64 (-1), .int .i64 (-1)], sls q5 d5 24 4 Api_attr.cells (ys.eraseIdx q.2.toNat)] ∧ (True)) (fun i => (ys.eraseIdx q.2.toNat).length - i) (0) ⟨rfl, rfl, rfl, rfl, rfl, trivial⟩ ⟨hO.only [.b b11, .p q3, .b b13, .p q5], trivial⟩ ?_
        rintro i w m hm ⟨hO, hT0⟩
        refine K0 (K0 (K1 ?_))
        refine l_y rfl rfl (y_move rfl) ?_
        refine l_y rfl rfl (y_fldb (o' := 3) rfl) ?_
        refine l_y rfl rfl (D5 hO rfl) ?_
        refine l_y rfl rfl (y_lenL rfl) ?_
        refine Z0 (fun h25_4 => ?_) (fun h25_4 => ?_)
        · refine K2 (K3 (L8 (K5 (K3 (K0 (K4 (K0 (K1 ?_))))))))
          refine l_y rfl rfl (y_move rfl) ?_
          refine l_y rfl rfl (y_assign rfl) ?_
          refine K2 (K3 (K0 (K0 (K1 ?_))))
          refine l_y rfl rfl (y_move rfl) ?_
          refine l_y rfl rfl (y_move rfl) ?_
          refine Z0 (fun h28_2 => ?_) (fun h28_2 => ?_)
          · refine K2 (K3 (L8 (K1 ?_)))
            refine l_y rfl rfl (y_move rfl) ?_
            refine l_y rfl rfl (D4) ?_
            refine l_y rfl rfl (y_assign rfl) ?_
            refine K2 (K3 (K0 ?_))
            refine da_region (by intro c a d v w h; cases d <;> exact h) ?_
            have hO := hO.drew
            refine da_phase _ [] (SO.ks [.b b13, .p q5, .b b11, .p q3] hO) ?_
            refine dx_u 0 (by kernel_rfl) rfl rfl rfl (fun w => y_fldb (o' := 3) rfl) ?_
            refine dx_y 1 (by kernel_rfl) rfl rfl rfl (fun w ⟨m, hw⟩ => D5 hw rfl) ?_
            refine dx_u 2 (by kernel_rfl) rfl rfl rfl (fun w => y_move rfl) ?_
            refine dx_u 3 (by kernel_rfl) rfl rfl rfl (fun w => y_idx rfl rfl) ?_
            refine dx_y 4 (by kernel_rfl) rfl rfl rfl (fun w ⟨m, hw⟩ => y_eA (x0 := 0) (cs := [.int .i64 (at_ (ys.eraseIdx q.2.toNat) ((i : Int) : Int).toNat).Space, .string (at_ (ys.eraseIdx q.2.toNat) ((i : Int) : Int).toNat).Prefix, .string (at_ (ys.eraseIdx q.2.toNat) ((i : Int) : Int).toNat).Name, .string (at_ (ys.eraseIdx q.2.toNat) ((i : Int) : Int).toNat).Value]) hw rfl) ?_
            refine dx_u 5 (by kernel_rfl) rfl rfl rfl (fun w => y_fldb (o' := 3) rfl) ?_
            refine dx_y 6 (by kernel_rfl) rfl rfl rfl (fun w ⟨m, hw⟩ => D5 hw rfl) ?_
            refine dx_u 7 (by kernel_rfl) rfl rfl rfl (fun w => y_move rfl) ?_
            refine dx_u 8 (by kernel_rfl) rfl rfl rfl (fun w => y_idx rfl rfl) ?_
            refine dx_y 9 (by kernel_rfl) rfl rfl rfl (fun w ⟨m, hw⟩ => y_eA (x0 := 0) (cs := [.int .i64 (at_ ys (((i : Int) + 1) : Int).toNat).Space, .string (at_ ys (((i : Int) + 1) : Int).toNat).Prefix, .string (at_ ys (((i : Int) + 1) : Int).toNat).Name, .string (at_ ys (((i : Int) + 1) : Int).toNat).Value]) hw rfl) ?_
            refine dx_y 10 (by kernel_rfl) rfl rfl rfl (fun w ⟨m, hw⟩ => y_neA (enc := Api_attr.cells) (c := false) rfl rfl (by rw [erase_at (j := (((i : Int) + 1)).toNat) (by omega)]; simp only [decide_true, Bool.not_true])) ?_
            refine dx_end (by kernel_rfl) ?_
            refine K3 (L9 (K5 (K8 (K3 (K1 ?_)))))
            refine l_y rfl rfl (y_move rfl) ?_
            refine l_y rfl rfl (D4) ?_
            refine l_y rfl rfl (y_assign rfl) ?_
            refine K2 ?_
            exact q_next (i + 1) ⟨rfl, rfl, rfl, rfl, rfl, trivial⟩ ⟨hO.only [.b b11, .p q3, .b b13, .p q5], trivial⟩ (by omega)
          · refine K2 (K3 (L9 (K5 (K3 (K0 ?_)))))
            refine da_region (by intro c a d v w h; cases d <;> exact h) ?_
            have hO := hO.drew
            refine da_phase _ [] (SO.ks [.b b13, .p q5, .b b11, .p q3] hO) ?_
            refine dx_u 0 (by kernel_rfl) rfl rfl rfl (fun w => y_fldb (o' := 3) rfl) ?_
            refine dx_y 1 (by kernel_rfl) rfl rfl rfl (fun w ⟨m, hw⟩ => D5 hw rfl) ?_
            refine dx_u 2 (by kernel_rfl) rfl rfl rfl (fun w => y_move rfl) ?_
            refine dx_u 3 (by kernel_rfl) rfl rfl rfl (fun w => y_idx rfl rfl) ?_
            refine dx_y 4 (by kernel_rfl) rfl rfl rfl (fun w ⟨m, hw⟩ => y_eA (x0 := 0) (cs := [.int .i64 (at_ (ys.eraseIdx q.2.toNat) ((i : Int) : Int).toNat).Space, .string (at_ (ys.eraseIdx q.2.toNat) ((i : Int) : Int).toNat).Prefix, .string (at_ (ys.eraseIdx q.2.toNat) ((i : Int) : Int).toNat).Name, .string (at_ (ys.eraseIdx q.2.toNat) ((i : Int) : Int).toNat).Value]) hw rfl) ?_
            refine dx_u 5 (by kernel_rfl) rfl rfl rfl (fun w => y_fldb (o' := 3) rfl) ?_
            refine dx_y 6 (by kernel_rfl) rfl rfl rfl (fun w ⟨m, hw⟩ => D5 hw rfl) ?_
            refine dx_u 7 (by kernel_rfl) rfl rfl rfl (fun w => y_move rfl) ?_
            refine dx_u 8 (by kernel_rfl) rfl rfl rfl (fun w => y_idx rfl rfl) ?_
            refine dx_y 9 (by kernel_rfl) rfl rfl rfl (fun w ⟨m, hw⟩ => y_eA (x0 := 0) (cs := [.int .i64 (at_ ys ((i : Int) : Int).toNat).Space, .string (at_ ys ((i : Int) : Int).toNat).Prefix, .string (at_ ys ((i : Int) : Int).toNat).Name, .string (at_ ys ((i : Int) : Int).toNat).Value]) hw rfl) ?_
            refine dx_y 10 (by kernel_rfl) rfl rfl rfl (fun w ⟨m, hw⟩ => y_neA (enc := Api_attr.cells) (c := false) rfl rfl (by rw [erase_at (j := ((i : Int)).toNat) (by omega)]; simp only [decide_true, Bool.not_true])) ?_
            refine dx_end (by kernel_rfl) ?_
            refine K3 (L9 (K5 (K8 (K3 (K1 ?_)))))
            refine l_y rfl rfl (y_move rfl) ?_
            refine l_y rfl rfl (D4) ?_
            refine l_y rfl rfl (y_assign rfl) ?_
            refine K2 ?_
            exact q_next (i + 1) ⟨rfl, rfl, rfl, rfl, rfl, trivial⟩ ⟨hO.only [.b b11, .p q3, .b b13, .p q5], trivial⟩ (by omega)
        · refine K2 (K3 (L9 (K7 (L1 (L1 (L2 (K3 (K0 (K1 ?_)))))))))
          refine CK [] hO rfl (fun k' hx hr hO' => awake_spec (hO := hO')) ?_
          rintro _ _ w ⟨rfl, rfl⟩ hO
          simp only [List.cons_append, List.nil_append] at hO
          refine l_y rfl rfl (y_assign rfl) ?_
          refine K2 (K3 (K6 ?_))
          exact fin1 rfl rfl ⟨_, rfl, hO⟩
open Go.WideShapes Go.ChangeShapes in
theorem attr_arg {H : Type} {enc : TypeId × Value → H} {W : World} {r : Reach} {b : Nat} {v : Value} {d : DataW H} {ps : List MemPlace} (hval : Value.okWide Try.prog W r b 24 v) (hd : DataW.Trod enc Try.prog W 0 (fun _ => true) true 24 v d ps) : ∃ y, v = .agg (Api_attr.cells y).toArray := by
  obtain ⟨cs, rfl, _⟩ := okWide_struct Try.underlying24 hval
  obtain ⟨fuel, hf⟩ := hd
  obtain ⟨y, e⟩ := attr_of (q_attr fuel _ _ hf)
  refine ⟨y, ?_⟩
  rw [← e]; rfl
end Go.Proofs.Ytnolpajggmfpdaa
