/- The tree's text, the newer way: whether a name is in a list. -/
import Derived.Test.YthkmnohghpdjhaaNode9
set_option linter.unusedVariables false
set_option linter.unusedSimpArgs false
set_option maxRecDepth 100000
namespace Go.Proofs.Ythkmnohghpdjhaa
open Go Go.Hb Go.RowKit
def inL (l : List ByteArray) (s : ByteArray) : Bool := l.any fun t => decide (t = s)
section
variable {k : Ctx} {w : World}
theorem win_spec {l : List ByteArray} {p : Option Addr} {c : Nat} {s : ByteArray} (hs : Sli (Ro k) (.slice p l.length c) (l.map eS)) (hl : l.length ≤ 1000) (hO : Own k w []) :
    Tri Try.prog 75 #[.slice p l.length c, .string s] k w fun v m => v = .bool (inL l s) ∧ m = [] := by
  refine enter (args := [.slice p l.length c, .string s]) Try.func75 rfl rfl ?_
  have hgs := sli_gs hs
  refine K0 (K1 ?_)
  refine l_y rfl rfl (y_assign rfl) ?_
  refine K2 (K3 (K0 (K0 (K1 ?_))))
  refine l_y rfl rfl (y_move rfl) ?_
  refine l_y rfl rfl (y_lenL rfl) ?_
  refine l_y rfl rfl (y_move rfl) ?_
  refine K2 (K3 (K4 ?_))
  refine c_rounds (X := Nat) (fun i => [(1, .string s), (4, .bool false), (7, .slice p l.length c), (8, .int .i64 ((l.length : Nat) : Int)), (9, .int .i64 (i : Int))]) (fun i w => Own k w [] ∧ (i ≤ l.length) ∧ (inL (l.take i) s = false)) (fun i => l.length - i) (0) ⟨rfl, rfl, rfl, rfl, rfl, trivial⟩ ⟨hO.only [], Nat.zero_le _, rfl⟩ ?_
  rintro i w m hm ⟨hO, hi, hn⟩
  refine K0 (K1 ?_)
  refine Z0 (fun h2_0 => ?_) (fun h2_0 => ?_)
  · refine K2 (K3 (K0 (L8 (K5 (K3 (K0 (K4 (K0 (K1 ?_)))))))))
    refine l_y rfl rfl (y_idx rfl rfl) ?_
    refine l_y rfl rfl (y_r1 (x0 := 0) (enc := eS) (xs := l) hO rfl) ?_
    refine l_y rfl rfl (y_assign rfl) ?_
    refine K2 (K3 (K0 (K1 ?_)))
    refine l_y rfl rfl (y_move rfl) ?_
    refine l_y rfl rfl (y_move rfl) ?_
    refine Z2 (fun h4_2 => ?_) (fun h4_2 => ?_)
    · refine K2 (K3 (L8 (K0 (K1 ?_))))
      refine l_y rfl rfl (y_assign rfl) ?_
      refine K2 (K3 (K6 (L0 (K9 (K9 (L0 (K9 ?_)))))))
      have e : inL l s = true := List.any_eq_true.2 ⟨at_ l i, at_mem (by omega), decide_eq_true h4_2⟩
      exact fin1 rfl rfl ⟨_, ⟨by rw [e], rfl⟩, hO.only []⟩
    · refine K2 (K3 (L9 (K5 (K8 (K3 (K1 ?_))))))
      refine l_y rfl rfl (D4) ?_
      refine l_y rfl rfl (y_move rfl) ?_
      refine K2 ?_
      exact q_next (i + 1) ⟨rfl, rfl, rfl, rfl, rfl, trivial⟩ ⟨hO.only [], by omega, (by rw [take_succ_at (by omega)]; simp only [inL, List.any_append, List.any_cons, List.any_nil, Bool.or_false, Bool.or_eq_false_iff]; exact ⟨hn, decide_eq_false h4_2⟩)⟩ (by omega)
  · refine K2 (K3 (K0 (L9 (K7 (L1 (L1 (L2 (K3 (K0 (K1 ?_))))))))))
    refine l_y rfl rfl (y_assign rfl) ?_
    refine K2 (K3 (K6 ?_))
    have e : inL l s = false := by rw [← hn, List.take_of_length_le (by omega)]
    exact fin1 rfl rfl ⟨_, ⟨by rw [e], rfl⟩, hO.only []⟩
def voidL : List ByteArray := [⟨#[97, 114, 101, 97]⟩, ⟨#[98, 97, 115, 101]⟩, ⟨#[98, 97, 115, 101, 102, 111, 110, 116]⟩, ⟨#[98, 103, 115, 111, 117, 110, 100]⟩, ⟨#[98, 114]⟩, ⟨#[99, 111, 108]⟩, ⟨#[101, 109, 98, 101, 100]⟩, ⟨#[102, 114, 97, 109, 101]⟩, ⟨#[104, 114]⟩, ⟨#[105, 109, 103]⟩, ⟨#[105, 110, 112, 117, 116]⟩, ⟨#[107, 101, 121, 103, 101, 110]⟩, ⟨#[108, 105, 110, 107]⟩, ⟨#[109, 101, 116, 97]⟩, ⟨#[112, 97, 114, 97, 109]⟩, ⟨#[115, 111, 117, 114, 99, 101]⟩, ⟨#[116, 114, 97, 99, 107]⟩, ⟨#[119, 98, 114]⟩]
theorem wvoids_spec (hO : Own k w []) : Tri Try.prog 74 #[] k w fun v m => v = .agg (voidL.map Value.string).toArray ∧ m = [] := by
  refine enter (args := []) Try.func74 rfl rfl ?_
  refine K0 (K1 ?_)
  refine s_alloc (vs := [.string ⟨#[]⟩, .string ⟨#[]⟩, .string ⟨#[]⟩, .string ⟨#[]⟩, .string ⟨#[]⟩, .string ⟨#[]⟩, .string ⟨#[]⟩, .string ⟨#[]⟩, .string ⟨#[]⟩, .string ⟨#[]⟩, .string ⟨#[]⟩, .string ⟨#[]⟩, .string ⟨#[]⟩, .string ⟨#[]⟩, .string ⟨#[]⟩, .string ⟨#[]⟩, .string ⟨#[]⟩, .string ⟨#[]⟩]) hO rfl rfl rfl fun b0 w hO => ?_
  refine K2 (K3 (K0 (K1 ?_)))
  refine s_build (parts := [(0, .const (.string ⟨#[97, 114, 101, 97]⟩)), (1, .const (.string ⟨#[98, 97, 115, 101]⟩)), (2, .const (.string ⟨#[98, 97, 115, 101, 102, 111, 110, 116]⟩)), (3, .const (.string ⟨#[98, 103, 115, 111, 117, 110, 100]⟩)), (4, .const (.string ⟨#[98, 114]⟩)), (5, .const (.string ⟨#[99, 111, 108]⟩)), (6, .const (.string ⟨#[101, 109, 98, 101, 100]⟩)), (7, .const (.string ⟨#[102, 114, 97, 109, 101]⟩)), (8, .const (.string ⟨#[104, 114]⟩)), (9, .const (.string ⟨#[105, 109, 103]⟩)), (10, .const (.string ⟨#[105, 110, 112, 117, 116]⟩)), (11, .const (.string ⟨#[107, 101, 121, 103, 101, 110]⟩)), (12, .const (.string ⟨#[108, 105, 110, 107]⟩)), (13, .const (.string ⟨#[109, 101, 116, 97]⟩)), (14, .const (.string ⟨#[112, 97, 114, 97, 109]⟩)), (15, .const (.string ⟨#[115, 111, 117, 114, 99, 101]⟩)), (16, .const (.string ⟨#[116, 114, 97, 99, 107]⟩)), (17, .const (.string ⟨#[119, 98, 114]⟩))]) (cs := [.string ⟨#[97, 114, 101, 97]⟩, .string ⟨#[98, 97, 115, 101]⟩, .string ⟨#[98, 97, 115, 101, 102, 111, 110, 116]⟩, .string ⟨#[98, 103, 115, 111, 117, 110, 100]⟩, .string ⟨#[98, 114]⟩, .string ⟨#[99, 111, 108]⟩, .string ⟨#[101, 109, 98, 101, 100]⟩, .string ⟨#[102, 114, 97, 109, 101]⟩, .string ⟨#[104, 114]⟩, .string ⟨#[105, 109, 103]⟩, .string ⟨#[105, 110, 112, 117, 116]⟩, .string ⟨#[107, 101, 121, 103, 101, 110]⟩, .string ⟨#[108, 105, 110, 107]⟩, .string ⟨#[109, 101, 116, 97]⟩, .string ⟨#[112, 97, 114, 97, 109]⟩, .string ⟨#[115, 111, 117, 114, 99, 101]⟩, .string ⟨#[116, 114, 97, 99, 107]⟩, .string ⟨#[119, 98, 114]⟩]) rfl rfl (fun a ha => partsOf_sound ha _ _ rfl) (by kernel_rfl) ?_
  refine Y3 hO rfl rfl (fun w hO => ?_)
  refine K2 (K3 (K6 ?_))
  exact finC hO rfl rfl ⟨_, ⟨rfl, rfl⟩, hO.only []⟩
theorem wVoid_spec {s : ByteArray} (hO : Own k w []) : Tri Try.prog 39 #[.string s] k w fun v m => v = .bool (inL voidL s) ∧ m = [] := by
  refine enter (args := [.string s]) Try.func39 rfl rfl ?_
  refine K0 (K1 ?_)
  refine l_y rfl rfl (y_assign rfl) ?_
  refine K2 (K3 (K0 (K1 ?_)))
  refine CK [] hO rfl (fun k' hx hr hO' => wvoids_spec (hO := hO')) ?_
  rintro _ _ w ⟨rfl, rfl⟩ hO
  simp only [List.cons_append, List.nil_append] at hO
  refine s_alloc (vs := [.string ⟨#[]⟩, .string ⟨#[]⟩, .string ⟨#[]⟩, .string ⟨#[]⟩, .string ⟨#[]⟩, .string ⟨#[]⟩, .string ⟨#[]⟩, .string ⟨#[]⟩, .string ⟨#[]⟩, .string ⟨#[]⟩, .string ⟨#[]⟩, .string ⟨#[]⟩, .string ⟨#[]⟩, .string ⟨#[]⟩, .string ⟨#[]⟩, .string ⟨#[]⟩, .string ⟨#[]⟩, .string ⟨#[]⟩]) hO rfl rfl rfl fun b3 w hO => ?_
  refine Y3 hO rfl rfl (fun w hO => ?_)
  refine K2 (K3 (K0 (K1 ?_)))
  refine l_y rfl rfl (y_sliceA rfl) ?_
  refine l_y rfl rfl (y_move rfl) ?_
  refine CK [] hO rfl (fun k' hx hr hO' => win_spec (l := voidL) (blk_ro (b := _) hr) (by decide) (hO := hO')) ?_
  rintro _ _ w ⟨rfl, rfl⟩ hO
  simp only [List.cons_append, List.nil_append] at hO
  refine l_y rfl rfl (y_assign rfl) ?_
  refine K2 (K3 (K6 ?_))
  exact fin1 rfl rfl ⟨_, ⟨rfl, rfl⟩, hO.only []⟩
def plainL : List ByteArray := [⟨#[115, 116, 121, 108, 101]⟩, ⟨#[115, 99, 114, 105, 112, 116]⟩, ⟨#[120, 109, 112]⟩, ⟨#[105, 102, 114, 97, 109, 101]⟩, ⟨#[110, 111, 101, 109, 98, 101, 100]⟩, ⟨#[110, 111, 102, 114, 97, 109, 101, 115]⟩, ⟨#[112, 108, 97, 105, 110, 116, 101, 120, 116]⟩]
def noscriptS : ByteArray := ⟨#[110, 111, 115, 99, 114, 105, 112, 116]⟩
def plainB (s : ByteArray) (b : Bool) : Bool := inL plainL s || (b && decide (s = noscriptS))
theorem wplains_spec (hO : Own k w []) : Tri Try.prog 90 #[] k w fun v m => v = .agg (plainL.map Value.string).toArray ∧ m = [] := by
  refine enter (args := []) Try.func90 rfl rfl ?_
  refine K0 (K1 ?_)
  refine s_alloc (vs := [.string ⟨#[]⟩, .string ⟨#[]⟩, .string ⟨#[]⟩, .string ⟨#[]⟩, .string ⟨#[]⟩, .string ⟨#[]⟩, .string ⟨#[]⟩]) hO rfl rfl rfl fun b0 w hO => ?_
  refine K2 (K3 (K0 (K1 ?_)))
  refine s_build (parts := [(0, .const (.string ⟨#[115, 116, 121, 108, 101]⟩)), (1, .const (.string ⟨#[115, 99, 114, 105, 112, 116]⟩)), (2, .const (.string ⟨#[120, 109, 112]⟩)), (3, .const (.string ⟨#[105, 102, 114, 97, 109, 101]⟩)), (4, .const (.string ⟨#[110, 111, 101, 109, 98, 101, 100]⟩)), (5, .const (.string ⟨#[110, 111, 102, 114, 97, 109, 101, 115]⟩)), (6, .const (.string ⟨#[112, 108, 97, 105, 110, 116, 101, 120, 116]⟩))]) (cs := [.string ⟨#[115, 116, 121, 108, 101]⟩, .string ⟨#[115, 99, 114, 105, 112, 116]⟩, .string ⟨#[120, 109, 112]⟩, .string ⟨#[105, 102, 114, 97, 109, 101]⟩, .string ⟨#[110, 111, 101, 109, 98, 101, 100]⟩, .string ⟨#[110, 111, 102, 114, 97, 109, 101, 115]⟩, .string ⟨#[112, 108, 97, 105, 110, 116, 101, 120, 116]⟩]) rfl rfl (fun a ha => partsOf_sound ha _ _ rfl) (by kernel_rfl) ?_
  refine Y3 hO rfl rfl (fun w hO => ?_)
  refine K2 (K3 (K6 ?_))
  exact finC hO rfl rfl ⟨_, ⟨rfl, rfl⟩, hO.only []⟩
theorem wPlain_spec {s : ByteArray} {b : Bool} (hO : Own k w []) : Tri Try.prog 71 #[.string s, .bool b] k w fun v m => v = .bool (plainB s b) ∧ m = [] := by
  refine enter (args := [.string s, .bool b]) Try.func71 rfl rfl ?_
  refine K0 (K1 ?_)
  refine l_y rfl rfl (y_assign rfl) ?_
  refine K2 (K3 (K0 (K1 ?_)))
  refine CK [] hO rfl (fun k' hx hr hO' => wplains_spec (hO := hO')) ?_
  rintro _ _ w ⟨rfl, rfl⟩ hO
  simp only [List.cons_append, List.nil_append] at hO
  refine s_alloc (vs := [.string ⟨#[]⟩, .string ⟨#[]⟩, .string ⟨#[]⟩, .string ⟨#[]⟩, .string ⟨#[]⟩, .string ⟨#[]⟩, .string ⟨#[]⟩]) hO rfl rfl rfl fun b5 w hO => ?_
  refine Y3 hO rfl rfl (fun w hO => ?_)
  refine K2 (K3 (K0 (K1 ?_)))
  refine l_y rfl rfl (y_sliceA rfl) ?_
  refine l_y rfl rfl (y_move rfl) ?_
  refine CK [] hO rfl (fun k' hx hr hO' => win_spec (l := plainL) (blk_ro (b := _) hr) (by decide) (hO := hO')) ?_
  rintro _ _ w ⟨rfl, rfl⟩ hO
  simp only [List.cons_append, List.nil_append] at hO
  refine l_y rfl rfl (y_move rfl) ?_
  refine l_split 10 rfl (fun hg10 => ?_) (fun hg10 => ?_)
  · repeat refine M2 ?_
    refine l_y rfl rfl (y_pick_t rfl rfl) ?_
    refine l_y rfl rfl (y_assign rfl) ?_
    refine K2 (K3 (K6 ?_))
    refine fin1 rfl rfl ⟨_, ⟨?_, rfl⟩, hO.only []⟩
    unfold plainB
    simp only [noscriptS] at *
    simp [*]
  · refine l_y rfl rfl (y_move rfl) ?_
    refine l_y rfl rfl (y_move rfl) ?_
    refine l_split 12 rfl (fun hg12 => ?_) (fun hg12 => ?_)
    · refine l_y rfl rfl (y_move rfl) ?_
      refine Z2 (fun h2_7 => ?_) (fun h2_7 => ?_)
      · refine l_y rfl rfl (y_pick_t rfl rfl) ?_
        refine l_y rfl rfl (y_pick_f rfl rfl) ?_
        refine l_y rfl rfl (y_assign rfl) ?_
        refine K2 (K3 (K6 ?_))
        refine fin1 rfl rfl ⟨_, ⟨?_, rfl⟩, hO.only []⟩
        unfold plainB
        simp only [noscriptS] at *
        simp [*]
      · refine l_y rfl rfl (y_pick_t rfl rfl) ?_
        refine l_y rfl rfl (y_pick_f rfl rfl) ?_
        refine l_y rfl rfl (y_assign rfl) ?_
        refine K2 (K3 (K6 ?_))
        refine fin1 rfl rfl ⟨_, ⟨?_, rfl⟩, hO.only []⟩
        unfold plainB
        simp only [noscriptS] at *
        simp [*]
    · repeat refine M2 ?_
      refine l_y rfl rfl (y_pick_f rfl rfl) ?_
      refine l_y rfl rfl (y_pick_f rfl rfl) ?_
      refine l_y rfl rfl (y_assign rfl) ?_
      refine K2 (K3 (K6 ?_))
      refine fin1 rfl rfl ⟨_, ⟨?_, rfl⟩, hO.only []⟩
      unfold plainB
      simp only [noscriptS] at *
      simp [*]
def shownS (x : Api_attr) : ByteArray := if x.Space = 3 then (⟨#[120, 108, 105, 110, 107, 58]⟩ : ByteArray) ++ x.Name else if x.Space = 4 then (⟨#[120, 109, 108, 58]⟩ : ByteArray) ++ x.Name else if x.Space = 5 ∧ x.Name ≠ (⟨#[120, 109, 108, 110, 115]⟩ : ByteArray) then (⟨#[120, 109, 108, 110, 115, 58]⟩ : ByteArray) ++ x.Name else x.Name
theorem shown_spec {x : Api_attr} (hl : x.Name.size ≤ 1000000000) (hO : Own k w []) : Tri Try.prog 91 #[.agg (Api_attr.cells x).toArray] k w fun v m => v = .string (shownS x) ∧ m = [] := by
  refine enter (args := [.agg (Api_attr.cells x).toArray]) Try.func91 rfl rfl ?_
  refine K0 (K1 ?_)
  refine s_box (vs := [.int .i64 x.Space, .string x.Prefix, .string x.Name, .string x.Value]) hO rfl rfl rfl (by rfl) fun b1 w hO => ?_
  refine l_y rfl rfl (y_assign rfl) ?_
  refine K2 (K3 (K0 (K4 (K0 (K1 ?_)))))
  refine l_y rfl rfl (y_fldb (o' := 0) rfl) ?_
  refine l_y rfl rfl (D5 hO rfl) ?_
  refine Z0 (fun h1_2 => ?_) (fun h1_2 => ?_)
  · refine l_y rfl rfl (y_assign rfl) ?_
    refine K2 (K3 (L8 (K0 (K1 ?_))))
    refine l_y rfl rfl (y_fldb (o' := 2) rfl) ?_
    refine l_y rfl rfl (D5 hO rfl) ?_
    refine l_y rfl rfl (y_catS rfl rfl (by have e : (⟨#[120, 108, 105, 110, 107, 58]⟩ : ByteArray).size = 6 := rfl; omega)) ?_
    refine l_y rfl rfl (y_assign rfl) ?_
    refine K2 (K3 (K6 (L0 (K9 ?_))))
    exact fin1 rfl rfl ⟨_, ⟨by rw [shownS, if_pos h1_2], rfl⟩, hO.only []⟩
  · refine l_y rfl rfl (y_assign rfl) ?_
    refine K2 (K3 (L9 (K0 (K1 ?_))))
    refine l_y rfl rfl (y_fldb (o' := 0) rfl) ?_
    refine l_y rfl rfl (D5 hO rfl) ?_
    refine Z0 (fun h3_2 => ?_) (fun h3_2 => ?_)
    · refine l_y rfl rfl (y_assign rfl) ?_
      refine K2 (K3 (L8 (K0 (K1 ?_))))
      refine l_y rfl rfl (y_fldb (o' := 2) rfl) ?_
      refine l_y rfl rfl (D5 hO rfl) ?_
      refine l_y rfl rfl (y_catS rfl rfl (by have e : (⟨#[120, 109, 108, 58]⟩ : ByteArray).size = 4 := rfl; omega)) ?_
      refine l_y rfl rfl (y_assign rfl) ?_
      refine K2 (K3 (K6 (L0 (K9 ?_))))
      exact fin1 rfl rfl ⟨_, ⟨by rw [shownS, if_neg h1_2, if_pos h3_2], rfl⟩, hO.only []⟩
    · refine l_y rfl rfl (y_assign rfl) ?_
      refine K2 (K3 (L9 (K0 (K1 ?_))))
      refine l_y rfl rfl (y_fldb (o' := 0) rfl) ?_
      refine l_y rfl rfl (D5 hO rfl) ?_
      refine Z0 (fun h5_2 => ?_) (fun h5_2 => ?_)
      · refine l_y rfl rfl (y_move rfl) ?_
        refine l_y rfl rfl (y_fldb (o' := 2) rfl) ?_
        refine l_y rfl rfl (D5 hO rfl) ?_
        refine Z3 (fun h5_6 => ?_) (fun h5_6 => ?_)
        · refine l_y rfl rfl (y_pick_t rfl rfl) ?_
          refine l_y rfl rfl (y_assign rfl) ?_
          refine K2 (K3 (L8 (K0 (K1 ?_))))
          refine l_y rfl rfl (y_fldb (o' := 2) rfl) ?_
          refine l_y rfl rfl (D5 hO rfl) ?_
          refine l_y rfl rfl (y_catS rfl rfl (by have e : (⟨#[120, 109, 108, 110, 115, 58]⟩ : ByteArray).size = 6 := rfl; omega)) ?_
          refine l_y rfl rfl (y_assign rfl) ?_
          refine K2 (K3 (K6 (L0 (K9 ?_))))
          exact fin1 rfl rfl ⟨_, ⟨by rw [shownS, if_neg h1_2, if_neg h3_2, if_pos ⟨h5_2, h5_6⟩], rfl⟩, hO.only []⟩
        · refine l_y rfl rfl (y_pick_t rfl rfl) ?_
          refine l_y rfl rfl (y_assign rfl) ?_
          refine K2 (K3 (L9 (K5 (K8 (K3 (K0 (K1 ?_)))))))
          refine l_y rfl rfl (y_fldb (o' := 2) rfl) ?_
          refine l_y rfl rfl (D5 hO rfl) ?_
          refine l_y rfl rfl (y_assign rfl) ?_
          refine K2 (K3 (K6 ?_))
          exact fin1 rfl rfl ⟨_, ⟨by rw [shownS, if_neg h1_2, if_neg h3_2, if_neg (fun h => by first | exact h5_2 h.1 | exact h.2 h5_6)], rfl⟩, hO.only []⟩
      · refine l_y rfl rfl (y_move rfl) ?_
        repeat refine M2 ?_
        refine l_y rfl rfl (y_pick_f rfl rfl) ?_
        refine l_y rfl rfl (y_assign rfl) ?_
        refine K2 (K3 (L9 (K5 (K8 (K3 (K0 (K1 ?_)))))))
        refine l_y rfl rfl (y_fldb (o' := 2) rfl) ?_
        refine l_y rfl rfl (D5 hO rfl) ?_
        refine l_y rfl rfl (y_assign rfl) ?_
        refine K2 (K3 (K6 ?_))
        exact fin1 rfl rfl ⟨_, ⟨by rw [shownS, if_neg h1_2, if_neg h3_2, if_neg (fun h => by first | exact h5_2 h.1 | exact h.2 h5_6)], rfl⟩, hO.only []⟩
def htmlB (n : Api_node) (is : ByteArray → Bool) : Bool := decide (n.Kind = 1) && decide (n.Space = 0) && is n.Name
theorem html_spec {n : Api_node} {f : FuncId} [hf : Fun Try.prog f] {caps : List Value} {C : List HP} {is : ByteArray → Bool}
    (hcall : ∀ k' w', Own k' w' [sep C] → Tri Try.prog f ([Value.string n.Name] ++ caps).toArray k' w' fun v m => v = .bool (is n.Name) ∧ m = [sep C]) (hO : Own k w [sep C]) :
    Tri Try.prog 69 #[.agg (Api_node.cells n).toArray, .func (.func f) #[] caps.toArray] k w fun v m => v = .bool (htmlB n is) ∧ m = [sep C] := by
  refine enter (args := [.agg (Api_node.cells n).toArray, .func (.func f) #[] caps.toArray]) Try.func69 rfl rfl ?_
  refine K0 (K1 ?_)
  refine s_box (vs := [.int .i64 n.Kind, .int .i64 n.Space, .string n.Name, .slice n.AttrsP n.Attrs.length n.AttrsC, .string n.Data, .string n.System, .int .i64 n.Parent, .int .i64 n.First, .int .i64 n.Last, .int .i64 n.Prev, .int .i64 n.Next, .int .i64 n.Inner]) hO rfl rfl rfl (by rfl) fun b2 w hO => ?_
  refine l_y rfl rfl (y_assign rfl) ?_
  refine K2 (K3 (K0 (K1 ?_)))
  refine l_y rfl rfl (y_fldb (o' := 0) rfl) ?_
  refine l_y rfl rfl (D5 hO rfl) ?_
  refine Z0 (fun h1_2 => ?_) (fun h1_2 => ?_)
  · refine l_y rfl rfl (y_move rfl) ?_
    refine l_y rfl rfl (y_fldb (o' := 1) rfl) ?_
    refine l_y rfl rfl (D5 hO rfl) ?_
    refine Z0 (fun h1_6 => ?_) (fun h1_6 => ?_)
    · refine l_y rfl rfl (y_pick_t rfl rfl) ?_
      refine l_y rfl rfl (y_move rfl) ?_
      refine l_y rfl rfl (y_move rfl) ?_
      refine l_y rfl rfl (y_fldb (o' := 2) rfl) ?_
      refine l_y rfl rfl (D5 hO rfl) ?_
      refine CKv [.s] hO rfl rfl (fun k' hx hr hO' => hcall k' _ hO') ?_
      rintro _ _ w ⟨rfl, rfl⟩ hO
      simp only [List.cons_append, List.nil_append] at hO
      refine l_y rfl rfl (y_pick_t rfl rfl) ?_
      refine l_y rfl rfl (y_assign rfl) ?_
      refine K2 (K3 (K6 ?_))
      refine fin1 rfl rfl ⟨_, ⟨?_, rfl⟩, hO.only [.s]⟩
      rw [htmlB]
      first | simp [h1_2, h1_6] | simp [h1_2]
    · refine l_y rfl rfl (y_pick_t rfl rfl) ?_
      refine l_y rfl rfl (y_move rfl) ?_
      repeat refine M2 ?_
      refine l_y rfl rfl (y_pick_f rfl rfl) ?_
      refine l_y rfl rfl (y_assign rfl) ?_
      refine K2 (K3 (K6 ?_))
      refine fin1 rfl rfl ⟨_, ⟨?_, rfl⟩, hO.only [.s]⟩
      rw [htmlB]
      first | simp [h1_2, h1_6] | simp [h1_2]
  · refine l_y rfl rfl (y_move rfl) ?_
    repeat refine M2 ?_
    refine l_y rfl rfl (y_pick_f rfl rfl) ?_
    refine l_y rfl rfl (y_move rfl) ?_
    repeat refine M2 ?_
    refine l_y rfl rfl (y_pick_f rfl rfl) ?_
    refine l_y rfl rfl (y_assign rfl) ?_
    refine K2 (K3 (K6 ?_))
    refine fin1 rfl rfl ⟨_, ⟨?_, rfl⟩, hO.only [.s]⟩
    rw [htmlB]
    first | simp [h1_2, h1_6] | simp [h1_2]
end
end Go.Proofs.Ythkmnohghpdjhaa
