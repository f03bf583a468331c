/- The walks of Inner, both; the law's arenas. -/
import Derived.Test.YthkmnohghpdjhaaWtx7
set_option linter.unusedVariables false
set_option linter.unusedSimpArgs false
set_option maxRecDepth 100000
namespace Go.Proofs.Ythkmnohghpdjhaa
open Go Go.Hb Go.RowKit
section
variable {k : Ctx} {w : World}
/-- what Inner answers -/
def innR (A : List Node_one) (K : Int → List Int) (sc : Bool) (id : Int) : ByteArray × Int := if hasB A id = true then (ba (innT A K sc (outT A K sc A.length) id), 0) else (⟨#[]⟩, 6)
theorem NodeNo_spec {a : Nat} {A : List Node_one} {id : Int} (h0 : 0 < A.length) (hi : hasB A id = false) (ha : AttrsOk A) (hO : Own k w [arenaL a A]) :
    Tri Try.prog 34 #[.pointer (some ⟨a, 0, none⟩), .int .i64 id] k w fun v m => v = .tuple #[.agg (Api_node.cells default).toArray, .int .i64 6] ∧ m = [arenaL a A] := by
  refine (Node_spec h0 ha hO).mono ?_
  rintro v m (⟨h, rfl, rfl⟩ | ⟨h, _⟩)
  · exact ⟨rfl, rfl⟩
  · rw [hi] at h; cases h
theorem wInnerNo_spec {a : Nat} {A : List Node_one} {id : Int} {sc : Bool} (h0 : 0 < A.length) (hi : hasB A id = false) (ha : AttrsOk A) (hO : Own k w [arenaL a A]) :
    Tri Try.prog 13 #[.pointer (some ⟨a, 0, none⟩), .int .i64 id, .bool sc] k w fun v m => v = .tuple #[.string ⟨#[]⟩, .int .i64 6] ∧ m = [arenaL a A] := by
  refine enter (args := [.pointer (some ⟨a, 0, none⟩), .int .i64 id, .bool sc]) Try.func13 rfl rfl ?_
  refine K0 (K1 ?_)
  refine l_y rfl rfl (y_assign rfl) ?_
  refine l_y rfl rfl (y_assign rfl) ?_
  refine K2 (K3 (K0 (K0 (K1 ?_))))
  refine l_y rfl rfl (y_move rfl) ?_
  refine l_y rfl rfl (y_move rfl) ?_
  refine CK [.o a] hO rfl (fun k' hx hr hO' => NodeNo_spec h0 hi ha hO') ?_
  rintro _ _ w ⟨rfl, rfl⟩ hO
  simp only [List.cons_append, List.nil_append] at hO
  refine l_y rfl rfl (y_move rfl) ?_
  refine l_y rfl rfl (y_extract rfl rfl) ?_
  refine l_y rfl rfl (y_extract rfl rfl) ?_
  refine s_alloc (vs := [.int .i64 0, .int .i64 0, .string ⟨#[]⟩, .slice none 0 0, .string ⟨#[]⟩, .string ⟨#[]⟩, .int .i64 0, .int .i64 0, .int .i64 0, .int .i64 0, .int .i64 0, .int .i64 0]) hO rfl rfl rfl fun b8 w hO => ?_
  refine Y3 hO rfl rfl (fun w hO => ?_)
  refine l_y rfl rfl (y_assign rfl) ?_
  refine K2 (K3 (K0 (K1 ?_)))
  refine l_y rfl rfl (y_move rfl) ?_
  refine N5 ?_
  refine K2 (K3 (L8 (K0 (K1 ?_))))
  refine l_y rfl rfl (y_move rfl) ?_
  refine l_y rfl rfl (y_assign rfl) ?_
  refine l_y rfl rfl (y_assign rfl) ?_
  refine K2 (K3 (K6 (K9 ?_)))
  exact fin2 rfl rfl rfl ⟨_, ⟨rfl, rfl⟩, hO.only [.o a]⟩
theorem wInnerOk_spec {a : Nat} {A : List Node_one} {K : Int → List Int} {id : Int} {sc : Bool} (t : TxOk A K) (hlen : A.length ≤ 1000) (hi : InA A id) (hO : Own k w [arenaL a A]) :
    Tri Try.prog 13 #[.pointer (some ⟨a, 0, none⟩), .int .i64 id, .bool sc] k w fun v m => v = .tuple #[.string (ba (innT A K sc (outT A K sc A.length) id)), .int .i64 0] ∧ m = [arenaL a A] := by
  refine enter (args := [.pointer (some ⟨a, 0, none⟩), .int .i64 id, .bool sc]) Try.func13 rfl rfl ?_
  have hcl := cnt_le (A := A) (x := id)
  have h4 : CT * cnt A id ≤ CT * 1000 := Nat.mul_le_mul_left _ (Nat.le_trans hcl hlen)
  have h5 : CT * 1000 = 8589934592000 := rfl
  have hCT : CT = 8589934592 := rfl
  have hil := innT_len t sc A.length hi
  refine K0 (K1 ?_)
  refine l_y rfl rfl (y_assign rfl) ?_
  refine l_y rfl rfl (y_assign rfl) ?_
  refine K2 (K3 (K0 (K0 (K1 ?_))))
  refine l_y rfl rfl (y_move rfl) ?_
  refine l_y rfl rfl (y_move rfl) ?_
  refine CK [.o a] hO rfl (fun k' hx hr hO' => NodeI_spec hi t.tree.attrs (hO := hO')) ?_
  rintro _ _ w ⟨n, hn, rfl, rfl⟩ hO
  simp only [List.cons_append, List.nil_append] at hO
  refine l_y rfl rfl (y_move rfl) ?_
  refine l_y rfl rfl (y_extract rfl rfl) ?_
  refine l_y rfl rfl (y_extract rfl rfl) ?_
  refine s_alloc (vs := [.int .i64 0, .int .i64 0, .string ⟨#[]⟩, .slice none 0 0, .string ⟨#[]⟩, .string ⟨#[]⟩, .int .i64 0, .int .i64 0, .int .i64 0, .int .i64 0, .int .i64 0, .int .i64 0]) hO rfl rfl rfl fun b8 w hO => ?_
  refine Y3 hO rfl rfl (fun w hO => ?_)
  refine l_y rfl rfl (y_assign rfl) ?_
  refine K2 (K3 (K0 (K1 ?_)))
  refine l_y rfl rfl (y_move rfl) ?_
  refine N4 ?_
  refine K2 (K3 (L9 (K5 (K3 (K0 (K1 ?_))))))
  refine l_y rfl rfl (y_move rfl) ?_
  refine l_y rfl rfl (y_move rfl) ?_
  refine s_build (parts := [(1, .tmp 20), (2, .tmp 21)]) (cs := [.pointer none, .slice none 0 0, .pointer (some ⟨a, 0, none⟩), .bool sc]) rfl rfl (fun a ha => partsOf_sound ha _ _ rfl) (by kernel_rfl) ?_
  refine s_box (vs := [.pointer none, .slice none 0 0, .pointer (some ⟨a, 0, none⟩), .bool sc]) hO rfl rfl rfl (by rfl) fun b23 w hO => ?_
  refine l_y rfl rfl (y_assign rfl) ?_
  refine K2 (K3 (K0 ?_))
  have hO := sl_nil 5 1 (hO.ks [.b b23])
  have hO := wrtL_shut (bs := []) ⟨.inl rfl, by simp, fun a n c e => by cases e⟩ hO.swap
  refine K1 ?_
  refine l_y rfl rfl (y_move rfl) ?_
  refine l_y rfl rfl (y_move rfl) ?_
  refine CK [.o b23, .o a] hO rfl (fun k' hx hr hO' => winner_spec t (by omega) (wouter_all t (by omega) A.length) hi (by omega) (by rw [List.length_nil]; omega) hO') ?_
  rintro _ _ w rfl hO
  simp only [List.cons_append, List.nil_append] at hO
  refine K2 (K3 (K0 (K1 ?_)))
  refine l_y rfl rfl (y_move rfl) ?_
  refine l_y rfl rfl (y_nilCheck rfl rfl) ?_
  refine l_y rfl rfl (y_fldb (o' := 0) rfl) ?_
  refine CK [.o b23] hO rfl (fun k' hx hr hO' => wString_spec (by omega) hO') ?_
  rintro _ _ w ⟨rfl, rfl⟩ hO
  simp only [List.cons_append, List.nil_append] at hO
  refine l_y rfl rfl (y_assign rfl) ?_
  refine l_y rfl rfl (y_assign rfl) ?_
  refine K2 (K3 (K6 ?_))
  exact fin2 rfl rfl rfl ⟨_, ⟨rfl, rfl⟩, hO.only [.o a]⟩
theorem wInner_spec {a : Nat} {A : List Node_one} {K : Int → List Int} {id : Int} {sc : Bool} (t : TxOk A K) (h0 : 0 < A.length) (hlen : A.length ≤ 1000) (hO : Own k w [arenaL a A]) :
    Tri Try.prog 13 #[.pointer (some ⟨a, 0, none⟩), .int .i64 id, .bool sc] k w fun v m => v = .tuple #[.string (innR A K sc id).1, .int .i64 (innR A K sc id).2] ∧ m = [arenaL a A] := by
  unfold innR
  cases h : hasB A id with
  | true => exact wInnerOk_spec t hlen (inA_iff.1 h) hO
  | false => exact wInnerNo_spec h0 h t.tree.attrs hO
theorem rInner_spec {r : Nat} {A : List Node_one} {K : Int → List Int} {R : List Ref01_one} {id : Int} {sc : Bool} (t : TxOk A K) (s : Sim A K R) (hlen : A.length ≤ 1000) (hO : Own k w [rarL r R]) :
    Tri Try.prog 17 #[.pointer (some ⟨r, 0, none⟩), .int .i64 id, .bool sc] k w fun v m => v = .tuple #[.string (innR A K sc id).1, .int .i64 (innR A K sc id).2] ∧ m = [rarL r R] := by
  refine enter (args := [.pointer (some ⟨r, 0, none⟩), .int .i64 id, .bool sc]) Try.func17 rfl rfl ?_
  obtain ⟨p, c, F, hg, hF, hO⟩ := rarL_open hO
  have ra : RArg A K R p F := ⟨t, s, hg, hF, by omega⟩
  have hcl := cnt_le (A := A) (x := id)
  refine K0 (K1 ?_)
  refine l_y rfl rfl (y_assign rfl) ?_
  refine l_y rfl rfl (y_assign rfl) ?_
  refine K2 (K3 (K0 (K0 (K1 ?_))))
  refine l_y rfl rfl (y_move rfl) ?_
  refine l_y rfl rfl (y_move rfl) ?_
  refine CK [.b r, .p p] hO rfl (fun k' hx hr hO' => IsA_spec s hO') ?_
  rintro _ _ w ⟨rfl, rfl⟩ hO
  simp only [List.cons_append, List.nil_append] at hO
  refine l_y rfl rfl (y_not rfl rfl) ?_
  refine K2 (K3 ?_)
  refine c_split rfl (fun hc11 => ?_) (fun hc11 => ?_)
  · simp only [Bool.not_eq_true', Bool.not_eq_false'] at hc11
    refine K0 (K1 ?_)
    refine l_y rfl rfl (y_assign rfl) ?_
    refine l_y rfl rfl (y_assign rfl) ?_
    refine K2 (K3 (K6 (K9 ?_)))
    exact fin2 rfl rfl rfl ⟨_, ⟨by rw [innR, hc11, if_neg (by simp)], rfl⟩, (rarL_shut hF (hO.ks [.b r, .p p, .f])).one⟩
  · simp only [Bool.not_eq_true', Bool.not_eq_false'] at hc11
    refine K5 (K3 (K0 (K1 ?_)))
    refine l_y rfl rfl (y_move rfl) ?_
    refine l_y rfl rfl (y_move rfl) ?_
    refine l_y rfl rfl (y_move rfl) ?_
    refine CK [.b r, .p p, .f] hO rfl (fun k' hx hr hO' => rbelow_spec ra (rone_all ra A.length) (inA_iff.1 hc11) (by omega) hO') ?_
    rintro _ _ w ⟨rfl, rfl⟩ hO
    simp only [List.cons_append, List.nil_append] at hO
    refine l_y rfl rfl (y_assign rfl) ?_
    refine l_y rfl rfl (y_assign rfl) ?_
    refine K2 (K3 (K6 ?_))
    exact fin2 rfl rfl rfl ⟨_, ⟨by rw [innR, if_pos hc11], rfl⟩, (rarL_shut hF (hO.ks [.b r, .p p, .f])).one⟩
theorem awake17_spec (hO : Own k w []) : Tri Try.prog 15 #[] k w fun v m => v = .bool true ∧ m = [] := by
  refine enter (args := []) Try.func15 rfl rfl ?_
  refine K0 (K1 ?_)
  refine l_y rfl rfl (y_assign rfl) ?_
  refine K2 (K3 (K0 (K1 ?_)))
  refine CK [] hO rfl (fun k' hx hr hO' => wVoid_spec hO') ?_
  rintro _ _ w ⟨rfl, rfl⟩ hO
  simp only [List.cons_append, List.nil_append] at hO
  rw [show inL voidL ⟨#[98, 114]⟩ = true from by decide]
  refine l_y rfl rfl (y_move rfl) ?_
  refine CK [] hO rfl (fun k' hx hr hO' => wVoid_spec hO') ?_
  rintro _ _ w ⟨rfl, rfl⟩ hO
  simp only [List.cons_append, List.nil_append] at hO
  rw [show inL voidL ⟨#[112]⟩ = false from by decide]
  refine l_y rfl rfl (y_not rfl rfl) ?_
  refine l_y rfl rfl (y_pick_t rfl rfl) ?_
  refine l_y rfl rfl (y_assign rfl) ?_
  refine K2 (K3 (K6 ?_))
  exact fin1 rfl rfl ⟨_, ⟨rfl, rfl⟩, hO.only []⟩
end
end Go.Proofs.Ythkmnohghpdjhaa
