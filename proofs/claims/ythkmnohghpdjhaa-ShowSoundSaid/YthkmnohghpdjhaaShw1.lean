/- The walks of Show: what pushes a node's children; Show of a node without any. -/
import Derived.Test.YthkmnohghpdjhaaWtx8
import Derived.Test.YthkmnohghpdjhaaSmd3
import Derived.Test.YthkmnohghpdjhaaSmd5
set_option linter.unusedVariables false
set_option linter.unusedSimpArgs false
set_option maxRecDepth 100000
namespace Go.Proofs.Ythkmnohghpdjhaa
open Go Go.Hb Go.RowKit
instance (priority := high) AtK.hbldr (b : Nat) (bs : List UInt8) (l : List HP) : AtK (bldr b bs :: l) (.o b) (bldr b bs) l := ⟨.hd _ l⟩
section
variable {k : Ctx} {w : World}
theorem bldr_new {l : List HP} {b : Nat} (hO : Own k w (blk b 76 [.pointer none, .slice none 0 0] :: l)) : Own k w (bldr b [] :: l) :=
  bldr_shut ⟨.inl rfl, by simp, fun a n c e => by cases e⟩ (sl_nil 5 1 hO).swap
def kidI (depth : Int) (c : Int) : Show_item := ⟨c, depth, ⟨#[]⟩⟩
theorem rev_take {l : List Int} {i : Nat} (h : i < l.length) : l.reverse.take (i + 1) = l.reverse.take i ++ [at_ l (l.length - 1 - i)] := by
  rw [take_succ_at (by simpa using h)]
  congr 2
  refine at_eq ?_
  rw [List.getElem?_reverse (by simpa using h), at_get (by omega)]
set_option maxHeartbeats 1000000 in
theorem below_spec {a b2 b10 : Nat} {A : List Node_one} {K : Int → List Int} {xs : List Show_item} {id depth : Int} (t : Tree A K) (hi : InA A id) (hl : A.length ≤ 1000) (hx : xs.length ≤ 10000) (hO : Own k w [blk b2 23 [.pointer (some ⟨a, 0, none⟩)], arenaL a A, pileitem b10 xs]) :
    Tri Try.prog 53 #[.int .i64 id, .int .i64 depth, .pointer (some ⟨b2, 0, none⟩), .pointer (some ⟨b10, 0, none⟩)] k w fun v m => m = [blk b2 23 [.pointer (some ⟨a, 0, none⟩)], arenaL a A, pileitem b10 (xs ++ (K id).reverse.map (kidI depth))] := by
  refine enter (args := [.int .i64 id, .int .i64 depth, .pointer (some ⟨b2, 0, none⟩), .pointer (some ⟨b10, 0, none⟩)]) Try.func53 rfl rfl ?_
  have hkl := t.len hi
  refine K0 (K1 ?_)
  refine l_y rfl rfl (D5 hO rfl) ?_
  refine l_y rfl rfl (y_move rfl) ?_
  refine CK [.o a] hO rfl (fun k' hx hr hO' => KidsT_spec t hi (by omega) hO') ?_
  rintro _ _ w ⟨q, d, rfl, rfl⟩ hO
  simp only [List.cons_append, List.nil_append] at hO
  have hg := (sls_fct (p := q) hO).2
  rw [show xs = xs ++ ((K id).reverse.take 0).map (kidI depth) by simp] at hO
  refine l_y rfl rfl (y_assign rfl) ?_
  refine K2 (K3 (K0 (K1 ?_)))
  refine l_y rfl rfl (y_move rfl) ?_
  refine l_y rfl rfl (y_lenL rfl) ?_
  refine l_y rfl rfl (y_move rfl) ?_
  refine K2 (K3 (K4 ?_))
  refine c_rounds (X := Nat) (fun i => [(1, .int .i64 depth), (3, .pointer (some ⟨b10, 0, none⟩)), (6, .slice q (K id).length d), (12, .int .i64 (((K id).length : Nat) : Int)), (13, .int .i64 (i : Int))]) (fun i w => Own k w [blk b2 23 [.pointer (some ⟨a, 0, none⟩)], arenaL a A, pileitem b10 (xs ++ ((K id).reverse.take i).map (kidI depth)), sls q d 3 1 (eI .i64) (K id)] ∧ (i ≤ (K id).length)) (fun i => (K id).length - i) (0) ⟨rfl, rfl, rfl, rfl, rfl, trivial⟩ ⟨hO.only [.b b2, .o a, .o b10, .p q], Nat.zero_le _⟩ ?_
  rintro i w m hm ⟨hO, hil⟩
  refine K0 (K1 ?_)
  refine Z0 (fun h2_0 => ?_) (fun h2_0 => ?_)
  · refine K2 (K3 (K0 (L8 (K5 (K3 (K0 (K4 (K0 (K1 ?_)))))))))
    refine l_y rfl rfl (y_move rfl) ?_
    refine l_y rfl rfl (y_assign rfl) ?_
    refine K2 (K3 (K1 ?_))
    refine l_y rfl rfl (y_move rfl) ?_
    refine l_y rfl rfl (y_move rfl) ?_
    refine l_y rfl rfl (y_lenL rfl) ?_
    refine l_y rfl rfl (D4) ?_
    refine l_y rfl rfl (y_move rfl) ?_
    refine l_y rfl rfl (D4) ?_
    refine l_y rfl rfl (y_idx rfl rfl) ?_
    refine l_y rfl rfl (y_e1 (x0 := 0) hO rfl) ?_
    refine l_y rfl rfl (y_move rfl) ?_
    refine s_build (parts := [(0, .tmp 23), (1, .tmp 24)]) (cs := [.int .i64 (at_ (K id) ((((((K id).length : Nat) : Int) - 1) - (i : Int)) : Int).toNat), .int .i64 depth, .string ⟨#[]⟩]) rfl rfl (fun a ha => partsOf_sound ha _ _ rfl) (by kernel_rfl) ?_
    refine s_lit (parts := [(0, .tmp 25)]) (enc := Show_item.cells) [⟨(at_ (K id) ((((((K id).length : Nat) : Int) - 1) - (i : Int)) : Int).toNat), depth, ⟨#[]⟩⟩] [.agg [.int .i64 (at_ (K id) ((((((K id).length : Nat) : Int) - 1) - (i : Int)) : Int).toNat), .int .i64 depth, .string ⟨#[]⟩].toArray] hO rfl (fun b26 w hO => ?_)
    refine CK [.o b10] hO rfl (fun k' hx' hr hO' => pushitem_spec (ys := [kidI depth (at_ (K id) ((K id).length - 1 - i))]) (by
        have := sls_roK (p := some ⟨b26, 0, none⟩) hr (sls_fct hO)
        rw [show (((K id).length : Int) - 1 - (i : Int)).toNat = (K id).length - 1 - i by omega] at this
        exact this) (by simp only [List.length_append, List.length_map, List.length_take, List.length_reverse, List.length_cons, List.length_nil]; omega) (hO := hO')) ?_
    rintro _ _ w rfl hO
    simp only [List.cons_append, List.nil_append] at hO
    rw [List.append_assoc, show [kidI depth (at_ (K id) ((K id).length - 1 - i))] = [at_ (K id) ((K id).length - 1 - i)].map (kidI depth) from rfl, ← List.map_append, ← rev_take (show i < (K id).length by omega)] at hO
    refine K2 (K8 (K3 (K1 ?_)))
    refine l_y rfl rfl (D4) ?_
    refine l_y rfl rfl (y_move rfl) ?_
    refine K2 ?_
    exact q_next (i + 1) ⟨rfl, rfl, rfl, rfl, rfl, trivial⟩ ⟨hO.only [.b b2, .o a, .o b10, .p q], by omega⟩ (by omega)
  · refine K2 (K3 (K0 (L9 (K7 (L1 (L1 (L2 ?_)))))))
    have e : i = (K id).length := by omega
    rw [e, List.take_of_length_le (by simp)] at hO
    exact fin0 rfl ⟨_, rfl, hO.only [.b b2, .o a, .o b10]⟩
set_option maxHeartbeats 1000000 in
theorem Show0_spec {a : Nat} {A : List Node_one} {K : Int → List Int} (t : Tree A K) (hl : A.length ≤ 1000) (h0 : InA A 0) (hk : K 0 = []) (hO : Own k w [arenaL a A]) :
    Tri Try.prog 18 #[.pointer (some ⟨a, 0, none⟩), .int .i64 0] k w fun v m => v = .tuple #[.string ⟨#[]⟩, .int .i64 0] ∧ m = [arenaL a A] := by
  refine enter (args := [.pointer (some ⟨a, 0, none⟩), .int .i64 0]) Try.func18 rfl rfl ?_
  refine K0 (K1 ?_)
  refine s_box (vs := [.pointer (some ⟨a, 0, none⟩)]) hO rfl rfl rfl (by rfl) fun b2 w hO => ?_
  refine l_y rfl rfl (y_assign rfl) ?_
  refine l_y rfl rfl (y_assign rfl) ?_
  refine K2 (K3 (K0 (K0 (K1 ?_))))
  refine l_y rfl rfl (D5 hO rfl) ?_
  refine l_y rfl rfl (y_move rfl) ?_
  refine CK [.o a] hO rfl (fun k' hx hr hO' => NodeI_spec h0 t.attrs hO') ?_
  rintro _ _ w ⟨n, hn, rfl, rfl⟩ hO
  simp only [List.cons_append, List.nil_append] at hO
  refine l_y rfl rfl (y_move rfl) ?_
  refine l_y rfl rfl (y_extract rfl rfl) ?_
  refine l_y rfl rfl (y_extract rfl rfl) ?_
  refine s_alloc (vs := [.int .i64 0, .int .i64 0, .string ⟨#[]⟩, .slice none 0 0, .string ⟨#[]⟩, .string ⟨#[]⟩, .int .i64 0, .int .i64 0, .int .i64 0, .int .i64 0, .int .i64 0, .int .i64 0]) hO rfl rfl rfl fun b6 w hO => ?_
  refine Y3 hO rfl rfl (fun w hO => ?_)
  refine l_y rfl rfl (y_assign rfl) ?_
  refine K2 (K3 (K0 (K1 ?_)))
  refine l_y rfl rfl (y_move rfl) ?_
  refine N4 ?_
  refine K2 (K3 (L9 (K5 (K3 (K0 (K1 ?_))))))
  refine s_alloc (vs := [.pointer none, .slice none 0 0]) hO rfl rfl rfl fun b8 w hO => ?_
  refine K2 (K3 (K0 ?_))
  have hO := bldr_new (hO.ks [.b b8])
  refine K1 ?_
  refine l_y rfl rfl (y_makeFunc rfl rfl) ?_
  refine l_y rfl rfl (y_assign rfl) ?_
  refine K2 (K3 (K0 (K1 ?_)))
  refine s_alloc (vs := [.slice none 0 0]) hO rfl rfl rfl fun b10 w hO => ?_
  refine K2 (K3 (K0 ?_))
  have hO := pileitem_shut (xs := []) (hO.ks [.b b10] |> sl_nil 106 3 |> Own.swap)
  refine K1 ?_
  refine l_y rfl rfl (y_makeFunc rfl rfl) ?_
  refine l_y rfl rfl (y_assign rfl) ?_
  refine K2 (K3 (K0 (K1 ?_)))
  refine l_y rfl rfl (y_move rfl) ?_
  refine l_y rfl rfl (y_move rfl) ?_
  refine CKv [.b b2, .o a, .o b10] hO rfl rfl (fun k' hx hr hO' => below_spec (K := K) t h0 hl (by simp) hO') ?_
  rintro _ _ w rfl hO
  simp only [List.cons_append, List.nil_append] at hO
  rw [hk] at hO
  refine K2 (K3 (K0 (K0 (K1 ?_))))
  refine CK [.o b10] hO rfl (fun k' hx hr hO' => popNitem_spec hO') ?_
  rintro _ _ w ⟨rfl, rfl⟩ hO
  simp only [List.cons_append, List.nil_append] at hO
  refine l_y rfl rfl (y_move rfl) ?_
  refine l_y rfl rfl (y_extract rfl rfl) ?_
  refine l_y rfl rfl (y_extract rfl rfl) ?_
  refine s_alloc (vs := [.int .i64 0, .int .i64 0, .string ⟨#[]⟩]) hO rfl rfl rfl fun b12 w hO => ?_
  refine Y3 hO rfl rfl (fun w hO => ?_)
  refine l_y rfl rfl (y_assign rfl) ?_
  refine K2 (K3 (K4 ?_))
  refine c_rounds (X := Unit) (fun u => [(4, .string ⟨#[]⟩), (5, .int .i64 0), (8, .pointer (some ⟨b8, 0, none⟩)), (13, .bool false)]) (fun u w => Own k w [arenaL a A, bldr b8 []] ∧ (True)) (fun u => 0) (()) ⟨rfl, rfl, rfl, rfl, trivial⟩ ⟨hO.only [.o a, .o b8], trivial⟩ ?_
  rintro u w m hm ⟨hO, hT0⟩
  refine K0 (K0 (K1 ?_))
  refine l_y rfl rfl (y_move rfl) ?_
  refine K2 (K3 (L9 (K7 (L1 (L1 (L2 (K3 (K0 (K1 ?_)))))))))
  refine CK [.o b8] hO rfl (fun k' hx hr hO' => String_spec k' _ b8 [] (by simp) hO') ?_
  rintro _ _ w ⟨rfl, rfl⟩ hO
  simp only [List.cons_append, List.nil_append] at hO
  refine l_y rfl rfl (y_assign rfl) ?_
  refine l_y rfl rfl (y_assign rfl) ?_
  refine K2 (K3 (K6 ?_))
  exact fin2 rfl rfl rfl ⟨_, ⟨rfl, rfl⟩, hO.only [.o a]⟩
/-- the arena of the wake-up: the document, and a text -/
theorem wake_tree : Tree ([docD] ++ [blankN (textN ⟨#[120]⟩)]) (addK [docD] fun _ => []) := Tree.new.add _ (Nat.zero_le _)
theorem wake_inn : InnOk ([docD] ++ [blankN (textN ⟨#[120]⟩)]) := InnOk.new.add _
theorem wake_same : sameN ([docD] ++ [blankN (textN ⟨#[120]⟩)]) (addK [docD] fun _ => []) ([docD] ++ [blankN (textN ⟨#[120]⟩)]) (addK [docD] fun _ => []) 1 1 = true := by
  rw [sameN_yes wake_tree wake_inn ⟨rfl, rfl, rfl, rfl, rfl, rfl, rfl, rfl, rfl, Iff.rfl⟩]
  rfl
theorem awake03_spec (hO : Own k w []) : Tri Try.prog 19 #[] k w fun v m => v = .bool true ∧ m = [] := by
  refine enter (args := []) Try.func19 rfl rfl ?_
  refine K0 (K1 ?_)
  refine l_y rfl rfl (y_assign rfl) ?_
  refine K2 (K3 (K0 (K1 ?_)))
  refine CK [] hO rfl (fun k' hx hr hO' => New_spec (hO := hO')) ?_
  rintro _ _ w ⟨a6, rfl, rfl⟩ hO
  simp only [List.cons_append, List.nil_append] at hO
  refine l_y rfl rfl (y_assign rfl) ?_
  refine K2 (K3 (K0 (K0 (K1 ?_))))
  refine l_y rfl rfl (y_move rfl) ?_
  refine l_y rfl rfl (y_eqPnil rfl rfl rfl) ?_
  refine K2 (K3 (L9 (K5 (K3 (K0 (K1 ?_))))))
  refine l_y rfl rfl (y_move rfl) ?_
  refine CK [.o a6] hO rfl (fun k' hx hr hO' => Text_spec (by simp) (by simp) (hO := hO')) ?_
  rintro _ _ w ⟨rfl, rfl⟩ hO
  simp only [List.cons_append, List.nil_append] at hO
  rw [show addL [docD] (textN ⟨#[120]⟩) [⟨#[120]⟩] = (1, 0, [docD] ++ [blankN (textN ⟨#[120]⟩)]) from rfl] at hO ⊢
  refine l_y rfl rfl (y_move rfl) ?_
  refine l_y rfl rfl (y_extract rfl rfl) ?_
  refine l_y rfl rfl (y_extract rfl rfl) ?_
  refine l_y rfl rfl (y_assign rfl) ?_
  refine l_y rfl rfl (y_assign rfl) ?_
  refine K2 (K3 (K0 (K1 ?_)))
  refine l_y rfl rfl (y_move rfl) ?_
  refine CK [.o a6] hO rfl (fun k' hx hr hO' => Show0_spec wake_tree (by simp) ⟨by decide, by simp⟩ rfl hO') ?_
  rintro _ _ w ⟨rfl, rfl⟩ hO
  simp only [List.cons_append, List.nil_append] at hO
  refine l_y rfl rfl (y_move rfl) ?_
  refine l_y rfl rfl (y_extract rfl rfl) ?_
  refine l_y rfl rfl (y_extract rfl rfl) ?_
  refine l_y rfl rfl (y_assign rfl) ?_
  refine l_y rfl rfl (y_assign rfl) ?_
  refine K2 (K3 (K0 (K1 ?_)))
  refine l_y rfl rfl (y_move rfl) ?_
  refine N2 ?_
  refine l_y rfl rfl (y_move rfl) ?_
  refine l_y rfl rfl (y_move rfl) ?_
  refine N6 (hp := (by decide)) ?_
  refine l_y rfl rfl (y_pick_t rfl rfl) ?_
  refine l_y rfl rfl (y_move rfl) ?_
  refine l_y rfl rfl (y_move rfl) ?_
  refine N2 ?_
  refine l_y rfl rfl (y_pick_t rfl rfl) ?_
  refine l_y rfl rfl (y_move rfl) ?_
  refine l_y rfl rfl (y_move rfl) ?_
  refine l_y rfl rfl (y_move rfl) ?_
  refine CK [.o a6] hO rfl (fun k' hx hr hO' => Same1_spec wake_tree wake_inn (by simp) (by simp) hO') ?_
  rintro _ _ w ⟨rfl, rfl⟩ hO
  simp only [List.cons_append, List.nil_append] at hO
  rw [wake_same]
  refine l_y rfl rfl (y_pick_t rfl rfl) ?_
  refine l_y rfl rfl (y_assign rfl) ?_
  refine K2 (K3 (K6 ?_))
  exact fin1 rfl rfl ⟨_, ⟨rfl, rfl⟩, hO.only []⟩
end
end Go.Proofs.Ythkmnohghpdjhaa
