/- The walks of Put and of the law PlaceEnds. -/
import Derived.Test.YtbhicbpfdbnpfaaPlc3
import Derived.Test.YtbhicbpfdbnpfaaOrder1
set_option linter.unusedVariables false
set_option linter.unusedSimpArgs false
set_option maxRecDepth 100000
namespace Go.Proofs.Ytbhicbpfdbnpfaa
open Go Go.Hb Go.RowKit
def allB (A : List Node_one) (ids : List Int) : Bool := ids.all fun x => decide (x = -1) || hasB A x
section
variable {k : Ctx} {w : World} {a s r z c : Nat} {p : Option Addr} {A : List Node_one} {K : Int → List Int} {R : List Ref01_one} {l : List Int}
theorem all_spec {ids : List Int} {tp : Option Addr} {tc : Nat} (hn : 0 < A.length) (hs : Sli (Ro k) (.slice tp ids.length tc) (ids.map (eI .i64))) (hl : ids.length ≤ 1000000) (hO : Own k w [arenaL a A]) :
    Tri Try.prog 121 #[.pointer (some ⟨a, 0, none⟩), .slice tp ids.length tc] k w fun v m => v = .bool (allB A ids) ∧ m = [arenaL a A] := by
  refine enter (args := [.pointer (some ⟨a, 0, none⟩), .slice tp ids.length tc]) Try.func121 rfl rfl ?_
  have hgs := sli_gs hs
  refine K0 (K1 ?_)
  refine l_y rfl rfl (y_assign rfl) ?_
  refine K2 (K3 (K0 (K0 (K1 ?_))))
  refine l_y rfl rfl (y_move rfl) ?_
  refine l_y rfl rfl (y_lenL rfl) ?_
  refine l_y rfl rfl (y_move rfl) ?_
  refine K2 (K3 (K4 ?_))
  refine c_rounds (X := Nat) (fun i => [(0, .pointer (some ⟨a, 0, none⟩)), (4, .bool false), (7, .slice tp ids.length tc), (8, .int .i64 ((ids.length : Nat) : Int)), (9, .int .i64 (i : Int))]) (fun i w => Own k w [arenaL a A] ∧ (i ≤ ids.length ∧ allB A (ids.take i) = true)) (fun i => ids.length - i) (0) ⟨rfl, rfl, rfl, rfl, rfl, trivial⟩ ⟨hO.only [.o a], ⟨Nat.zero_le _, rfl⟩⟩ ?_
  rintro i w m hm ⟨hO, hi⟩
  refine K0 (K1 ?_)
  refine Z0 (fun h2_0 => ?_) (fun h2_0 => ?_)
  · refine K2 (K3 (K0 (L8 (K5 (K3 (K0 (K4 (K0 (K1 ?_)))))))))
    refine l_y rfl rfl (y_idx rfl rfl) ?_
    refine l_y rfl rfl (y_r1 (x0 := 0) (enc := (eI .i64)) (xs := ids) hO rfl) ?_
    refine l_y rfl rfl (y_assign rfl) ?_
    refine K2 (K3 (K0 (K1 ?_)))
    refine l_y rfl rfl (y_move rfl) ?_
    refine Z1 (fun h4_1 => ?_) (fun h4_1 => ?_)
    · refine l_y rfl rfl (y_move rfl) ?_
      refine l_y rfl rfl (y_move rfl) ?_
      refine Z0 (fun h4_4 => ?_) (fun h4_4 => ?_)
      · refine l_y rfl rfl (y_move rfl) ?_
        repeat refine M2 ?_
        refine l_y rfl rfl (y_pick_t rfl rfl) ?_
        refine l_y rfl rfl (y_pick_t rfl rfl) ?_
        refine K2 (K3 (L8 (K0 (K1 ?_))))
        refine l_y rfl rfl (y_assign rfl) ?_
        refine K2 (K3 (K6 (L0 (K9 (K9 (L0 (K9 ?_)))))))
        have hlf : allB A ids = false := by
          refine List.all_eq_false.2 ⟨at_ ids i, at_mem (by omega), ?_⟩
          simp only [Int.toNat_natCast] at *
          rw [decide_eq_false h4_1, hasB, decide_eq_false (by omega)]; simp
        exact fin1 rfl rfl ⟨_, ⟨by rw [hlf], rfl⟩, hO.only [.o a]⟩
      · refine l_y rfl rfl (y_move rfl) ?_
        refine l_y rfl rfl (y_move rfl) ?_
        refine l_y rfl rfl (y_move rfl) ?_
        refine CK [.o a] hO rfl (fun k' hx hr hO' => LenC_spec hn (hO := hO')) ?_
        rintro _ _ w ⟨rfl, rfl⟩ hO
        simp only [List.cons_append, List.nil_append] at hO
        refine Z0 (fun h4_9 => ?_) (fun h4_9 => ?_)
        · refine l_y rfl rfl (y_pick_f rfl rfl) ?_
          refine l_y rfl rfl (y_pick_t rfl rfl) ?_
          refine K2 (K3 (L8 (K0 (K1 ?_))))
          refine l_y rfl rfl (y_assign rfl) ?_
          refine K2 (K3 (K6 (L0 (K9 (K9 (L0 (K9 ?_)))))))
          have hlf : allB A ids = false := by
            refine List.all_eq_false.2 ⟨at_ ids i, at_mem (by omega), ?_⟩
            simp only [Int.toNat_natCast] at *
            rw [decide_eq_false h4_1, hasB, decide_eq_false (by omega)]; simp
          exact fin1 rfl rfl ⟨_, ⟨by rw [hlf], rfl⟩, hO.only [.o a]⟩
        · refine l_y rfl rfl (y_pick_f rfl rfl) ?_
          refine l_y rfl rfl (y_pick_t rfl rfl) ?_
          refine K2 (K3 (L9 (K5 (K8 (K3 (K1 ?_))))))
          refine l_y rfl rfl (D4) ?_
          refine l_y rfl rfl (y_move rfl) ?_
          refine K2 ?_
          have h9 : allB A (ids.take (i + 1)) = true := by
            have h9 := hi.2
            rw [take_succ_at (by omega)]
            simp only [allB, List.all_append, List.all_cons, List.all_nil, Bool.and_true, Bool.and_eq_true] at h9 ⊢
            refine ⟨h9, ?_⟩
            simp only [Int.toNat_natCast] at *
            by_cases h5 : at_ ids i = -1
            · rw [decide_eq_true h5]; rfl
            · rw [hasB, decide_eq_true (show 0 ≤ at_ ids i ∧ at_ ids i < A.length by omega), Bool.or_true]
          exact q_next (i + 1) ⟨rfl, rfl, rfl, rfl, rfl, trivial⟩ ⟨hO.only [.o a], ⟨by omega, h9⟩⟩ (by omega)
    · refine l_y rfl rfl (y_move rfl) ?_
      repeat refine M2 ?_
      refine l_y rfl rfl (y_pick_f rfl rfl) ?_
      refine K2 (K3 (L9 (K5 (K8 (K3 (K1 ?_))))))
      refine l_y rfl rfl (D4) ?_
      refine l_y rfl rfl (y_move rfl) ?_
      refine K2 ?_
      have h9 : allB A (ids.take (i + 1)) = true := by
        have h9 := hi.2
        rw [take_succ_at (by omega)]
        simp only [allB, List.all_append, List.all_cons, List.all_nil, Bool.and_true, Bool.and_eq_true] at h9 ⊢
        refine ⟨h9, ?_⟩
        simp only [Int.toNat_natCast] at *
        by_cases h5 : at_ ids i = -1
        · rw [decide_eq_true h5]; rfl
        · rw [hasB, decide_eq_true (show 0 ≤ at_ ids i ∧ at_ ids i < A.length by omega), Bool.or_true]
      exact q_next (i + 1) ⟨rfl, rfl, rfl, rfl, rfl, trivial⟩ ⟨hO.only [.o a], ⟨by omega, h9⟩⟩ (by omega)
  · refine K2 (K3 (K0 (L9 (K7 (L1 (L1 (L2 (K3 (K0 (K1 ?_))))))))))
    refine l_y rfl rfl (y_assign rfl) ?_
    refine K2 (K3 (K6 ?_))
    have hlt : allB A ids = true := by rw [show ids = ids.take i by rw [List.take_of_length_le (by omega)]]; exact hi.2
    exact fin1 rfl rfl ⟨_, ⟨by rw [hlt], rfl⟩, hO.only [.o a]⟩
/-- a node that is not linked is put at the end -/
theorem Put_spec {want id : Int} (t : Tree A K) (hn : 0 < A.length) (hw : InA A want) (hid : InA A id) (free : (nodeA A id).Parent = -1) (kup : parentB (nodeA A want).Kind = true) (kid : (nodeA A id).Kind ≠ 0 ∧ (nodeA A id).Kind ≠ 5) (above : ¬ Anc A want id) (hO : Own k w [arenaL a A]) :
    Tri Try.prog 57 #[.pointer (some ⟨a, 0, none⟩), .agg (Api_spot.cells ⟨want, -1⟩).toArray, .int .i64 id] k w fun v m => v = .int .i64 0 ∧ m = [arenaL a (linkL A want id (-1)).2] := by
  refine enter (args := [.pointer (some ⟨a, 0, none⟩), .agg (Api_spot.cells ⟨want, -1⟩).toArray, .int .i64 id]) Try.func57 rfl rfl ?_
  have ha := t.attrs
  have hw0 := hw.1
  have hi0 := hid.1
  have hgo := link_go (before := -1) hw hid (.inl rfl) kup kid free above
  have hun : unlinkL A id = (5, A) := by
    rw [unlinkL, if_neg (by rw [hid.b]; simp), if_pos free]
  refine K0 (K1 ?_)
  refine s_box (vs := [.int .i64 (Api_spot.mk want (-1)).Parent, .int .i64 (Api_spot.mk want (-1)).Before]) hO rfl rfl rfl (by rfl) fun b4 w hO => ?_
  refine l_y rfl rfl (y_assign rfl) ?_
  refine K2 (K3 (K0 (K4 (K0 (K1 ?_)))))
  refine l_y rfl rfl (y_move rfl) ?_
  refine CK [.o a] hO rfl (fun k' hx hr hO' => LenC_spec hn (hO := hO')) ?_
  rintro _ _ w ⟨rfl, rfl⟩ hO
  simp only [List.cons_append, List.nil_append] at hO
  refine N3 ?_
  refine l_y rfl rfl (y_assign rfl) ?_
  refine K2 (K3 (L9 (K0 (K1 ?_))))
  refine l_y rfl rfl (y_move rfl) ?_
  refine N3 ?_
  refine l_y rfl rfl (y_move rfl) ?_
  refine l_y rfl rfl (y_fldb (o' := 0) rfl) ?_
  refine l_y rfl rfl (D5 hO rfl) ?_
  refine N3 ?_
  refine l_y rfl rfl (y_pick_f rfl rfl) ?_
  refine l_y rfl rfl (y_move rfl) ?_
  refine l_y rfl rfl (y_move rfl) ?_
  refine l_y rfl rfl (y_move rfl) ?_
  refine l_y rfl rfl (y_fldb (o' := 0) rfl) ?_
  refine l_y rfl rfl (D5 hO rfl) ?_
  refine l_y rfl rfl (y_fldb (o' := 1) rfl) ?_
  refine l_y rfl rfl (D5 hO rfl) ?_
  refine s_lit (parts := [(0, .tmp 23), (1, .tmp 25), (2, .tmp 27)]) (enc := (eI .i64)) [id, (Api_spot.mk want (-1)).Parent, (Api_spot.mk want (-1)).Before] [.int .i64 id, .int .i64 (Api_spot.mk want (-1)).Parent, .int .i64 (Api_spot.mk want (-1)).Before] hO rfl (fun b28 w hO => ?_)
  refine CK [.o a] hO rfl (fun k' hx hr hO' => all_spec (ids := [id, want, -1]) hn (sls_roK (p := (some ⟨b28, 0, none⟩)) hr (sls_fct (p := (some ⟨b28, 0, none⟩)) hO)) (by simp) (hO := hO')) ?_
  rintro _ _ w ⟨rfl, rfl⟩ hO
  simp only [List.cons_append, List.nil_append] at hO
  rw [show allB A [id, want, -1] = true by simp [allB, hid.b, hw.b]]
  refine l_y rfl rfl (y_not rfl rfl) ?_
  refine l_y rfl rfl (y_pick_f rfl rfl) ?_
  refine l_y rfl rfl (y_assign rfl) ?_
  refine K2 (K3 (L9 (K5 (K8 (K3 (K0 (K1 ?_)))))))
  refine l_y rfl rfl (y_move rfl) ?_
  refine l_y rfl rfl (y_move rfl) ?_
  refine CK [.o a] hO rfl (fun k' hx hr hO' => UnlinkC_spec hn t.links (hO := hO')) ?_
  rintro _ _ w ⟨rfl, rfl⟩ hO
  simp only [List.cons_append, List.nil_append] at hO
  rw [hun] at hO ⊢
  refine K2 (K3 (K0 (K0 (K1 ?_))))
  refine l_y rfl rfl (y_move rfl) ?_
  refine l_y rfl rfl (y_fldb (o' := 1) rfl) ?_
  refine l_y rfl rfl (D5 hO rfl) ?_
  refine CK [.o a] hO rfl (fun k' hx hr hO' => NodeD_spec hn ha (hO := hO')) ?_
  rintro _ _ w ⟨x6_3, hx6_3, rfl, rfl⟩ hO
  simp only [List.cons_append, List.nil_append] at hO
  refine l_y rfl rfl (y_move rfl) ?_
  refine l_y rfl rfl (y_extract rfl rfl) ?_
  refine l_y rfl rfl (y_extract rfl rfl) ?_
  refine s_alloc (vs := [.int .i64 0, .int .i64 0, .string ⟨#[]⟩, .slice none 0 0, .string ⟨#[]⟩, .string ⟨#[]⟩, .int .i64 0, .int .i64 0, .int .i64 0, .int .i64 0, .int .i64 0, .int .i64 0]) hO rfl rfl rfl fun b7 w hO => ?_
  refine Y3 hO rfl rfl (fun w hO => ?_)
  refine l_y rfl rfl (y_assign rfl) ?_
  refine K2 (K3 (K0 (K1 ?_)))
  refine l_y rfl rfl (y_fldb (o' := 1) rfl) ?_
  refine l_y rfl rfl (D5 hO rfl) ?_
  refine N4 ?_
  refine l_y rfl rfl (y_move rfl) ?_
  repeat refine M2 ?_
  refine l_y rfl rfl (y_pick_f rfl rfl) ?_
  refine K2 (K3 (L9 (K5 (K3 (K0 (K0 (K1 ?_)))))))
  refine l_y rfl rfl (y_move rfl) ?_
  refine l_y rfl rfl (y_fldb (o' := 0) rfl) ?_
  refine l_y rfl rfl (D5 hO rfl) ?_
  refine l_y rfl rfl (y_move rfl) ?_
  refine l_y rfl rfl (y_fldb (o' := 1) rfl) ?_
  refine l_y rfl rfl (D5 hO rfl) ?_
  refine CK [.o a] hO rfl (fun k' hx hr hO' => LinkC_spec hn t.rank t.links (hO := hO')) ?_
  rintro _ _ w ⟨rfl, rfl⟩ hO
  simp only [List.cons_append, List.nil_append] at hO
  rw [hgo]
  refine N4 ?_
  refine K2 (K3 (L9 (K5 (K3 (K0 (K1 ?_))))))
  refine l_y rfl rfl (y_assign rfl) ?_
  refine K2 (K3 (K6 ?_))
  exact fin1 rfl rfl ⟨_, ⟨rfl, rfl⟩, hO.only [.o a]⟩
theorem anc_new {o : Node_one} (t : Tree A K) : ∀ {x y : Int}, Anc (A ++ [o]) x y → InA A x → y ≠ A.length := by
  intro x y h
  induction h with
  | refl x => intro hx; have := hx.2; omega
  | @step x y h1 hs ih =>
    intro hx
    obtain ⟨rk, hrk⟩ := t.rank
    have e : nextUp (A ++ [o]) x = nextUp A x := by unfold nextUp; rw [at_old hx]
    rcases hrk x hx.b with h2 | ⟨h2, _⟩
    · rw [e, h2] at hs
      have := anc_none hs
      omega
    · exact ih (by rw [e]; exact inA_iff.1 h2)
theorem NV.last {A : List Node_one} {x : Int} {n : Api_node} (h : NV A x n) (hb : hasB A x = true) : n.Last = (nodeA A x).Last := by
  rcases h with ⟨h, _⟩ | ⟨_, q, d, rfl⟩
  · rw [hb] at h; cases h
  · rfl
theorem lastL_snoc {l : List Int} {x : Int} : lastL (l ++ [x]) = x := by
  unfold lastL
  simp
/-- what is linked last is the last -/
theorem link_last {want id : Int} (t : Tree A K) (h0 : (linkL A want id (-1)).1 = 0) : (nodeA (linkL A want id (-1)).2 want).Last = id := by
  have t2 := t.link h0
  obtain ⟨l1, l2, g⟩ := link_ok t h0
  have hw : InA (linkL A want id (-1)).2 want := g.hup.len linkL_len
  rw [(t2.lnk want hw).last, linkK, if_pos rfl, insB_end (fun y hy => by have := ((t.lnk want g.hup).mem hy).1.1; omega), lastL_snoc]
set_option maxHeartbeats 2000000 in
theorem PlaceEnds_spec {lp : Option Addr} {lc : Nat} {L : List Law14_act} {target nm : Int} (h00 : 0 ≤ nm) (h01 : nm ≤ 255) (hs : Sli (Ro k) (.slice lp L.length lc) (L.map Law14_act.cells)) (hO : Own k w []) :
    Tri Try.prog 12 #[.slice lp L.length lc, .int .i64 target, .int .u8 nm] k w fun v m => v = .bool true := by
  refine enter (args := [.slice lp L.length lc, .int .i64 target, .int .u8 nm]) Try.func12 rfl rfl ?_
  have hm0 : 0 ≤ nm % 26 ∧ nm % 26 < 26 := ⟨by omega, by omega⟩
  obtain ⟨bt, hbt⟩ : ∃ b : UInt8, (b.toNat : Int) = 97 + nm % 26 := ⟨UInt8.ofNat (97 + nm % 26).toNat, by simp; omega⟩
  refine K0 (K1 ?_)
  refine l_y rfl rfl (y_assign rfl) ?_
  refine K2 (K3 (K0 (K1 ?_)))
  refine l_y rfl rfl (y_move rfl) ?_
  refine CK [] hO rfl (fun k' hx hr hO' => world_spec (hs.ext hO hx) (hO := hO')) ?_
  rintro _ _ w ⟨a, r, s, z, A, K, R, l, rfl, rfl, t, hw, hI, hlen⟩ hO
  simp only [List.cons_append, List.nil_append] at hO
  have hl1 : l.length ≤ 1000000 := Nat.le_trans hI.len (by omega)
  have hn := t.pos
  have ha := t.tree.attrs
  refine l_y rfl rfl (y_move rfl) ?_
  refine l_y rfl rfl (y_extract rfl rfl) ?_
  refine l_y rfl rfl (y_extract rfl rfl) ?_
  refine l_y rfl rfl (y_extract rfl rfl) ?_
  refine l_y rfl rfl (y_extract rfl rfl) ?_
  refine l_y rfl rfl (y_assign rfl) ?_
  refine l_y rfl rfl (y_assign rfl) ?_
  refine l_y rfl rfl (y_assign rfl) ?_
  refine l_y rfl rfl (y_assign rfl) ?_
  refine K2 (K3 (K0 (K0 (K1 ?_))))
  refine l_y rfl rfl (y_move rfl) ?_
  refine l_y rfl rfl (y_eqPnil rfl rfl rfl) ?_
  refine l_y rfl rfl (y_move rfl) ?_
  refine l_y rfl rfl (y_move rfl) ?_
  refine l_y rfl rfl (y_eqPnil rfl rfl rfl) ?_
  refine l_y rfl rfl (y_pick_f rfl rfl) ?_
  refine K2 (K3 (L9 (K5 (K3 (K0 (K1 ?_))))))
  refine l_y rfl rfl (y_move rfl) ?_
  refine l_y rfl rfl (y_move rfl) ?_
  refine l_y rfl rfl (y_move rfl) ?_
  refine CK [.o a, .o s] hO rfl (fun k' hx hr hO' => Spot_spec hn ha hI.el hl1 (FosOk.of t.tree hw hI.el) (hO := hO')) ?_
  rintro _ _ w ⟨rfl, rfl⟩ hO
  simp only [List.cons_append, List.nil_append] at hO
  have e0 : spotV A l target false = if hasB A target = false then (⟨0, 0⟩, 6) else (innV A ⟨target, -1⟩, 0) := rfl
  have e1 : (spotV A l target false).2 = errN A target := by
    rw [e0, errN]; cases hasB A target <;> rfl
  rw [e1]
  refine l_y rfl rfl (y_move rfl) ?_
  refine l_y rfl rfl (y_extract rfl rfl) ?_
  refine l_y rfl rfl (y_extract rfl rfl) ?_
  refine s_alloc (vs := [.int .i64 0, .int .i64 0]) hO rfl rfl rfl fun b11 w hO => ?_
  refine Y3 hO rfl rfl (fun w hO => ?_)
  refine l_y rfl rfl (y_assign rfl) ?_
  refine K2 (K3 (K0 (K1 ?_)))
  refine l_y rfl rfl (y_move rfl) ?_
  refine l_y rfl rfl (y_move rfl) ?_
  refine CK [.o a] hO rfl (fun k' hx hr hO' => NodeD_spec hn ha (hO := hO')) ?_
  rintro _ _ w ⟨x5_2, hx5_2, rfl, rfl⟩ hO
  simp only [List.cons_append, List.nil_append] at hO
  refine l_y rfl rfl (y_move rfl) ?_
  refine l_y rfl rfl (y_extract rfl rfl) ?_
  refine l_y rfl rfl (y_extract rfl rfl) ?_
  refine s_alloc (vs := [.int .i64 0, .int .i64 0, .string ⟨#[]⟩, .slice none 0 0, .string ⟨#[]⟩, .string ⟨#[]⟩, .int .i64 0, .int .i64 0, .int .i64 0, .int .i64 0, .int .i64 0, .int .i64 0]) hO rfl rfl rfl fun b13 w hO => ?_
  refine Y3 hO rfl rfl (fun w hO => ?_)
  refine l_y rfl rfl (y_assign rfl) ?_
  refine K2 (K3 (K0 (K0 (K1 ?_))))
  refine l_y rfl rfl (y_move rfl) ?_
  refine Z1 (fun h6_1 => ?_) (fun h6_1 => ?_)
  · refine l_y rfl rfl (y_move rfl) ?_
    repeat refine M2 ?_
    refine l_y rfl rfl (y_pick_t rfl rfl) ?_
    refine K2 (K3 (L8 (K0 ?_)))
    have e6 : errN A target = 6 := by
      rw [errN]; split
      · next h => rw [errN, if_pos h] at h6_1; exact absurd rfl h6_1
      · rfl
    refine K1 ?_
    refine l_y rfl rfl (y_move rfl) ?_
    refine N2 (hp := e6) ?_
    refine l_y rfl rfl (y_move rfl) ?_
    refine l_y rfl rfl (y_move rfl) ?_
    refine N2 (hp := e6) ?_
    refine l_y rfl rfl (y_pick_t rfl rfl) ?_
    refine l_y rfl rfl (y_move rfl) ?_
    refine CK [] hO rfl (fun k' hx hr hO' => awake14_spec (hO := hO')) ?_
    rintro _ _ w ⟨rfl, rfl⟩ hO
    simp only [List.cons_append, List.nil_append] at hO
    refine l_y rfl rfl (y_pick_t rfl rfl) ?_
    refine l_y rfl rfl (y_assign rfl) ?_
    refine K2 (K3 (K6 (K9 ?_)))
    exact fin1 rfl rfl ⟨_, rfl, hO⟩
  · refine l_y rfl rfl (y_move rfl) ?_
    refine l_y rfl rfl (y_move rfl) ?_
    refine N4 ?_
    refine l_y rfl rfl (y_pick_f rfl rfl) ?_
    refine K2 (K3 (L9 (K5 (K3 (K0 ?_)))))
    have hb : hasB A target = true := by
      cases h : hasB A target with
      | true => rfl
      | false => rw [errN, h] at h6_1; simp at h6_1
    have e2 : (spotV A l target false).1 = innV A ⟨target, -1⟩ := by rw [e0, if_neg (by rw [hb]; simp)]
    have e3 := hx5_2.inner hb
    have e4 : innV A ⟨target, -1⟩ = if x5_2.Inner ≠ -1 then ⟨x5_2.Inner, -1⟩ else ⟨target, -1⟩ := by rw [e3]; rfl
    have hin : x5_2.Inner = -1 ∨ InA A x5_2.Inner := by rw [e3]; exact t.tree.inner _ (inA_iff.1 hb)
    refine K1 ?_
    refine l_y rfl rfl (y_move rfl) ?_
    refine l_y rfl rfl (y_assign rfl) ?_
    refine K2 (K3 (K0 (K0 (K1 ?_))))
    refine l_y rfl rfl (y_fldb (o' := 11) rfl) ?_
    refine l_y rfl rfl (D5 hO rfl) ?_
    refine Z1 (fun h9_2 => ?_) (fun h9_2 => ?_)
    · refine K2 (K3 (L8 (K1 ?_)))
      refine l_y rfl rfl (y_fldb (o' := 11) rfl) ?_
      refine l_y rfl rfl (D5 hO rfl) ?_
      refine l_y rfl rfl (y_assign rfl) ?_
      refine K2 (K3 (K0 (K0 ?_)))
      obtain ⟨want, hwant⟩ : ∃ want, want = x5_2.Inner := ⟨_, rfl⟩
      have hsp : (spotV A l target false).1 = ⟨want, -1⟩ := by
        rw [e2, e4, hwant]
        first | rw [if_pos h9_2] | rw [if_neg (fun h => h h9_2)]
      have hwA : InA A want := by
        rw [hwant]
        first | exact hin.resolve_left h9_2 | exact inA_iff.1 hb
      rw [hsp] at hO ⊢
      rw [← hwant]
      refine K1 ?_
      refine l_y rfl rfl (y_fldb (o' := 0) rfl) ?_
      refine l_y rfl rfl (D5 hO rfl) ?_
      refine l_y rfl rfl (y_move rfl) ?_
      refine N4 (hp := rfl) ?_
      refine l_y rfl rfl (y_move rfl) ?_
      refine l_y rfl rfl (y_fldb (o' := 1) rfl) ?_
      refine l_y rfl rfl (D5 hO rfl) ?_
      refine N4 (hp := rfl) ?_
      refine l_y rfl rfl (y_pick_f rfl rfl) ?_
      refine K2 (K3 (L9 (K5 (K3 (K0 (K1 ?_))))))
      refine l_y rfl rfl (y_move rfl) ?_
      refine l_y rfl rfl (y_move rfl) ?_
      refine l_y rfl rfl (y_remN rfl rfl (by omega) (by decide)) ?_
      refine l_y (v := .int .u8 (bt.toNat : Int)) rfl rfl (y_arith (r := 97 + nm % 26) rfl rfl rfl (by rw [hbt, IntKind.wrap_u8]; omega)) ?_
      refine s_lit (parts := [(0, .tmp 80)]) (enc := (eI .u8)) [(bt.toNat : Int)] [.int .u8 (bt.toNat : Int)] hO rfl (fun b81 w hO => ?_)
      have hO2 : Own k w (sl (.slice (some ⟨b81, 0, none⟩) (by1 [bt]).length 1) 5 1 (by1 [bt]) :: _) := hO
      refine l_y rfl rfl (y_bytesStr (bs := [bt]) hO2 (.hd _ _) rfl) ?_
      refine CK [.o a] hO rfl (fun k' hx hr hO' => Comment_spec hn (by omega) (hO := hO')) ?_
      rintro _ _ w ⟨rfl, rfl⟩ hO
      simp only [List.cons_append, List.nil_append] at hO
      have e5 : addL A (commentN ⟨[bt].toArray⟩) [⟨[bt].toArray⟩] = ((A.length : Int), 0, A ++ [blankN (commentN ⟨[bt].toArray⟩)]) := by
        rw [addL, if_neg (by rw [show longB [⟨[bt].toArray⟩] = false from rfl]; simp), if_neg (by omega)]
      rw [e5] at hO ⊢
      have t1 := t.tree.add (commentN ⟨[bt].toArray⟩) (Nat.zero_le _)
      have hwB : InA (A ++ [blankN (commentN ⟨[bt].toArray⟩)]) want := inA_new.2 (.inl hwA)
      have hidB : InA (A ++ [blankN (commentN ⟨[bt].toArray⟩)]) (A.length : Int) := inA_new.2 (.inr rfl)
      have hnB : nodeA (A ++ [blankN (commentN ⟨[bt].toArray⟩)]) (A.length : Int) = (blankN (commentN ⟨[bt].toArray⟩)).Node := by rw [nodeA, at_new]
      have hkw : parentB (nodeA (A ++ [blankN (commentN ⟨[bt].toArray⟩)]) want).Kind = true := by
        rw [nodeA, at_old hwA]; exact hw.par _ (by have := hwA.1; have := hwA.2; omega)
      have hki : (nodeA (A ++ [blankN (commentN ⟨[bt].toArray⟩)]) (A.length : Int)).Kind ≠ 0 ∧ (nodeA (A ++ [blankN (commentN ⟨[bt].toArray⟩)]) (A.length : Int)).Kind ≠ 5 := by rw [hnB]; exact ⟨show (3 : Int) ≠ 0 by decide, show (3 : Int) ≠ 5 by decide⟩
      have hfr : (nodeA (A ++ [blankN (commentN ⟨[bt].toArray⟩)]) (A.length : Int)).Parent = -1 := by rw [hnB]; rfl
      have hab : ¬ Anc (A ++ [blankN (commentN ⟨[bt].toArray⟩)]) want (A.length : Int) := fun h => anc_new t.tree h hwA rfl
      have hgo := link_go (before := -1) hwB hidB (.inl rfl) hkw hki hfr hab
      refine l_y rfl rfl (y_move rfl) ?_
      refine l_y rfl rfl (y_extract rfl rfl) ?_
      refine l_y rfl rfl (y_extract rfl rfl) ?_
      refine l_y rfl rfl (y_assign rfl) ?_
      refine l_y rfl rfl (y_assign rfl) ?_
      refine K2 (K3 (K0 (K0 (K1 ?_))))
      refine l_y rfl rfl (y_move rfl) ?_
      refine l_y rfl rfl (D8 (cs := [.int .i64 want, .int .i64 (-1)]) hO rfl) ?_
      refine l_y rfl rfl (y_move rfl) ?_
      refine CK [.o a] hO rfl (fun k' hx hr hO' => Put_spec t1 (by simp) hwB hidB hfr hkw hki hab (hO := hO')) ?_
      rintro _ _ w ⟨rfl, rfl⟩ hO
      simp only [List.cons_append, List.nil_append] at hO
      refine N4 ?_
      refine K2 (K3 (L9 (K5 (K3 (K0 (K1 ?_))))))
      refine l_y rfl rfl (y_move rfl) ?_
      refine l_y rfl rfl (y_move rfl) ?_
      have t2 := t1.link hgo
      refine CK [.o a] hO rfl (fun k' hx hr hO' => NodeD_spec (by rw [linkL_len]; simp) t2.attrs (hO := hO')) ?_
      rintro _ _ w ⟨x2, hx2, rfl, rfl⟩ hO
      simp only [List.cons_append, List.nil_append] at hO
      have e6 : x2.Last = (A.length : Int) := by rw [hx2.last (hwB.len linkL_len).b]; exact link_last t1 hgo
      refine l_y rfl rfl (y_move rfl) ?_
      refine l_y rfl rfl (y_extract rfl rfl) ?_
      refine l_y rfl rfl (y_extract rfl rfl) ?_
      refine s_alloc (vs := [.int .i64 0, .int .i64 0, .string ⟨#[]⟩, .slice none 0 0, .string ⟨#[]⟩, .string ⟨#[]⟩, .int .i64 0, .int .i64 0, .int .i64 0, .int .i64 0, .int .i64 0, .int .i64 0]) hO rfl rfl rfl fun b18 w hO => ?_
      refine Y3 hO rfl rfl (fun w hO => ?_)
      refine l_y rfl rfl (y_assign rfl) ?_
      refine K2 (K3 (K0 (K1 ?_)))
      refine l_y rfl rfl (y_fldb (o' := 8) rfl) ?_
      refine l_y rfl rfl (D5 hO rfl) ?_
      refine l_y rfl rfl (y_move rfl) ?_
      refine N2 (hp := e6) ?_
      refine l_y rfl rfl (y_assign rfl) ?_
      refine K2 (K3 (K6 ?_))
      exact fin1 rfl rfl ⟨_, rfl, hO⟩
    · refine K2 (K3 (L9 (K5 (K3 (K0 (K0 ?_))))))
      obtain ⟨want, hwant⟩ : ∃ want, want = target := ⟨_, rfl⟩
      have hsp : (spotV A l target false).1 = ⟨want, -1⟩ := by
        rw [e2, e4, hwant]
        first | rw [if_pos h9_2] | rw [if_neg (fun h => h h9_2)]
      have hwA : InA A want := by
        rw [hwant]
        first | exact hin.resolve_left h9_2 | exact inA_iff.1 hb
      rw [hsp] at hO ⊢
      rw [← hwant]
      refine K1 ?_
      refine l_y rfl rfl (y_fldb (o' := 0) rfl) ?_
      refine l_y rfl rfl (D5 hO rfl) ?_
      refine l_y rfl rfl (y_move rfl) ?_
      refine N4 (hp := rfl) ?_
      refine l_y rfl rfl (y_move rfl) ?_
      refine l_y rfl rfl (y_fldb (o' := 1) rfl) ?_
      refine l_y rfl rfl (D5 hO rfl) ?_
      refine N4 (hp := rfl) ?_
      refine l_y rfl rfl (y_pick_f rfl rfl) ?_
      refine K2 (K3 (L9 (K5 (K3 (K0 (K1 ?_))))))
      refine l_y rfl rfl (y_move rfl) ?_
      refine l_y rfl rfl (y_move rfl) ?_
      refine l_y rfl rfl (y_remN rfl rfl (by omega) (by decide)) ?_
      refine l_y (v := .int .u8 (bt.toNat : Int)) rfl rfl (y_arith (r := 97 + nm % 26) rfl rfl rfl (by rw [hbt, IntKind.wrap_u8]; omega)) ?_
      refine s_lit (parts := [(0, .tmp 80)]) (enc := (eI .u8)) [(bt.toNat : Int)] [.int .u8 (bt.toNat : Int)] hO rfl (fun b81 w hO => ?_)
      have hO2 : Own k w (sl (.slice (some ⟨b81, 0, none⟩) (by1 [bt]).length 1) 5 1 (by1 [bt]) :: _) := hO
      refine l_y rfl rfl (y_bytesStr (bs := [bt]) hO2 (.hd _ _) rfl) ?_
      refine CK [.o a] hO rfl (fun k' hx hr hO' => Comment_spec hn (by omega) (hO := hO')) ?_
      rintro _ _ w ⟨rfl, rfl⟩ hO
      simp only [List.cons_append, List.nil_append] at hO
      have e5 : addL A (commentN ⟨[bt].toArray⟩) [⟨[bt].toArray⟩] = ((A.length : Int), 0, A ++ [blankN (commentN ⟨[bt].toArray⟩)]) := by
        rw [addL, if_neg (by rw [show longB [⟨[bt].toArray⟩] = false from rfl]; simp), if_neg (by omega)]
      rw [e5] at hO ⊢
      have t1 := t.tree.add (commentN ⟨[bt].toArray⟩) (Nat.zero_le _)
      have hwB : InA (A ++ [blankN (commentN ⟨[bt].toArray⟩)]) want := inA_new.2 (.inl hwA)
      have hidB : InA (A ++ [blankN (commentN ⟨[bt].toArray⟩)]) (A.length : Int) := inA_new.2 (.inr rfl)
      have hnB : nodeA (A ++ [blankN (commentN ⟨[bt].toArray⟩)]) (A.length : Int) = (blankN (commentN ⟨[bt].toArray⟩)).Node := by rw [nodeA, at_new]
      have hkw : parentB (nodeA (A ++ [blankN (commentN ⟨[bt].toArray⟩)]) want).Kind = true := by
        rw [nodeA, at_old hwA]; exact hw.par _ (by have := hwA.1; have := hwA.2; omega)
      have hki : (nodeA (A ++ [blankN (commentN ⟨[bt].toArray⟩)]) (A.length : Int)).Kind ≠ 0 ∧ (nodeA (A ++ [blankN (commentN ⟨[bt].toArray⟩)]) (A.length : Int)).Kind ≠ 5 := by rw [hnB]; exact ⟨show (3 : Int) ≠ 0 by decide, show (3 : Int) ≠ 5 by decide⟩
      have hfr : (nodeA (A ++ [blankN (commentN ⟨[bt].toArray⟩)]) (A.length : Int)).Parent = -1 := by rw [hnB]; rfl
      have hab : ¬ Anc (A ++ [blankN (commentN ⟨[bt].toArray⟩)]) want (A.length : Int) := fun h => anc_new t.tree h hwA rfl
      have hgo := link_go (before := -1) hwB hidB (.inl rfl) hkw hki hfr hab
      refine l_y rfl rfl (y_move rfl) ?_
      refine l_y rfl rfl (y_extract rfl rfl) ?_
      refine l_y rfl rfl (y_extract rfl rfl) ?_
      refine l_y rfl rfl (y_assign rfl) ?_
      refine l_y rfl rfl (y_assign rfl) ?_
      refine K2 (K3 (K0 (K0 (K1 ?_))))
      refine l_y rfl rfl (y_move rfl) ?_
      refine l_y rfl rfl (D8 (cs := [.int .i64 want, .int .i64 (-1)]) hO rfl) ?_
      refine l_y rfl rfl (y_move rfl) ?_
      refine CK [.o a] hO rfl (fun k' hx hr hO' => Put_spec t1 (by simp) hwB hidB hfr hkw hki hab (hO := hO')) ?_
      rintro _ _ w ⟨rfl, rfl⟩ hO
      simp only [List.cons_append, List.nil_append] at hO
      refine N4 ?_
      refine K2 (K3 (L9 (K5 (K3 (K0 (K1 ?_))))))
      refine l_y rfl rfl (y_move rfl) ?_
      refine l_y rfl rfl (y_move rfl) ?_
      have t2 := t1.link hgo
      refine CK [.o a] hO rfl (fun k' hx hr hO' => NodeD_spec (by rw [linkL_len]; simp) t2.attrs (hO := hO')) ?_
      rintro _ _ w ⟨x2, hx2, rfl, rfl⟩ hO
      simp only [List.cons_append, List.nil_append] at hO
      have e6 : x2.Last = (A.length : Int) := by rw [hx2.last (hwB.len linkL_len).b]; exact link_last t1 hgo
      refine l_y rfl rfl (y_move rfl) ?_
      refine l_y rfl rfl (y_extract rfl rfl) ?_
      refine l_y rfl rfl (y_extract rfl rfl) ?_
      refine s_alloc (vs := [.int .i64 0, .int .i64 0, .string ⟨#[]⟩, .slice none 0 0, .string ⟨#[]⟩, .string ⟨#[]⟩, .int .i64 0, .int .i64 0, .int .i64 0, .int .i64 0, .int .i64 0, .int .i64 0]) hO rfl rfl rfl fun b18 w hO => ?_
      refine Y3 hO rfl rfl (fun w hO => ?_)
      refine l_y rfl rfl (y_assign rfl) ?_
      refine K2 (K3 (K0 (K1 ?_)))
      refine l_y rfl rfl (y_fldb (o' := 8) rfl) ?_
      refine l_y rfl rfl (D5 hO rfl) ?_
      refine l_y rfl rfl (y_move rfl) ?_
      refine N2 (hp := e6) ?_
      refine l_y rfl rfl (y_assign rfl) ?_
      refine K2 (K3 (K6 ?_))
      exact fin1 rfl rfl ⟨_, rfl, hO⟩
end
end Go.Proofs.Ytbhicbpfdbnpfaa
