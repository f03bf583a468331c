/- The walk of Sound, and of the law ShowSound; no condition. -/
import Derived.Test.YthkmnohghpdjhaaShw1
set_option linter.unusedVariables false
set_option linter.unusedSimpArgs false
set_option maxRecDepth 100000
namespace Go.Proofs.Ythkmnohghpdjhaa
open Go Go.Hb Go.RowKit
theorem head_drop {A : List Node_one} {l : List Int} (h : ∀ y ∈ l, InA A y) {j : Nat} (hc : headL (l.drop j) ≠ -1) : j < l.length ∧ headL (l.drop j) = at_ l j := by
  have hj : j < l.length := by
    rcases Nat.lt_or_ge j l.length with h | h
    · exact h
    · rw [List.drop_of_length_le h] at hc; exact absurd rfl hc
  exact ⟨hj, by rw [Go.Hb.drop_at hj]; rfl⟩
theorem head_end {A : List Node_one} {l : List Int} (h : ∀ y ∈ l, InA A y) {j : Nat} (hj : j ≤ l.length) (hc : headL (l.drop j) = -1) : j = l.length := by
  rcases Nat.lt_or_ge j l.length with h2 | h2
  · rw [Go.Hb.drop_at h2] at hc
    have := (h _ (at_mem h2)).1
    have e : at_ l j = -1 := hc
    omega
  · omega
section
variable {k : Ctx} {w : World}
set_option maxHeartbeats 4000000 in
theorem Sound_spec {a : Nat} {A : List Node_one} {K : Int → List Int} (t : Tree A K) (g : InnOk A) (kd : KndOk A) (dc : DocOk A) (hl : A.length ≤ 1000) (hO : Own k w [arenaL a A]) :
    Tri Try.prog 24 #[.pointer (some ⟨a, 0, none⟩)] k w fun v m => v = .bool true ∧ m = [arenaL a A] := by
  refine enter (args := [.pointer (some ⟨a, 0, none⟩)]) Try.func24 rfl rfl ?_
  have h0 : 0 < A.length := by have := dc.1.2; omega
  refine K0 (K1 ?_)
  refine l_y rfl rfl (y_assign rfl) ?_
  refine K2 (K3 (K0 (K0 (K1 ?_))))
  refine l_y rfl rfl (y_move rfl) ?_
  refine CK [.o a] hO rfl (fun k' hx hr hO' => LenC_spec h0 hO') ?_
  rintro _ _ w ⟨rfl, rfl⟩ hO
  simp only [List.cons_append, List.nil_append] at hO
  refine l_y rfl rfl (y_move rfl) ?_
  refine K2 (K3 (K4 ?_))
  refine c_rounds (X := Nat) (fun i => [(0, .pointer (some ⟨a, 0, none⟩)), (2, .bool false), (16, .int .i64 ((A.length : Nat) : Int)), (17, .int .i64 (i : Int))]) (fun i w => Own k w [arenaL a A] ∧ (i ≤ A.length)) (fun i => A.length - i) (0) ⟨rfl, rfl, rfl, rfl, trivial⟩ ⟨hO.only [.o a], Nat.zero_le _⟩ ?_
  rintro i w m hm ⟨hO, hi⟩
  refine K0 (K1 ?_)
  refine Z0 (fun h2_0 => ?_) (fun h2_0 => ?_)
  · refine K2 (K3 (K0 (L8 (K5 (K3 (K0 (K4 (K0 (K1 ?_)))))))))
    refine l_y rfl rfl (y_move rfl) ?_
    refine l_y rfl rfl (y_assign rfl) ?_
    refine K2 (K3 (K0 ?_))
    have hiA : InA A (i : Int) := ⟨by omega, by omega⟩
    have hlk := t.lnk _ hiA
    have hkin : ∀ y ∈ K (i : Int), InA A y := fun y hy => (hlk.mem hy).1
    have hkl := t.len hiA
    refine K1 ?_
    refine l_y rfl rfl (y_move rfl) ?_
    refine l_y rfl rfl (y_move rfl) ?_
    refine CK [.o a] hO rfl (fun k' hx hr hO' => NodeX_spec h0 t.attrs hO') ?_
    rintro _ _ w ⟨n, hn0, rfl, rfl⟩ hO
    simp only [List.cons_append, List.nil_append] at hO
    have hn := hn0
    refine l_y rfl rfl (y_move rfl) ?_
    refine l_y rfl rfl (y_extract rfl rfl) ?_
    refine l_y rfl rfl (y_extract rfl rfl) ?_
    refine s_alloc (vs := [.int .i64 0, .int .i64 0, .string ⟨#[]⟩, .slice none 0 0, .string ⟨#[]⟩, .string ⟨#[]⟩, .int .i64 0, .int .i64 0, .int .i64 0, .int .i64 0, .int .i64 0, .int .i64 0]) hO rfl rfl rfl fun b4 w hO => ?_
    refine Y3 hO rfl rfl (fun w hO => ?_)
    refine l_y rfl rfl (y_assign rfl) ?_
    refine K2 (K3 (K0 (K1 ?_)))
    refine l_y rfl rfl (y_assign rfl) ?_
    refine l_y rfl rfl (y_assign rfl) ?_
    refine K2 (K3 (K0 (K0 (K1 ?_))))
    refine l_y rfl rfl (y_fldb (o' := 7) rfl) ?_
    refine l_y rfl rfl (D5 hO rfl) ?_
    refine l_y rfl rfl (y_assign rfl) ?_
    rw [show n.First = headL ((K (i : Int)).drop 0) from by rw [hn.first hiA.b, List.drop_zero]; exact hlk.first]
    refine K2 (K3 (K4 ?_))
    refine c_rounds (X := Nat) (fun j => [(0, .pointer (some ⟨a, 0, none⟩)), (2, .bool false), (3, .int .i64 (i : Int)), (4, .pointer (some ⟨b4, 0, none⟩)), (6, .int .i64 (lastL ((K (i : Int)).take j))), (7, .int .i64 (j : Int)), (8, .int .i64 (headL ((K (i : Int)).drop j))), (16, .int .i64 ((A.length : Nat) : Int)), (17, .int .i64 (i : Int))]) (fun j w => Own k w [arenaL a A, blk b4 55 (Api_node.cells n)] ∧ (j ≤ (K (i : Int)).length)) (fun j => (K (i : Int)).length - j) (0) ⟨rfl, rfl, rfl, rfl, rfl, rfl, rfl, rfl, rfl, trivial⟩ ⟨hO.only [.o a, .b b4], Nat.zero_le _⟩ ?_
    rintro j w m hm ⟨hO, hj⟩
    refine K0 (K0 (K1 ?_))
    refine l_y rfl rfl (y_move rfl) ?_
    refine Z1 (fun h7_1 => ?_) (fun h7_1 => ?_)
    · refine K2 (K3 (L8 (K5 (K3 (K4 (K0 ?_))))))
      obtain ⟨hjl, hce⟩ := head_drop hkin h7_1
      obtain ⟨k1, k2, k3, k4⟩ := hlk.kid ((K (i : Int)).take j) (at_ (K (i : Int)) j) ((K (i : Int)).drop (j + 1)) (by rw [← Go.Hb.drop_at hjl, List.take_append_drop])
      have hce2 : headL ((K (i : Int)).drop j) = lastL ((K (i : Int)).take (j + 1)) := by rw [hce, take_succ_at hjl, lastL_app]
      have hE : errN A (headL ((K (i : Int)).drop j)) = 0 := by rw [hce, errN, if_pos k1.b]
      refine K1 ?_
      refine l_y rfl rfl (y_move rfl) ?_
      refine l_y rfl rfl (y_move rfl) ?_
      refine CK [.o a] hO rfl (fun k' hx hr hO' => NodeX_spec h0 t.attrs hO') ?_
      rintro _ _ w ⟨n9, hn9, rfl, rfl⟩ hO
      simp only [List.cons_append, List.nil_append] at hO
      rw [hce] at hn9
      have hP9 : n9.Parent = (i : Int) := (hn9.parent k1.b).trans k2
      have hV9 : n9.Prev = lastL ((K (i : Int)).take j) := (hn9.prev k1.b).trans k3
      have hX9 : n9.Next = headL ((K (i : Int)).drop (j + 1)) := (hn9.next k1.b).trans k4
      refine l_y rfl rfl (y_move rfl) ?_
      refine l_y rfl rfl (y_extract rfl rfl) ?_
      refine l_y rfl rfl (y_extract rfl rfl) ?_
      refine s_alloc (vs := [.int .i64 0, .int .i64 0, .string ⟨#[]⟩, .slice none 0 0, .string ⟨#[]⟩, .string ⟨#[]⟩, .int .i64 0, .int .i64 0, .int .i64 0, .int .i64 0, .int .i64 0, .int .i64 0]) hO rfl rfl rfl fun b9 w hO => ?_
      refine Y3 hO rfl rfl (fun w hO => ?_)
      refine l_y rfl rfl (y_assign rfl) ?_
      refine K2 (K3 (K0 (K0 (K1 ?_))))
      refine l_y rfl rfl (y_move rfl) ?_
      refine l_y rfl rfl (D4) ?_
      refine l_y rfl rfl (y_assign rfl) ?_
      refine K2 (K3 (K0 (K1 ?_)))
      refine l_y rfl rfl (y_move rfl) ?_
      refine N4 (hp := hE) ?_
      refine l_y rfl rfl (y_move rfl) ?_
      refine l_y rfl rfl (y_fldb (o' := 6) rfl) ?_
      refine l_y rfl rfl (D5 hO rfl) ?_
      refine l_y rfl rfl (y_move rfl) ?_
      refine N4 (hp := hP9) ?_
      refine l_y rfl rfl (y_pick_f rfl rfl) ?_
      refine l_y rfl rfl (y_move rfl) ?_
      refine l_y rfl rfl (y_fldb (o' := 9) rfl) ?_
      refine l_y rfl rfl (D5 hO rfl) ?_
      refine l_y rfl rfl (y_move rfl) ?_
      refine N4 (hp := hV9) ?_
      refine l_y rfl rfl (y_pick_f rfl rfl) ?_
      refine l_y rfl rfl (y_move rfl) ?_
      refine l_y rfl rfl (y_move rfl) ?_
      refine l_y rfl rfl (y_move rfl) ?_
      refine CK [.o a] hO rfl (fun k' hx hr hO' => LenC_spec h0 hO') ?_
      rintro _ _ w ⟨rfl, rfl⟩ hO
      simp only [List.cons_append, List.nil_append] at hO
      refine N3 (hp := (by omega)) ?_
      refine l_y rfl rfl (y_pick_f rfl rfl) ?_
      refine K2 (K3 (L9 (K5 (K3 ?_))))
      refine da_region (by intro c a d v w h; cases d <;> exact h) ?_
      have hO := hO.drew
      refine da_phase _ [] (SO.ks [.b b9] hO) ?_
      refine dx_u 0 (by kernel_rfl) rfl rfl rfl (fun w => y_move rfl) ?_
      refine dx_u 1 (by kernel_rfl) rfl rfl rfl (fun w => y_fldb (o' := 10) rfl) ?_
      refine dx_y 2 (by kernel_rfl) rfl rfl rfl (fun w ⟨m, hw⟩ => D5 hw rfl) ?_
      refine dx_u 3 (by kernel_rfl) rfl rfl rfl (fun w => y_assign rfl) ?_
      refine dx_u 4 (by kernel_rfl) rfl rfl rfl (fun w => y_assign rfl) ?_
      refine dx_end (by kernel_rfl) ?_
      refine K8 ?_
      rw [show headL ((K (i : Int)).drop j) = lastL ((K (i : Int)).take (j + 1)) from hce2, show n9.Next = headL ((K (i : Int)).drop (j + 1)) from hX9]
      exact q_next (j + 1) ⟨rfl, rfl, rfl, rfl, rfl, rfl, rfl, rfl, rfl, trivial⟩ ⟨hO.only [.o a, .b b4], by omega⟩ (by omega)
    · refine K2 (K3 (L9 (K7 (L1 (L1 (L2 (K3 ?_)))))))
      refine c_cut (X := Unit) (fun u => [(0, .pointer (some ⟨a, 0, none⟩)), (2, .bool false), (3, .int .i64 (i : Int)), (16, .int .i64 ((A.length : Nat) : Int)), (17, .int .i64 (i : Int))]) (fun u w => Own k w [arenaL a A] ∧ True) ?_ ?_
      · refine K4 (K0 (K0 ?_))
        have ej : j = (K (i : Int)).length := head_end hkin hj h7_1
        have hL : lastL ((K (i : Int)).take j) = n.Last := by rw [ej, List.take_length, hn.last hiA.b]; exact hlk.last.symm
        refine K1 ?_
        refine l_y rfl rfl (y_move rfl) ?_
        refine l_y rfl rfl (y_fldb (o' := 8) rfl) ?_
        refine l_y rfl rfl (D5 hO rfl) ?_
        refine N4 (hp := hL) ?_
        refine l_y rfl rfl (y_assign rfl) ?_
        refine K2 (K3 (L9 (K0 (K1 ?_))))
        refine l_y rfl rfl (y_move rfl) ?_
        refine Z0 (fun h14_1 => ?_) (fun h14_1 => ?_)
        · refine l_y rfl rfl (y_move rfl) ?_
          have hP0 : n.Parent = -1 := by
            rw [hn.parent hiA.b]
            rcases kd _ hiA with ⟨g1, _⟩ | ⟨_, g2⟩
            · have := dc.2; rw [h14_1] at g1; omega
            · exact g2
          refine l_y rfl rfl (y_fldb (o' := 6) rfl) ?_
          refine l_y rfl rfl (D5 hO rfl) ?_
          refine N4 (hp := hP0) ?_
          refine l_y rfl rfl (y_pick_t rfl rfl) ?_
          refine l_y rfl rfl (y_assign rfl) ?_
          refine K2 (K3 (L9 (K1 ?_)))
          refine l_y rfl rfl (y_fldb (o' := 11) rfl) ?_
          refine l_y rfl rfl (D5 hO rfl) ?_
          refine Z1 (fun h15_2 => ?_) (fun h15_2 => ?_)
          · refine l_y rfl rfl (y_move rfl) ?_
            refine l_y rfl rfl (y_move rfl) ?_
            refine l_y rfl rfl (y_fldb (o' := 11) rfl) ?_
            refine l_y rfl rfl (D5 hO rfl) ?_
            refine CK [.o a] hO rfl (fun k' hx hr hO' => HostC_spec h0 hO') ?_
            rintro _ _ w ⟨rfl, rfl⟩ hO
            simp only [List.cons_append, List.nil_append] at hO
            have hH : hostL A n.Inner = (i : Int) := by
              have e := hn.inner hiA.b
              rw [e] at h15_2 ⊢
              obtain ⟨g1, _, g3, _⟩ := g _ hiA h15_2
              rw [hostL, if_neg (by rw [g1.b]; simp)]
              exact g3
            refine l_y rfl rfl (y_move rfl) ?_
            refine N4 (hp := hH) ?_
            refine l_y rfl rfl (y_pick_t rfl rfl) ?_
            refine l_y rfl rfl (y_assign rfl) ?_
            refine K2 (K3 (L9 (K0 (K1 ?_))))
            refine l_y rfl rfl (y_move rfl) ?_
            refine l_y rfl rfl (y_move rfl) ?_
            refine CK [.o a] hO rfl (fun k' hx hr hO' => HostC_spec h0 hO') ?_
            rintro _ _ w ⟨rfl, rfl⟩ hO
            simp only [List.cons_append, List.nil_append] at hO
            refine Z1 (fun h17_3 => ?_) (fun h17_3 => ?_)
            · refine l_y rfl rfl (y_move rfl) ?_
              have hPp : n.Parent = -1 := by
                rw [hn.parent hiA.b]
                refine Classical.byContradiction fun hp => ?_
                have h5 := t.upK _ hiA hp
                have := t.hostK _ hiA h5
                rw [hostL, if_neg (by rw [hiA.b]; simp)] at h17_3
                exact h17_3 this
              refine l_y rfl rfl (y_fldb (o' := 6) rfl) ?_
              refine l_y rfl rfl (D5 hO rfl) ?_
              refine N4 (hp := hPp) ?_
              refine l_y rfl rfl (y_pick_t rfl rfl) ?_
              refine l_y rfl rfl (y_assign rfl) ?_
              refine K2 (K3 (L9 (K5 (K8 ?_))))
              exact q_cut (()) ⟨rfl, rfl, rfl, rfl, rfl, trivial⟩ ⟨hO.only [.o a], trivial⟩
            · refine l_y rfl rfl (y_move rfl) ?_
              repeat refine M2 ?_
              refine l_y rfl rfl (y_pick_f rfl rfl) ?_
              refine l_y rfl rfl (y_assign rfl) ?_
              refine K2 (K3 (L9 (K5 (K8 ?_))))
              exact q_cut (()) ⟨rfl, rfl, rfl, rfl, rfl, trivial⟩ ⟨hO.only [.o a], trivial⟩
          · refine l_y rfl rfl (y_move rfl) ?_
            repeat refine M2 ?_
            refine l_y rfl rfl (y_pick_f rfl rfl) ?_
            refine l_y rfl rfl (y_assign rfl) ?_
            refine K2 (K3 (L9 (K0 (K1 ?_))))
            refine l_y rfl rfl (y_move rfl) ?_
            refine l_y rfl rfl (y_move rfl) ?_
            refine CK [.o a] hO rfl (fun k' hx hr hO' => HostC_spec h0 hO') ?_
            rintro _ _ w ⟨rfl, rfl⟩ hO
            simp only [List.cons_append, List.nil_append] at hO
            refine Z1 (fun h17_3 => ?_) (fun h17_3 => ?_)
            · refine l_y rfl rfl (y_move rfl) ?_
              have hPp : n.Parent = -1 := by
                rw [hn.parent hiA.b]
                refine Classical.byContradiction fun hp => ?_
                have h5 := t.upK _ hiA hp
                have := t.hostK _ hiA h5
                rw [hostL, if_neg (by rw [hiA.b]; simp)] at h17_3
                exact h17_3 this
              refine l_y rfl rfl (y_fldb (o' := 6) rfl) ?_
              refine l_y rfl rfl (D5 hO rfl) ?_
              refine N4 (hp := hPp) ?_
              refine l_y rfl rfl (y_pick_t rfl rfl) ?_
              refine l_y rfl rfl (y_assign rfl) ?_
              refine K2 (K3 (L9 (K5 (K8 ?_))))
              exact q_cut (()) ⟨rfl, rfl, rfl, rfl, rfl, trivial⟩ ⟨hO.only [.o a], trivial⟩
            · refine l_y rfl rfl (y_move rfl) ?_
              repeat refine M2 ?_
              refine l_y rfl rfl (y_pick_f rfl rfl) ?_
              refine l_y rfl rfl (y_assign rfl) ?_
              refine K2 (K3 (L9 (K5 (K8 ?_))))
              exact q_cut (()) ⟨rfl, rfl, rfl, rfl, rfl, trivial⟩ ⟨hO.only [.o a], trivial⟩
        · refine l_y rfl rfl (y_move rfl) ?_
          repeat refine M2 ?_
          refine l_y rfl rfl (y_pick_f rfl rfl) ?_
          refine l_y rfl rfl (y_assign rfl) ?_
          refine K2 (K3 (L9 (K1 ?_)))
          refine l_y rfl rfl (y_fldb (o' := 11) rfl) ?_
          refine l_y rfl rfl (D5 hO rfl) ?_
          refine Z1 (fun h15_2 => ?_) (fun h15_2 => ?_)
          · refine l_y rfl rfl (y_move rfl) ?_
            refine l_y rfl rfl (y_move rfl) ?_
            refine l_y rfl rfl (y_fldb (o' := 11) rfl) ?_
            refine l_y rfl rfl (D5 hO rfl) ?_
            refine CK [.o a] hO rfl (fun k' hx hr hO' => HostC_spec h0 hO') ?_
            rintro _ _ w ⟨rfl, rfl⟩ hO
            simp only [List.cons_append, List.nil_append] at hO
            have hH : hostL A n.Inner = (i : Int) := by
              have e := hn.inner hiA.b
              rw [e] at h15_2 ⊢
              obtain ⟨g1, _, g3, _⟩ := g _ hiA h15_2
              rw [hostL, if_neg (by rw [g1.b]; simp)]
              exact g3
            refine l_y rfl rfl (y_move rfl) ?_
            refine N4 (hp := hH) ?_
            refine l_y rfl rfl (y_pick_t rfl rfl) ?_
            refine l_y rfl rfl (y_assign rfl) ?_
            refine K2 (K3 (L9 (K0 (K1 ?_))))
            refine l_y rfl rfl (y_move rfl) ?_
            refine l_y rfl rfl (y_move rfl) ?_
            refine CK [.o a] hO rfl (fun k' hx hr hO' => HostC_spec h0 hO') ?_
            rintro _ _ w ⟨rfl, rfl⟩ hO
            simp only [List.cons_append, List.nil_append] at hO
            refine Z1 (fun h17_3 => ?_) (fun h17_3 => ?_)
            · refine l_y rfl rfl (y_move rfl) ?_
              have hPp : n.Parent = -1 := by
                rw [hn.parent hiA.b]
                refine Classical.byContradiction fun hp => ?_
                have h5 := t.upK _ hiA hp
                have := t.hostK _ hiA h5
                rw [hostL, if_neg (by rw [hiA.b]; simp)] at h17_3
                exact h17_3 this
              refine l_y rfl rfl (y_fldb (o' := 6) rfl) ?_
              refine l_y rfl rfl (D5 hO rfl) ?_
              refine N4 (hp := hPp) ?_
              refine l_y rfl rfl (y_pick_t rfl rfl) ?_
              refine l_y rfl rfl (y_assign rfl) ?_
              refine K2 (K3 (L9 (K5 (K8 ?_))))
              exact q_cut (()) ⟨rfl, rfl, rfl, rfl, rfl, trivial⟩ ⟨hO.only [.o a], trivial⟩
            · refine l_y rfl rfl (y_move rfl) ?_
              repeat refine M2 ?_
              refine l_y rfl rfl (y_pick_f rfl rfl) ?_
              refine l_y rfl rfl (y_assign rfl) ?_
              refine K2 (K3 (L9 (K5 (K8 ?_))))
              exact q_cut (()) ⟨rfl, rfl, rfl, rfl, rfl, trivial⟩ ⟨hO.only [.o a], trivial⟩
          · refine l_y rfl rfl (y_move rfl) ?_
            repeat refine M2 ?_
            refine l_y rfl rfl (y_pick_f rfl rfl) ?_
            refine l_y rfl rfl (y_assign rfl) ?_
            refine K2 (K3 (L9 (K0 (K1 ?_))))
            refine l_y rfl rfl (y_move rfl) ?_
            refine l_y rfl rfl (y_move rfl) ?_
            refine CK [.o a] hO rfl (fun k' hx hr hO' => HostC_spec h0 hO') ?_
            rintro _ _ w ⟨rfl, rfl⟩ hO
            simp only [List.cons_append, List.nil_append] at hO
            refine Z1 (fun h17_3 => ?_) (fun h17_3 => ?_)
            · refine l_y rfl rfl (y_move rfl) ?_
              have hPp : n.Parent = -1 := by
                rw [hn.parent hiA.b]
                refine Classical.byContradiction fun hp => ?_
                have h5 := t.upK _ hiA hp
                have := t.hostK _ hiA h5
                rw [hostL, if_neg (by rw [hiA.b]; simp)] at h17_3
                exact h17_3 this
              refine l_y rfl rfl (y_fldb (o' := 6) rfl) ?_
              refine l_y rfl rfl (D5 hO rfl) ?_
              refine N4 (hp := hPp) ?_
              refine l_y rfl rfl (y_pick_t rfl rfl) ?_
              refine l_y rfl rfl (y_assign rfl) ?_
              refine K2 (K3 (L9 (K5 (K8 ?_))))
              exact q_cut (()) ⟨rfl, rfl, rfl, rfl, rfl, trivial⟩ ⟨hO.only [.o a], trivial⟩
            · refine l_y rfl rfl (y_move rfl) ?_
              repeat refine M2 ?_
              refine l_y rfl rfl (y_pick_f rfl rfl) ?_
              refine l_y rfl rfl (y_assign rfl) ?_
              refine K2 (K3 (L9 (K5 (K8 ?_))))
              exact q_cut (()) ⟨rfl, rfl, rfl, rfl, rfl, trivial⟩ ⟨hO.only [.o a], trivial⟩
      · rintro u w ⟨hO, _⟩
        refine K0 (K1 ?_)
        refine l_y rfl rfl (y_assign rfl) ?_
        refine K2 (K3 (K0 (K1 ?_)))
        refine l_y rfl rfl (y_move rfl) ?_
        refine l_y rfl rfl (y_assign rfl) ?_
        refine K2 (K3 (K4 ?_))
        refine c_rounds (X := Nat × Int) (fun s => [(0, .pointer (some ⟨a, 0, none⟩)), (2, .bool false), (11, .int .i64 (s.1 : Int)), (12, .int .i64 s.2), (16, .int .i64 ((A.length : Nat) : Int)), (17, .int .i64 (i : Int))]) (fun s w => Own k w [arenaL a A] ∧ (s.2 = -1 ∨ InA A s.2 ∧ s.1 + 1 ≤ cnt A s.2)) (fun s => A.length + 1 - s.1) ((0, (i : Int))) ⟨rfl, rfl, rfl, rfl, rfl, rfl, trivial⟩ ⟨hO.only [.o a], .inr ⟨hiA, cnt_pos hiA⟩⟩ ?_
        rintro s w m hm ⟨hO, hu⟩
        refine K0 (K0 (K1 ?_))
        refine l_y rfl rfl (y_move rfl) ?_
        refine Z1 (fun h21_1 => ?_) (fun h21_1 => ?_)
        · refine K2 (K3 (L8 (K5 (K3 (K0 (K4 (K0 ?_)))))))
          obtain ⟨huA, huc⟩ : InA A s.2 ∧ s.1 + 1 ≤ cnt A s.2 := hu.resolve_left h21_1
          have hcl := cnt_le (A := A) (x := s.2)
          refine K1 ?_
          refine l_y rfl rfl (y_move rfl) ?_
          refine l_y rfl rfl (y_move rfl) ?_
          refine CK [.o a] hO rfl (fun k' hx hr hO' => NodeX_spec h0 t.attrs hO') ?_
          rintro _ _ w ⟨n13, hn13, rfl, rfl⟩ hO
          simp only [List.cons_append, List.nil_append] at hO
          have hu2 : n13.Parent = -1 ∨ InA A n13.Parent ∧ s.1 + 1 + 1 ≤ cnt A n13.Parent := by
            rw [hn13.parent huA.b]
            by_cases hp : (nodeA A s.2).Parent = -1
            · exact .inl hp
            · obtain ⟨p1, p2⟩ := t.up _ huA hp
              have p3 := kids_cnt t p1
              have p4 := sum_mem (f := cnt A) p2
              exact .inr ⟨p1, by omega⟩
          refine l_y rfl rfl (y_move rfl) ?_
          refine l_y rfl rfl (y_extract rfl rfl) ?_
          refine l_y rfl rfl (y_extract rfl rfl) ?_
          refine s_alloc (vs := [.int .i64 0, .int .i64 0, .string ⟨#[]⟩, .slice none 0 0, .string ⟨#[]⟩, .string ⟨#[]⟩, .int .i64 0, .int .i64 0, .int .i64 0, .int .i64 0, .int .i64 0, .int .i64 0]) hO rfl rfl rfl fun b13 w hO => ?_
          refine Y3 hO rfl rfl (fun w hO => ?_)
          refine l_y rfl rfl (y_assign rfl) ?_
          refine K2 (K3 (K0 (K1 ?_)))
          refine l_y rfl rfl (y_fldb (o' := 6) rfl) ?_
          refine l_y rfl rfl (D5 hO rfl) ?_
          refine l_y rfl rfl (y_assign rfl) ?_
          refine K2 (K3 (K0 (K1 ?_)))
          refine l_y rfl rfl (y_move rfl) ?_
          refine l_y rfl rfl (y_move rfl) ?_
          refine CK [.o a] hO rfl (fun k' hx hr hO' => LenC_spec h0 hO') ?_
          rintro _ _ w ⟨rfl, rfl⟩ hO
          simp only [List.cons_append, List.nil_append] at hO
          refine N3 (hp := (by omega)) ?_
          refine K2 (K3 (L9 (K5 (K8 (K3 (K1 ?_))))))
          refine l_y rfl rfl (y_move rfl) ?_
          refine l_y rfl rfl (D4) ?_
          refine l_y rfl rfl (y_assign rfl) ?_
          refine K2 ?_
          exact q_next ((s.1 + 1, n13.Parent)) ⟨rfl, rfl, rfl, rfl, rfl, rfl, trivial⟩ ⟨hO.only [.o a], hu2⟩ (by have := cnt_le (A := A) (x := s.2); dsimp only; omega)
        · refine K2 (K3 (L9 (K7 (L1 (L1 (L2 (K8 (K3 (K1 ?_)))))))))
          refine l_y rfl rfl (D4) ?_
          refine l_y rfl rfl (y_move rfl) ?_
          refine K2 ?_
          exact q_next (i + 1) ⟨rfl, rfl, rfl, rfl, trivial⟩ ⟨hO.only [.o a], by omega⟩ (by omega)
  · refine K2 (K3 (K0 (L9 (K7 (L1 (L1 (L2 (K3 (K0 (K1 ?_))))))))))
    refine l_y rfl rfl (y_move rfl) ?_
    refine CK [.o a] hO rfl (fun k' hx hr hO' => LenC_spec h0 hO') ?_
    rintro _ _ w ⟨rfl, rfl⟩ hO
    simp only [List.cons_append, List.nil_append] at hO
    refine N2 (hp := (by omega)) ?_
    refine l_y rfl rfl (y_assign rfl) ?_
    refine K2 (K3 (K6 ?_))
    exact fin1 rfl rfl ⟨_, ⟨rfl, rfl⟩, hO⟩
theorem ShowSound_spec {p : Option Addr} {c : Nat} {l : List Law03_op} (hs : Scr3 k p c l) (hO : Own k w []) :
    Tri Try.prog 8 #[.slice p l.length c] k w fun v m => v = .bool true := by
  refine enter (args := [.slice p l.length c]) Try.func8 rfl rfl ?_
  refine K0 (K1 ?_)
  refine l_y rfl rfl (y_assign rfl) ?_
  refine K2 (K3 (K0 (K1 ?_)))
  refine l_y rfl rfl (y_move rfl) ?_
  refine CK [] hO rfl (fun k' hx hr hO' => build_spec ⟨hs.sli.ext hO hx, fun o ho => (hs.one o ho).ext hO hx⟩ hO') ?_
  rintro _ _ w ⟨a, r, A, K, R, rfl, t, rfl⟩ hO
  simp only [List.cons_append, List.nil_append] at hO
  have hlen := t.len
  refine l_y rfl rfl (y_move rfl) ?_
  refine l_y rfl rfl (y_extract rfl rfl) ?_
  refine l_y rfl rfl (y_extract rfl rfl) ?_
  refine l_y rfl rfl (y_assign rfl) ?_
  refine l_y rfl rfl (y_assign rfl) ?_
  refine K2 (K3 (K0 (K1 ?_)))
  refine l_y rfl rfl (y_move rfl) ?_
  refine l_y rfl rfl (y_nePnil rfl rfl rfl) ?_
  refine l_y rfl rfl (y_move rfl) ?_
  refine l_y rfl rfl (y_move rfl) ?_
  refine CK [.o a] hO rfl (fun k' hx hr hO' => Sound_spec t.two.tree t.inn t.knd t.doc (by omega) hO') ?_
  rintro _ _ w ⟨rfl, rfl⟩ hO
  simp only [List.cons_append, List.nil_append] at hO
  refine l_y rfl rfl (y_pick_t rfl rfl) ?_
  refine l_y rfl rfl (y_move rfl) ?_
  refine CK [] hO rfl (fun k' hx hr hO' => awake03_spec (hO := hO')) ?_
  rintro _ _ w ⟨rfl, rfl⟩ hO
  simp only [List.cons_append, List.nil_append] at hO
  refine l_y rfl rfl (y_pick_t rfl rfl) ?_
  refine l_y rfl rfl (y_assign rfl) ?_
  refine K2 (K3 (K6 ?_))
  exact fin1 rfl rfl ⟨_, rfl, hO⟩
end
end Go.Proofs.Ythkmnohghpdjhaa
