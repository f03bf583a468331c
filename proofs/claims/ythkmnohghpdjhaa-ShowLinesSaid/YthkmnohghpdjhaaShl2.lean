/- What the row of this folder leans on, part 2: the walks of the functions and the laws of what they compute; no condition. -/
import Derived.Test.YthkmnohghpdjhaaShl1
section
set_option linter.unusedVariables false
set_option linter.unusedSimpArgs false
set_option maxRecDepth 100000
namespace Go.Proofs.Ythkmnohghpdjhaa
open Go Go.Hb Go.RowKit
section
variable {k : Ctx} {w : World}
set_option maxHeartbeats 4000000 in
theorem Same1_spec {a : Nat} {A : List Node_one} {K : Int → List Int} {x y : Int} (t : Tree A K) (g : InnOk A) (h0 : 0 < A.length) (hl : A.length ≤ 1000) (hO : Own k w [arenaL a A]) :
    Tri Try.prog 21 #[.pointer (some ⟨a, 0, none⟩), .int .i64 x, .pointer (some ⟨a, 0, none⟩), .int .i64 y] k w fun v m => v = .bool (sameN A K A K x y) ∧ m = [arenaL a A] := by
  refine enter (args := [.pointer (some ⟨a, 0, none⟩), .int .i64 x, .pointer (some ⟨a, 0, none⟩), .int .i64 y]) Try.func21 rfl rfl ?_
  refine K0 (K1 ?_)
  refine l_y rfl rfl (y_assign rfl) ?_
  refine K2 (K3 (K0 (K1 ?_)))
  refine s_alloc (vs := [.slice none 0 0]) hO rfl rfl rfl fun b9 w hO => ?_
  refine K2 (K3 (K0 ?_))
  have hO := piletwin_shut (xs := []) (hO.ks [.b b9] |> sl_nil 124 2 |> Own.swap)
  refine K1 ?_
  refine l_y rfl rfl (y_move rfl) ?_
  refine l_y rfl rfl (y_move rfl) ?_
  refine s_build (parts := [(0, .tmp 19), (1, .tmp 20)]) (cs := [.int .i64 x, .int .i64 y]) rfl rfl (fun a ha => partsOf_sound ha _ _ rfl) (by kernel_rfl) ?_
  refine s_lit (parts := [(0, .tmp 21)]) (enc := Show_twin.cells) [⟨x, y⟩] [.agg [.int .i64 x, .int .i64 y].toArray] hO rfl (fun b22 w hO => ?_)
  refine CK [.o b9] hO rfl (fun k' hx hr hO' => pushtwin_spec (ys := [⟨x, y⟩]) (sls_roK (p := some ⟨b22, 0, none⟩) hr (sls_fct hO)) (by simp) (hO := hO')) ?_
  rintro _ _ w rfl hO
  simp only [List.cons_append, List.nil_append] at hO
  refine K2 (K3 (K0 (K0 (K1 ?_))))
  refine CK [.o b9] hO rfl (fun k' hx hr hO' => poptwin_spec (xs := []) (x := ⟨x, y⟩) (by simp) (hO := hO')) ?_
  rintro _ _ w ⟨rfl, rfl⟩ hO
  simp only [List.cons_append, List.nil_append] at hO
  refine l_y rfl rfl (y_move rfl) ?_
  refine l_y rfl rfl (y_extract rfl rfl) ?_
  refine l_y rfl rfl (y_extract rfl rfl) ?_
  refine s_alloc (vs := [.int .i64 0, .int .i64 0]) hO rfl rfl rfl fun b10 w hO => ?_
  refine Y3 hO rfl rfl (fun w hO => ?_)
  refine l_y rfl rfl (y_assign rfl) ?_
  refine K2 (K3 (K4 ?_))
  refine c_rounds (X := Nat × Bool × Show_twin × List Show_twin) (fun s => [(0, .pointer (some ⟨a, 0, none⟩)), (2, .pointer (some ⟨a, 0, none⟩)), (8, .bool false), (9, .pointer (some ⟨b9, 0, none⟩)), (10, .pointer (some ⟨s.1, 0, none⟩)), (11, .bool s.2.1)]) (fun s w => Own k w [arenaL a A, piletwin b9 s.2.2.2, blk s.1 124 (Show_twin.cells s.2.2.1)] ∧ (SmI A K A K x y s.2.1 s.2.2.1 s.2.2.2)) (fun s => (if s.2.1 = true then cnt A s.2.2.1.x else 0) + sumT A s.2.2.2) ((b10, true, ⟨x, y⟩, [])) ⟨rfl, rfl, rfl, rfl, rfl, rfl, trivial⟩ ⟨hO.only [.o a, .o b9, .b b10], SmI.start⟩ ?_
  rintro s w m hm ⟨hO, hI⟩
  refine K0 (K0 (K1 ?_))
  refine l_y rfl rfl (y_move rfl) ?_
  refine K2 (K3 ?_)
  refine c_split rfl (fun hc28 => ?_) (fun hc28 => ?_)
  · refine K5 (K3 (K0 (K4 (K0 ?_))))
    have hI := hI
    have hm0 := hm
    rw [hc28, if_pos rfl] at hm0
    rw [hc28] at hI
    have hsl := hI.sum
    rw [if_pos rfl] at hsl
    have hstk := sumT_len hI.all
    refine K1 ?_
    refine l_y rfl rfl (y_move rfl) ?_
    refine l_y rfl rfl (y_fldb (o' := 0) rfl) ?_
    refine l_y rfl rfl (D5 hO rfl) ?_
    refine CK [.o a] hO rfl (fun k' hx hr hO' => NodeX_spec h0 t.attrs hO') ?_
    rintro _ _ w ⟨n, hn, rfl, rfl⟩ hO
    simp only [List.cons_append, List.nil_append] at hO
    refine l_y rfl rfl (y_move rfl) ?_
    refine l_y rfl rfl (y_extract rfl rfl) ?_
    refine l_y rfl rfl (y_extract rfl rfl) ?_
    refine s_alloc (vs := [.int .i64 0, .int .i64 0, .string ⟨#[]⟩, .slice none 0 0, .string ⟨#[]⟩, .string ⟨#[]⟩, .int .i64 0, .int .i64 0, .int .i64 0, .int .i64 0, .int .i64 0, .int .i64 0]) hO rfl rfl rfl fun b12 w hO => ?_
    refine Y3 hO rfl rfl (fun w hO => ?_)
    refine l_y rfl rfl (y_assign rfl) ?_
    refine K2 (K3 (K0 (K1 ?_)))
    refine l_y rfl rfl (y_move rfl) ?_
    refine l_y rfl rfl (y_fldb (o' := 1) rfl) ?_
    refine l_y rfl rfl (D5 hO rfl) ?_
    refine CK [.o a] hO rfl (fun k' hx hr hO' => NodeX_spec h0 t.attrs hO') ?_
    rintro _ _ w ⟨n2, hn2, rfl, rfl⟩ hO
    simp only [List.cons_append, List.nil_append] at hO
    refine l_y rfl rfl (y_move rfl) ?_
    refine l_y rfl rfl (y_extract rfl rfl) ?_
    refine l_y rfl rfl (y_extract rfl rfl) ?_
    refine s_alloc (vs := [.int .i64 0, .int .i64 0, .string ⟨#[]⟩, .slice none 0 0, .string ⟨#[]⟩, .string ⟨#[]⟩, .int .i64 0, .int .i64 0, .int .i64 0, .int .i64 0, .int .i64 0, .int .i64 0]) hO rfl rfl rfl fun b14 w hO => ?_
    refine Y3 hO rfl rfl (fun w hO => ?_)
    refine l_y rfl rfl (y_assign rfl) ?_
    refine K2 (K3 (K0 ?_))
    refine da_region (by intro c a d v w h; cases d <;> exact h) ?_
    have hO := hO.drew
    refine da_phase _ [7] (SO.ks [.b s.1] hO) ?_
    refine dx_u 0 (by kernel_rfl) rfl rfl rfl (fun w => y_move rfl) ?_
    refine dx_u 1 (by kernel_rfl) rfl rfl rfl (fun w => y_fldb (o' := 0) rfl) ?_
    refine dx_y 2 (by kernel_rfl) rfl rfl rfl (fun w ⟨m, hw⟩ => D5 hw rfl) ?_
    refine dx_u 4 (by kernel_rfl) rfl rfl rfl (fun w => y_move rfl) ?_
    refine dx_u 5 (by kernel_rfl) rfl rfl rfl (fun w => y_fldb (o' := 1) rfl) ?_
    refine dx_y 6 (by kernel_rfl) rfl rfl rfl (fun w ⟨m, hw⟩ => D5 hw rfl) ?_
    refine dx_only 3 (by kernel_rfl) rfl rfl ?_
    refine CK [.o a] hO rfl (fun k' hx hr hO' => KidsX_spec t h0 (by omega) hO') ?_
    rintro _ _ w ⟨q1, d1, rfl, rfl⟩ hO
    simp only [List.cons_append, List.nil_append] at hO
    refine o_done ?_
    refine ⟨SO.ks [.b s.1] hO, ?_⟩
    refine dx_close 7 (by kernel_rfl) rfl rfl ?_
    refine CK [.o a] hO rfl (fun k' hx hr hO' => KidsX_spec t h0 (by omega) hO') ?_
    rintro _ _ w ⟨q2, d2, rfl, rfl⟩ hO
    simp only [List.cons_append, List.nil_append] at hO
    refine o_done ?_
    refine da_phase _ [] (SO.ks [] hO) ?_
    refine dx_u 8 (by kernel_rfl) rfl rfl rfl (fun w => y_assign rfl) ?_
    refine dx_u 9 (by kernel_rfl) rfl rfl rfl (fun w => y_assign rfl) ?_
    refine dx_end (by kernel_rfl) ?_
    refine K3 ?_
    refine c_cut (X := List Show_twin) (fun l1 => [(0, .pointer (some ⟨a, 0, none⟩)), (2, .pointer (some ⟨a, 0, none⟩)), (8, .bool false), (9, .pointer (some ⟨b9, 0, none⟩)), (10, .pointer (some ⟨s.1, 0, none⟩)), (16, .slice q1 (kidsX A K s.2.2.1.x).length d1), (17, .slice q2 (kidsX A K s.2.2.1.y).length d2)]) (fun l1 w => Own k w [arenaL a A, piletwin b9 l1, blk s.1 124 (Show_twin.cells s.2.2.1), sls q1 d1 3 1 (eI .i64) (kidsX A K s.2.2.1.x), sls q2 d2 3 1 (eI .i64) (kidsX A K s.2.2.1.y)] ∧ (Loc A K A K s.2.2.1.x s.2.2.1.y) ∧ (l1 = s.2.2.2 ++ innT1 A A s.2.2.1.x s.2.2.1.y)) ?_ ?_
    · refine K4 (K0 (K1 ?_))
      refine l_y rfl rfl (y_move rfl) ?_
      refine Z1 (fun h9_1 => ?_) (fun h9_1 => ?_)
      · refine l_y rfl rfl (y_move rfl) ?_
        repeat refine M2 ?_
        refine l_y rfl rfl (y_pick_t rfl rfl) ?_
        refine l_y rfl rfl (y_move rfl) ?_
        repeat refine M2 ?_
        refine l_y rfl rfl (y_pick_t rfl rfl) ?_
        refine l_y rfl rfl (y_move rfl) ?_
        repeat refine M2 ?_
        refine l_y rfl rfl (y_pick_t rfl rfl) ?_
        refine l_y rfl rfl (y_move rfl) ?_
        repeat refine M2 ?_
        refine l_y rfl rfl (y_pick_t rfl rfl) ?_
        refine l_y rfl rfl (y_move rfl) ?_
        repeat refine M2 ?_
        refine l_y rfl rfl (y_pick_t rfl rfl) ?_
        refine l_y rfl rfl (y_move rfl) ?_
        repeat refine M2 ?_
        refine l_y rfl rfl (y_pick_t rfl rfl) ?_
        refine l_y rfl rfl (y_assign rfl) ?_
        refine K2 (K3 (L8 (K0 (K1 ?_))))
        refine l_y rfl rfl (y_assign rfl) ?_
        refine K2 (K3 (K6 (L0 (K9 (L0 (K9 (K9 (L0 (K9 ?_)))))))))
        have hno : ¬ Loc A K A K s.2.2.1.x s.2.2.1.y := by
          intro hl
          first | exact h9_1 (by rw [errN, if_pos hl.ha]) | exact h9_4 (by rw [errN, if_pos hl.hb]) | exact h9_11 (by rw [hn.kind hl.ha, hn2.kind hl.hb]; exact hl.kind) | exact h9_18 (by rw [hn.space hl.ha, hn2.space hl.hb]; exact hl.space) | exact h9_25 (by rw [hn.name hl.ha, hn2.name hl.hb]; exact hl.name) | exact h9_32 (by rw [hn.data hl.ha, hn2.data hl.hb]; exact hl.data) | exact h9_39 (by rw [hn.system hl.ha, hn2.system hl.hb]; exact hl.system)
        exact fin1 rfl rfl ⟨_, ⟨by rw [hI.res, sameN_no t g hno]; simp, rfl⟩, hO.only [.o a]⟩
      · refine l_y rfl rfl (y_move rfl) ?_
        refine l_y rfl rfl (y_move rfl) ?_
        refine Z1 (fun h9_4 => ?_) (fun h9_4 => ?_)
        · refine l_y rfl rfl (y_pick_f rfl rfl) ?_
          refine l_y rfl rfl (y_move rfl) ?_
          repeat refine M2 ?_
          refine l_y rfl rfl (y_pick_t rfl rfl) ?_
          refine l_y rfl rfl (y_move rfl) ?_
          repeat refine M2 ?_
          refine l_y rfl rfl (y_pick_t rfl rfl) ?_
          refine l_y rfl rfl (y_move rfl) ?_
          repeat refine M2 ?_
          refine l_y rfl rfl (y_pick_t rfl rfl) ?_
          refine l_y rfl rfl (y_move rfl) ?_
          repeat refine M2 ?_
          refine l_y rfl rfl (y_pick_t rfl rfl) ?_
          refine l_y rfl rfl (y_move rfl) ?_
          repeat refine M2 ?_
          refine l_y rfl rfl (y_pick_t rfl rfl) ?_
          refine l_y rfl rfl (y_assign rfl) ?_
          refine K2 (K3 (L8 (K0 (K1 ?_))))
          refine l_y rfl rfl (y_assign rfl) ?_
          refine K2 (K3 (K6 (L0 (K9 (L0 (K9 (K9 (L0 (K9 ?_)))))))))
          have hno : ¬ Loc A K A K s.2.2.1.x s.2.2.1.y := by
            intro hl
            first | exact h9_1 (by rw [errN, if_pos hl.ha]) | exact h9_4 (by rw [errN, if_pos hl.hb]) | exact h9_11 (by rw [hn.kind hl.ha, hn2.kind hl.hb]; exact hl.kind) | exact h9_18 (by rw [hn.space hl.ha, hn2.space hl.hb]; exact hl.space) | exact h9_25 (by rw [hn.name hl.ha, hn2.name hl.hb]; exact hl.name) | exact h9_32 (by rw [hn.data hl.ha, hn2.data hl.hb]; exact hl.data) | exact h9_39 (by rw [hn.system hl.ha, hn2.system hl.hb]; exact hl.system)
          exact fin1 rfl rfl ⟨_, ⟨by rw [hI.res, sameN_no t g hno]; simp, rfl⟩, hO.only [.o a]⟩
        · refine l_y rfl rfl (y_pick_f rfl rfl) ?_
          refine l_y rfl rfl (y_move rfl) ?_
          have hax := errN_zero h9_1
          have hbx := errN_zero h9_4
          refine l_y rfl rfl (y_fldb (o' := 0) rfl) ?_
          refine l_y rfl rfl (D5 hO rfl) ?_
          refine l_y rfl rfl (y_fldb (o' := 0) rfl) ?_
          refine l_y rfl rfl (D5 hO rfl) ?_
          refine Z1 (fun h9_11 => ?_) (fun h9_11 => ?_)
          · refine l_y rfl rfl (y_pick_f rfl rfl) ?_
            refine l_y rfl rfl (y_move rfl) ?_
            repeat refine M2 ?_
            refine l_y rfl rfl (y_pick_t rfl rfl) ?_
            refine l_y rfl rfl (y_move rfl) ?_
            repeat refine M2 ?_
            refine l_y rfl rfl (y_pick_t rfl rfl) ?_
            refine l_y rfl rfl (y_move rfl) ?_
            repeat refine M2 ?_
            refine l_y rfl rfl (y_pick_t rfl rfl) ?_
            refine l_y rfl rfl (y_move rfl) ?_
            repeat refine M2 ?_
            refine l_y rfl rfl (y_pick_t rfl rfl) ?_
            refine l_y rfl rfl (y_assign rfl) ?_
            refine K2 (K3 (L8 (K0 (K1 ?_))))
            refine l_y rfl rfl (y_assign rfl) ?_
            refine K2 (K3 (K6 (L0 (K9 (L0 (K9 (K9 (L0 (K9 ?_)))))))))
            have hno : ¬ Loc A K A K s.2.2.1.x s.2.2.1.y := by
              intro hl
              first | exact h9_1 (by rw [errN, if_pos hl.ha]) | exact h9_4 (by rw [errN, if_pos hl.hb]) | exact h9_11 (by rw [hn.kind hl.ha, hn2.kind hl.hb]; exact hl.kind) | exact h9_18 (by rw [hn.space hl.ha, hn2.space hl.hb]; exact hl.space) | exact h9_25 (by rw [hn.name hl.ha, hn2.name hl.hb]; exact hl.name) | exact h9_32 (by rw [hn.data hl.ha, hn2.data hl.hb]; exact hl.data) | exact h9_39 (by rw [hn.system hl.ha, hn2.system hl.hb]; exact hl.system)
            exact fin1 rfl rfl ⟨_, ⟨by rw [hI.res, sameN_no t g hno]; simp, rfl⟩, hO.only [.o a]⟩
          · refine l_y rfl rfl (y_pick_f rfl rfl) ?_
            refine l_y rfl rfl (y_move rfl) ?_
            refine l_y rfl rfl (y_fldb (o' := 1) rfl) ?_
            refine l_y rfl rfl (D5 hO rfl) ?_
            refine l_y rfl rfl (y_fldb (o' := 1) rfl) ?_
            refine l_y rfl rfl (D5 hO rfl) ?_
            refine Z1 (fun h9_18 => ?_) (fun h9_18 => ?_)
            · refine l_y rfl rfl (y_pick_f rfl rfl) ?_
              refine l_y rfl rfl (y_move rfl) ?_
              repeat refine M2 ?_
              refine l_y rfl rfl (y_pick_t rfl rfl) ?_
              refine l_y rfl rfl (y_move rfl) ?_
              repeat refine M2 ?_
              refine l_y rfl rfl (y_pick_t rfl rfl) ?_
              refine l_y rfl rfl (y_move rfl) ?_
              repeat refine M2 ?_
              refine l_y rfl rfl (y_pick_t rfl rfl) ?_
              refine l_y rfl rfl (y_assign rfl) ?_
              refine K2 (K3 (L8 (K0 (K1 ?_))))
              refine l_y rfl rfl (y_assign rfl) ?_
              refine K2 (K3 (K6 (L0 (K9 (L0 (K9 (K9 (L0 (K9 ?_)))))))))
              have hno : ¬ Loc A K A K s.2.2.1.x s.2.2.1.y := by
                intro hl
                first | exact h9_1 (by rw [errN, if_pos hl.ha]) | exact h9_4 (by rw [errN, if_pos hl.hb]) | exact h9_11 (by rw [hn.kind hl.ha, hn2.kind hl.hb]; exact hl.kind) | exact h9_18 (by rw [hn.space hl.ha, hn2.space hl.hb]; exact hl.space) | exact h9_25 (by rw [hn.name hl.ha, hn2.name hl.hb]; exact hl.name) | exact h9_32 (by rw [hn.data hl.ha, hn2.data hl.hb]; exact hl.data) | exact h9_39 (by rw [hn.system hl.ha, hn2.system hl.hb]; exact hl.system)
              exact fin1 rfl rfl ⟨_, ⟨by rw [hI.res, sameN_no t g hno]; simp, rfl⟩, hO.only [.o a]⟩
            · refine l_y rfl rfl (y_pick_f rfl rfl) ?_
              refine l_y rfl rfl (y_move rfl) ?_
              refine l_y rfl rfl (y_fldb (o' := 2) rfl) ?_
              refine l_y rfl rfl (D5 hO rfl) ?_
              refine l_y rfl rfl (y_fldb (o' := 2) rfl) ?_
              refine l_y rfl rfl (D5 hO rfl) ?_
              refine Z3 (fun h9_25 => ?_) (fun h9_25 => ?_)
              · refine l_y rfl rfl (y_pick_f rfl rfl) ?_
                refine l_y rfl rfl (y_move rfl) ?_
                repeat refine M2 ?_
                refine l_y rfl rfl (y_pick_t rfl rfl) ?_
                refine l_y rfl rfl (y_move rfl) ?_
                repeat refine M2 ?_
                refine l_y rfl rfl (y_pick_t rfl rfl) ?_
                refine l_y rfl rfl (y_assign rfl) ?_
                refine K2 (K3 (L8 (K0 (K1 ?_))))
                refine l_y rfl rfl (y_assign rfl) ?_
                refine K2 (K3 (K6 (L0 (K9 (L0 (K9 (K9 (L0 (K9 ?_)))))))))
                have hno : ¬ Loc A K A K s.2.2.1.x s.2.2.1.y := by
                  intro hl
                  first | exact h9_1 (by rw [errN, if_pos hl.ha]) | exact h9_4 (by rw [errN, if_pos hl.hb]) | exact h9_11 (by rw [hn.kind hl.ha, hn2.kind hl.hb]; exact hl.kind) | exact h9_18 (by rw [hn.space hl.ha, hn2.space hl.hb]; exact hl.space) | exact h9_25 (by rw [hn.name hl.ha, hn2.name hl.hb]; exact hl.name) | exact h9_32 (by rw [hn.data hl.ha, hn2.data hl.hb]; exact hl.data) | exact h9_39 (by rw [hn.system hl.ha, hn2.system hl.hb]; exact hl.system)
                exact fin1 rfl rfl ⟨_, ⟨by rw [hI.res, sameN_no t g hno]; simp, rfl⟩, hO.only [.o a]⟩
              · refine l_y rfl rfl (y_pick_f rfl rfl) ?_
                refine l_y rfl rfl (y_move rfl) ?_
                refine l_y rfl rfl (y_fldb (o' := 4) rfl) ?_
                refine l_y rfl rfl (D5 hO rfl) ?_
                refine l_y rfl rfl (y_fldb (o' := 4) rfl) ?_
                refine l_y rfl rfl (D5 hO rfl) ?_
                refine Z3 (fun h9_32 => ?_) (fun h9_32 => ?_)
                · refine l_y rfl rfl (y_pick_f rfl rfl) ?_
                  refine l_y rfl rfl (y_move rfl) ?_
                  repeat refine M2 ?_
                  refine l_y rfl rfl (y_pick_t rfl rfl) ?_
                  refine l_y rfl rfl (y_assign rfl) ?_
                  refine K2 (K3 (L8 (K0 (K1 ?_))))
                  refine l_y rfl rfl (y_assign rfl) ?_
                  refine K2 (K3 (K6 (L0 (K9 (L0 (K9 (K9 (L0 (K9 ?_)))))))))
                  have hno : ¬ Loc A K A K s.2.2.1.x s.2.2.1.y := by
                    intro hl
                    first | exact h9_1 (by rw [errN, if_pos hl.ha]) | exact h9_4 (by rw [errN, if_pos hl.hb]) | exact h9_11 (by rw [hn.kind hl.ha, hn2.kind hl.hb]; exact hl.kind) | exact h9_18 (by rw [hn.space hl.ha, hn2.space hl.hb]; exact hl.space) | exact h9_25 (by rw [hn.name hl.ha, hn2.name hl.hb]; exact hl.name) | exact h9_32 (by rw [hn.data hl.ha, hn2.data hl.hb]; exact hl.data) | exact h9_39 (by rw [hn.system hl.ha, hn2.system hl.hb]; exact hl.system)
                  exact fin1 rfl rfl ⟨_, ⟨by rw [hI.res, sameN_no t g hno]; simp, rfl⟩, hO.only [.o a]⟩
                · refine l_y rfl rfl (y_pick_f rfl rfl) ?_
                  refine l_y rfl rfl (y_move rfl) ?_
                  refine l_y rfl rfl (y_fldb (o' := 5) rfl) ?_
                  refine l_y rfl rfl (D5 hO rfl) ?_
                  refine l_y rfl rfl (y_fldb (o' := 5) rfl) ?_
                  refine l_y rfl rfl (D5 hO rfl) ?_
                  refine Z3 (fun h9_39 => ?_) (fun h9_39 => ?_)
                  · refine l_y rfl rfl (y_pick_f rfl rfl) ?_
                    refine l_y rfl rfl (y_assign rfl) ?_
                    refine K2 (K3 (L8 (K0 (K1 ?_))))
                    refine l_y rfl rfl (y_assign rfl) ?_
                    refine K2 (K3 (K6 (L0 (K9 (L0 (K9 (K9 (L0 (K9 ?_)))))))))
                    have hno : ¬ Loc A K A K s.2.2.1.x s.2.2.1.y := by
                      intro hl
                      first | exact h9_1 (by rw [errN, if_pos hl.ha]) | exact h9_4 (by rw [errN, if_pos hl.hb]) | exact h9_11 (by rw [hn.kind hl.ha, hn2.kind hl.hb]; exact hl.kind) | exact h9_18 (by rw [hn.space hl.ha, hn2.space hl.hb]; exact hl.space) | exact h9_25 (by rw [hn.name hl.ha, hn2.name hl.hb]; exact hl.name) | exact h9_32 (by rw [hn.data hl.ha, hn2.data hl.hb]; exact hl.data) | exact h9_39 (by rw [hn.system hl.ha, hn2.system hl.hb]; exact hl.system)
                    exact fin1 rfl rfl ⟨_, ⟨by rw [hI.res, sameN_no t g hno]; simp, rfl⟩, hO.only [.o a]⟩
                  · refine l_y rfl rfl (y_pick_f rfl rfl) ?_
                    refine l_y rfl rfl (y_assign rfl) ?_
                    refine K2 (K3 (L9 (K0 ?_)))
                    have hna : n.Attrs.length ≤ 1024 := by rw [hn.attrs hax]; have h := inA_iff.1 hax; exact t.attrs _ (by have := h.1; have := h.2; omega)
                    have hkx : kidsX A K s.2.2.1.x = K s.2.2.1.x := by rw [kidsX, if_pos hax]
                    have hky : kidsX A K s.2.2.1.y = K s.2.2.1.y := by rw [kidsX, if_pos hbx]
                    have hinn : Loc A K A K s.2.2.1.x s.2.2.1.y → (n.Inner = -1 ↔ n2.Inner = -1) := fun h => by rw [hn.inner hax, hn2.inner hbx]; exact h.inner
                    refine K1 ?_
                    refine l_y rfl rfl (y_fldb (o' := 3) rfl) ?_
                    refine l_y rfl rfl (D5 hO rfl) ?_
                    refine l_y rfl rfl (y_fldb (o' := 3) rfl) ?_
                    refine l_y rfl rfl (D5 hO rfl) ?_
                    refine CK [] hO rfl (fun k' hx hr hO' => Equal_spec (sls_roK (p := n.AttrsP) hr (sls_fct hO)) (sls_roK (p := n2.AttrsP) hr (sls_fct hO)) (by omega) hO') ?_
                    rintro _ _ w ⟨rfl, rfl⟩ hO
                    simp only [List.cons_append, List.nil_append] at hO
                    refine l_y rfl rfl (y_not rfl rfl) ?_
                    refine l_y rfl rfl (y_move rfl) ?_
                    refine l_split 104 rfl (fun hg104 => ?_) (fun hg104 => ?_)
                    · simp only [Bool.not_eq_true', Bool.not_eq_false'] at hg104
                      repeat refine M2 ?_
                      refine l_y rfl rfl (y_pick_t rfl rfl) ?_
                      refine l_y rfl rfl (y_move rfl) ?_
                      repeat refine M2 ?_
                      refine l_y rfl rfl (y_pick_t rfl rfl) ?_
                      refine l_y rfl rfl (y_assign rfl) ?_
                      refine K2 (K3 (L8 (K0 (K1 ?_))))
                      refine l_y rfl rfl (y_assign rfl) ?_
                      refine K2 (K3 (K6 (L0 (K9 (L0 (K9 (K9 (L0 (K9 ?_)))))))))
                      have hno : ¬ Loc A K A K s.2.2.1.x s.2.2.1.y := by
                        intro hl
                        first | exact (of_decide_eq_false hg104) (by rw [hn.attrs hax, hn2.attrs hbx]; exact hl.attrs) | exact h11_11 (by rw [hkx, hky]; exact congrArg _ hl.kids) | exact h11_19 ((hinn hl).1 h11_16) | exact h11_16 ((hinn hl).2 h11_19)
                      exact fin1 rfl rfl ⟨_, ⟨by rw [hI.res, sameN_no t g hno]; simp, rfl⟩, hO.only [.o a]⟩
                    · simp only [Bool.not_eq_true', Bool.not_eq_false'] at hg104
                      refine l_y rfl rfl (y_move rfl) ?_
                      refine l_y rfl rfl (y_lenL rfl) ?_
                      refine l_y rfl rfl (y_move rfl) ?_
                      refine l_y rfl rfl (y_lenL rfl) ?_
                      refine Z1 (fun h11_11 => ?_) (fun h11_11 => ?_)
                      · refine l_y rfl rfl (y_pick_f rfl rfl) ?_
                        refine l_y rfl rfl (y_move rfl) ?_
                        repeat refine M2 ?_
                        refine l_y rfl rfl (y_pick_t rfl rfl) ?_
                        refine l_y rfl rfl (y_assign rfl) ?_
                        refine K2 (K3 (L8 (K0 (K1 ?_))))
                        refine l_y rfl rfl (y_assign rfl) ?_
                        refine K2 (K3 (K6 (L0 (K9 (L0 (K9 (K9 (L0 (K9 ?_)))))))))
                        have hno : ¬ Loc A K A K s.2.2.1.x s.2.2.1.y := by
                          intro hl
                          first | exact (of_decide_eq_false hg104) (by rw [hn.attrs hax, hn2.attrs hbx]; exact hl.attrs) | exact h11_11 (by rw [hkx, hky]; exact congrArg _ hl.kids) | exact h11_19 ((hinn hl).1 h11_16) | exact h11_16 ((hinn hl).2 h11_19)
                        exact fin1 rfl rfl ⟨_, ⟨by rw [hI.res, sameN_no t g hno]; simp, rfl⟩, hO.only [.o a]⟩
                      · refine l_y rfl rfl (y_pick_f rfl rfl) ?_
                        refine l_y rfl rfl (y_move rfl) ?_
                        refine l_y rfl rfl (y_fldb (o' := 11) rfl) ?_
                        refine l_y rfl rfl (D5 hO rfl) ?_
                        refine Z0 (fun h11_16 => ?_) (fun h11_16 => ?_)
                        · refine l_y rfl rfl (y_fldb (o' := 11) rfl) ?_
                          refine l_y rfl rfl (D5 hO rfl) ?_
                          refine Z0 (fun h11_19 => ?_) (fun h11_19 => ?_)
                          · refine l_y rfl rfl (y_neB rfl rfl rfl) ?_
                            refine l_y rfl rfl (y_pick_f rfl rfl) ?_
                            refine l_y rfl rfl (y_assign rfl) ?_
                            refine K2 (K3 (L9 (K0 ?_)))
                            have hloc : Loc A K A K s.2.2.1.x s.2.2.1.y := ⟨hax, hbx, by rw [← hn.kind hax, ← hn2.kind hbx]; exact h9_11, by rw [← hn.space hax, ← hn2.space hbx]; exact h9_18, by rw [← hn.name hax, ← hn2.name hbx]; exact h9_25, by rw [← hn.data hax, ← hn2.data hbx]; exact h9_32, by rw [← hn.system hax, ← hn2.system hbx]; exact h9_39, by rw [← hn.attrs hax, ← hn2.attrs hbx]; exact of_decide_eq_true hg104, by rw [← hkx, ← hky]; omega, by rw [← hn.inner hax, ← hn2.inner hbx]; omega⟩
                            refine K1 ?_
                            refine l_y rfl rfl (y_fldb (o' := 11) rfl) ?_
                            refine l_y rfl rfl (D5 hO rfl) ?_
                            refine Z1 (fun h13_2 => ?_) (fun h13_2 => ?_)
                            · first
                              | (exfalso; omega)
                              | skip
                                refine l_y rfl rfl (y_assign rfl) ?_
                                refine K2 (K3 (L8 (K1 ?_)))
                                refine l_y rfl rfl (y_fldb (o' := 11) rfl) ?_
                                refine l_y rfl rfl (D5 hO rfl) ?_
                                refine l_y rfl rfl (y_fldb (o' := 11) rfl) ?_
                                refine l_y rfl rfl (D5 hO rfl) ?_
                                refine s_build (parts := [(0, .tmp 125), (1, .tmp 127)]) (cs := [.int .i64 n.Inner, .int .i64 n2.Inner]) rfl rfl (fun a ha => partsOf_sound ha _ _ rfl) (by kernel_rfl) ?_
                                refine s_lit (parts := [(0, .tmp 128)]) (enc := Show_twin.cells) [⟨n.Inner, n2.Inner⟩] [.agg [.int .i64 n.Inner, .int .i64 n2.Inner].toArray] hO rfl (fun b129 w hO => ?_)
                                refine CK [.o b9] hO rfl (fun k' hx hr hO' => pushtwin_spec (ys := [⟨n.Inner, n2.Inner⟩]) (sls_roK (p := some ⟨b129, 0, none⟩) hr (sls_fct hO)) (by simp only [List.length_cons, List.length_nil]; omega) (hO := hO')) ?_
                                rintro _ _ w rfl hO
                                simp only [List.cons_append, List.nil_append] at hO
                                have hl1 : s.2.2.2 ++ [⟨n.Inner, n2.Inner⟩] = s.2.2.2 ++ innT1 A A s.2.2.1.x s.2.2.1.y := by rw [innT1, if_neg (by rw [← hn.inner hax]; omega), hn.inner hax, hn2.inner hbx]
                                refine K2 (K8 ?_)
                                exact q_cut (_) ⟨rfl, rfl, rfl, rfl, rfl, rfl, rfl, trivial⟩ ⟨hO.only [.o a, .o b9, .b s.1, .p q1, .p q2], hloc, hl1⟩
                            · first
                              | (exfalso; omega)
                              | skip
                                have hl1 : s.2.2.2 = s.2.2.2 ++ innT1 A A s.2.2.1.x s.2.2.1.y := by rw [innT1, if_pos (by rw [← hn.inner hax]; omega), List.append_nil]
                                refine l_y rfl rfl (y_assign rfl) ?_
                                refine K2 (K3 (L9 (K5 (K8 ?_))))
                                exact q_cut (_) ⟨rfl, rfl, rfl, rfl, rfl, rfl, rfl, trivial⟩ ⟨hO.only [.o a, .o b9, .b s.1, .p q1, .p q2], hloc, hl1⟩
                          · refine l_y rfl rfl (y_neB rfl rfl rfl) ?_
                            refine l_y rfl rfl (y_pick_f rfl rfl) ?_
                            refine l_y rfl rfl (y_assign rfl) ?_
                            refine K2 (K3 (L8 (K0 (K1 ?_))))
                            refine l_y rfl rfl (y_assign rfl) ?_
                            refine K2 (K3 (K6 (L0 (K9 (L0 (K9 (K9 (L0 (K9 ?_)))))))))
                            have hno : ¬ Loc A K A K s.2.2.1.x s.2.2.1.y := by
                              intro hl
                              first | exact (of_decide_eq_false hg104) (by rw [hn.attrs hax, hn2.attrs hbx]; exact hl.attrs) | exact h11_11 (by rw [hkx, hky]; exact congrArg _ hl.kids) | exact h11_19 ((hinn hl).1 h11_16) | exact h11_16 ((hinn hl).2 h11_19)
                            exact fin1 rfl rfl ⟨_, ⟨by rw [hI.res, sameN_no t g hno]; simp, rfl⟩, hO.only [.o a]⟩
                        · refine l_y rfl rfl (y_fldb (o' := 11) rfl) ?_
                          refine l_y rfl rfl (D5 hO rfl) ?_
                          refine Z0 (fun h11_19 => ?_) (fun h11_19 => ?_)
                          · refine l_y rfl rfl (y_neB rfl rfl rfl) ?_
                            refine l_y rfl rfl (y_pick_f rfl rfl) ?_
                            refine l_y rfl rfl (y_assign rfl) ?_
                            refine K2 (K3 (L8 (K0 (K1 ?_))))
                            refine l_y rfl rfl (y_assign rfl) ?_
                            refine K2 (K3 (K6 (L0 (K9 (L0 (K9 (K9 (L0 (K9 ?_)))))))))
                            have hno : ¬ Loc A K A K s.2.2.1.x s.2.2.1.y := by
                              intro hl
                              first | exact (of_decide_eq_false hg104) (by rw [hn.attrs hax, hn2.attrs hbx]; exact hl.attrs) | exact h11_11 (by rw [hkx, hky]; exact congrArg _ hl.kids) | exact h11_19 ((hinn hl).1 h11_16) | exact h11_16 ((hinn hl).2 h11_19)
                            exact fin1 rfl rfl ⟨_, ⟨by rw [hI.res, sameN_no t g hno]; simp, rfl⟩, hO.only [.o a]⟩
                          · refine l_y rfl rfl (y_neB rfl rfl rfl) ?_
                            refine l_y rfl rfl (y_pick_f rfl rfl) ?_
                            refine l_y rfl rfl (y_assign rfl) ?_
                            refine K2 (K3 (L9 (K0 ?_)))
                            have hloc : Loc A K A K s.2.2.1.x s.2.2.1.y := ⟨hax, hbx, by rw [← hn.kind hax, ← hn2.kind hbx]; exact h9_11, by rw [← hn.space hax, ← hn2.space hbx]; exact h9_18, by rw [← hn.name hax, ← hn2.name hbx]; exact h9_25, by rw [← hn.data hax, ← hn2.data hbx]; exact h9_32, by rw [← hn.system hax, ← hn2.system hbx]; exact h9_39, by rw [← hn.attrs hax, ← hn2.attrs hbx]; exact of_decide_eq_true hg104, by rw [← hkx, ← hky]; omega, by rw [← hn.inner hax, ← hn2.inner hbx]; omega⟩
                            refine K1 ?_
                            refine l_y rfl rfl (y_fldb (o' := 11) rfl) ?_
                            refine l_y rfl rfl (D5 hO rfl) ?_
                            refine Z1 (fun h13_2 => ?_) (fun h13_2 => ?_)
                            · first
                              | (exfalso; omega)
                              | skip
                                refine l_y rfl rfl (y_assign rfl) ?_
                                refine K2 (K3 (L8 (K1 ?_)))
                                refine l_y rfl rfl (y_fldb (o' := 11) rfl) ?_
                                refine l_y rfl rfl (D5 hO rfl) ?_
                                refine l_y rfl rfl (y_fldb (o' := 11) rfl) ?_
                                refine l_y rfl rfl (D5 hO rfl) ?_
                                refine s_build (parts := [(0, .tmp 125), (1, .tmp 127)]) (cs := [.int .i64 n.Inner, .int .i64 n2.Inner]) rfl rfl (fun a ha => partsOf_sound ha _ _ rfl) (by kernel_rfl) ?_
                                refine s_lit (parts := [(0, .tmp 128)]) (enc := Show_twin.cells) [⟨n.Inner, n2.Inner⟩] [.agg [.int .i64 n.Inner, .int .i64 n2.Inner].toArray] hO rfl (fun b129 w hO => ?_)
                                refine CK [.o b9] hO rfl (fun k' hx hr hO' => pushtwin_spec (ys := [⟨n.Inner, n2.Inner⟩]) (sls_roK (p := some ⟨b129, 0, none⟩) hr (sls_fct hO)) (by simp only [List.length_cons, List.length_nil]; omega) (hO := hO')) ?_
                                rintro _ _ w rfl hO
                                simp only [List.cons_append, List.nil_append] at hO
                                have hl1 : s.2.2.2 ++ [⟨n.Inner, n2.Inner⟩] = s.2.2.2 ++ innT1 A A s.2.2.1.x s.2.2.1.y := by rw [innT1, if_neg (by rw [← hn.inner hax]; omega), hn.inner hax, hn2.inner hbx]
                                refine K2 (K8 ?_)
                                exact q_cut (_) ⟨rfl, rfl, rfl, rfl, rfl, rfl, rfl, trivial⟩ ⟨hO.only [.o a, .o b9, .b s.1, .p q1, .p q2], hloc, hl1⟩
                            · first
                              | (exfalso; omega)
                              | skip
                                have hl1 : s.2.2.2 = s.2.2.2 ++ innT1 A A s.2.2.1.x s.2.2.1.y := by rw [innT1, if_pos (by rw [← hn.inner hax]; omega), List.append_nil]
                                refine l_y rfl rfl (y_assign rfl) ?_
                                refine K2 (K3 (L9 (K5 (K8 ?_))))
                                exact q_cut (_) ⟨rfl, rfl, rfl, rfl, rfl, rfl, rfl, trivial⟩ ⟨hO.only [.o a, .o b9, .b s.1, .p q1, .p q2], hloc, hl1⟩
    · rintro l1 w ⟨hO, hloc, hl1⟩
      refine K0 ?_
      have hxi := inA_iff.1 hloc.ha
      have hkx : kidsX A K s.2.2.1.x = K s.2.2.1.x := by rw [kidsX, if_pos hloc.ha]
      have hky : kidsX A K s.2.2.1.y = K s.2.2.1.y := by rw [kidsX, if_pos hloc.hb]
      have hkk := hloc.kids
      have hkl := t.len hxi
      have hll : l1.length ≤ s.2.2.2.length + 1 := by rw [hl1, List.length_append, innT1]; split <;> simp
      have hg1 := (sls_fct (p := q1) hO).2
      have hg2 := (sls_fct (p := q2) hO).2
      rw [hkx, hky] at hO
      rw [hkx] at hg1
      rw [hky] at hg2
      rw [hkx, hky]
      rw [show l1 = l1 ++ ((((K s.2.2.1.x).zip (K s.2.2.1.y)).map toT).take 0) by simp] at hO
      refine K1 ?_
      refine l_y rfl rfl (y_move rfl) ?_
      refine l_y rfl rfl (y_lenL rfl) ?_
      refine l_y rfl rfl (y_move rfl) ?_
      refine K2 (K3 (K4 ?_))
      refine c_rounds (X := Nat) (fun i => [(0, .pointer (some ⟨a, 0, none⟩)), (2, .pointer (some ⟨a, 0, none⟩)), (8, .bool false), (9, .pointer (some ⟨b9, 0, none⟩)), (10, .pointer (some ⟨s.1, 0, none⟩)), (16, .slice q1 (K s.2.2.1.x).length d1), (17, .slice q2 (K s.2.2.1.y).length d2), (132, .int .i64 (((K s.2.2.1.x).length : Nat) : Int)), (133, .int .i64 (i : Int))]) (fun i w => Own k w [arenaL a A, piletwin b9 (l1 ++ ((((K s.2.2.1.x).zip (K s.2.2.1.y)).map toT).take i)), blk s.1 124 (Show_twin.cells s.2.2.1), sls q1 d1 3 1 (eI .i64) (K s.2.2.1.x), sls q2 d2 3 1 (eI .i64) (K s.2.2.1.y)] ∧ (i ≤ (K s.2.2.1.x).length)) (fun i => (K s.2.2.1.x).length - i) (0) ⟨rfl, rfl, rfl, rfl, rfl, rfl, rfl, rfl, rfl, trivial⟩ ⟨hO.only [.o a, .o b9, .b s.1, .p q1, .p q2], Nat.zero_le _⟩ ?_
      rintro i w m hm ⟨hO, hil⟩
      refine K0 (K1 ?_)
      refine Z0 (fun h16_0 => ?_) (fun h16_0 => ?_)
      · refine K2 (K3 (K0 (L8 (K5 (K3 (K0 (K4 (K0 (K1 ?_)))))))))
        refine l_y rfl rfl (y_move rfl) ?_
        refine l_y rfl rfl (y_assign rfl) ?_
        refine K2 (K3 ?_)
        refine da_region (by intro c a d v w h; cases d <;> exact h) ?_
        have hO := hO.drew
        refine da_phase _ [8] (SO.ks [.p q1, .p q2] hO) ?_
        refine dx_u 0 (by kernel_rfl) rfl rfl rfl (fun w => y_move rfl) ?_
        refine dx_u 1 (by kernel_rfl) rfl rfl rfl (fun w => y_move rfl) ?_
        refine dx_u 2 (by kernel_rfl) rfl rfl rfl (fun w => y_idx rfl rfl) ?_
        refine dx_y 3 (by kernel_rfl) rfl rfl rfl (fun w ⟨m, hw⟩ => y_e1 (x0 := 0) hw rfl) ?_
        refine dx_u 4 (by kernel_rfl) rfl rfl rfl (fun w => y_move rfl) ?_
        refine dx_u 5 (by kernel_rfl) rfl rfl rfl (fun w => y_move rfl) ?_
        refine dx_u 6 (by kernel_rfl) rfl rfl rfl (fun w => y_idx rfl rfl) ?_
        refine dx_y 7 (by kernel_rfl) rfl rfl rfl (fun w ⟨m, hw⟩ => y_e1 (x0 := 0) hw rfl) ?_
        refine dx_close 8 (by kernel_rfl) rfl rfl ?_
        refine s_build (parts := [(0, .tmp 139), (1, .tmp 143)]) (cs := [.int .i64 (at_ (K s.2.2.1.x) ((i : Int) : Int).toNat), .int .i64 (at_ (K s.2.2.1.y) ((i : Int) : Int).toNat)]) rfl rfl (fun a ha => partsOf_sound ha _ _ rfl) (by kernel_rfl) ?_
        refine o_done ?_
        refine da_only 9 (by kernel_rfl) rfl ?_
        refine s_lit (parts := [(0, .tmp 144)]) (enc := Show_twin.cells) [⟨(at_ (K s.2.2.1.x) ((i : Int) : Int).toNat), (at_ (K s.2.2.1.y) ((i : Int) : Int).toNat)⟩] [.agg [.int .i64 (at_ (K s.2.2.1.x) ((i : Int) : Int).toNat), .int .i64 (at_ (K s.2.2.1.y) ((i : Int) : Int).toNat)].toArray] hO rfl (fun b145 w hO => ?_)
        refine o_done ?_
        refine da_only 10 (by kernel_rfl) rfl ?_
        refine CK [.o b9] hO rfl (fun k' hx hr hO' => pushtwin_spec (ys := [⟨at_ (K s.2.2.1.x) i, at_ (K s.2.2.1.y) i⟩]) (sls_roK (p := some ⟨b145, 0, none⟩) hr (sls_fct hO)) (by simp only [List.length_append, List.length_take, List.length_cons, List.length_nil]; omega) (hO := hO')) ?_
        rintro _ _ w rfl hO
        simp only [List.cons_append, List.nil_append] at hO
        rw [List.append_assoc, ← zip_at (show i < (K s.2.2.1.x).length by omega) hkk] at hO
        refine o_done ?_
        refine da_end (by kernel_rfl) ?_
        refine K8 (K3 (K1 ?_))
        refine l_y rfl rfl (D4) ?_
        refine l_y rfl rfl (y_move rfl) ?_
        refine K2 ?_
        exact q_next (i + 1) ⟨rfl, rfl, rfl, rfl, rfl, rfl, rfl, rfl, rfl, trivial⟩ ⟨hO.only [.o a, .o b9, .b s.1, .p q1, .p q2], by omega⟩ (by omega)
      · refine K2 (K3 (K0 (L9 (K7 (L1 (L1 (L2 (K8 (K3 (K0 (K0 ?_)))))))))))
        have ei : i = (K s.2.2.1.x).length := by omega
        rw [ei, List.take_of_length_le (by rw [List.length_map, List.length_zip]; omega), hl1, List.append_assoc, ← belowT] at hO
        refine K1 ?_
        refine l_y rfl rfl (D8 (cs := [.int .i64 s.2.2.1.x, .int .i64 s.2.2.1.y]) hO rfl) ?_
        refine K2 (K3 (K1 ?_))
        refine s_alloc (vs := [.int .i64 0, .int .i64 0]) hO rfl rfl rfl fun b10 w hO => ?_
        refine Y3 hO rfl rfl (fun w hO => ?_)
        refine K2 (K3 (K1 ?_))
        refine CK [.o b9] hO rfl (fun k' hx hr hO' => popT_spec (by rw [belowT]; simp only [List.length_append, List.length_map, List.length_zip] at hll ⊢; rw [hl1] at hll; simp only [List.length_append] at hll; omega) hO') ?_
        rintro _ _ w ⟨c2, ok2, l2, hp2, rfl, rfl⟩ hO
        simp only [List.cons_append, List.nil_append] at hO
        have hJ := hI.next t g hloc hp2
        refine l_y rfl rfl (y_move rfl) ?_
        refine l_y rfl rfl (y_extract rfl rfl) ?_
        refine l_y rfl rfl (y_extract rfl rfl) ?_
        refine Y3 hO rfl rfl (fun w hO => ?_)
        refine l_y rfl rfl (y_assign rfl) ?_
        refine K2 ?_
        exact q_next ((b10, ok2, c2, l2)) ⟨rfl, rfl, rfl, rfl, rfl, rfl, trivial⟩ ⟨hO.only [.o a, .o b9, .b b10], hJ.1⟩ (by have h := hJ.2; dsimp only; omega)
  · refine K7 (L1 (L1 (L2 (K3 (K0 (K1 ?_))))))
    refine l_y rfl rfl (y_assign rfl) ?_
    refine K2 (K3 (K6 ?_))
    have hx := hI.res
    rw [hc28, hI.off hc28] at hx
    exact fin1 rfl rfl ⟨_, ⟨by rw [hx]; rfl, rfl⟩, hO.only [.o a]⟩
end
end Go.Proofs.Ythkmnohghpdjhaa
end
section
set_option linter.unusedVariables false
set_option linter.unusedSimpArgs false
set_option maxRecDepth 100000
namespace Go.Proofs.Ythkmnohghpdjhaa
open Go Go.Hb Go.RowKit
instance (priority := high) AtK.hbldr (b : Nat) (bs : List UInt8) (l : List HP) : AtK (bldr b bs :: l) (.o b) (bldr b bs) l := ⟨.hd _ l⟩
section
variable {k : Ctx} {w : World}
theorem bldr_new {l : List HP} {b : Nat} (hO : Own k w (blk b 76 [.pointer none, .slice none 0 0] :: l)) : Own k w (bldr b [] :: l) :=
  bldr_shut ⟨.inl rfl, by simp, fun a n c e => by cases e⟩ (sl_nil 5 1 hO).swap
def kidI (depth : Int) (c : Int) : Show_item := ⟨c, depth, ⟨#[]⟩⟩
theorem rev_take {l : List Int} {i : Nat} (h : i < l.length) : l.reverse.take (i + 1) = l.reverse.take i ++ [at_ l (l.length - 1 - i)] := by
  rw [take_succ_at (by simpa using h)]
  congr 2
  refine at_eq ?_
  rw [List.getElem?_reverse (by simpa using h), at_get (by omega)]
set_option maxHeartbeats 1000000 in
theorem below_spec {a b2 b10 : Nat} {A : List Node_one} {K : Int → List Int} {xs : List Show_item} {id depth : Int} (t : Tree A K) (hi : InA A id) (hl : A.length ≤ 1000) (hx : xs.length ≤ 10000) (hO : Own k w [blk b2 23 [.pointer (some ⟨a, 0, none⟩)], arenaL a A, pileitem b10 xs]) :
    Tri Try.prog 53 #[.int .i64 id, .int .i64 depth, .pointer (some ⟨b2, 0, none⟩), .pointer (some ⟨b10, 0, none⟩)] k w fun v m => m = [blk b2 23 [.pointer (some ⟨a, 0, none⟩)], arenaL a A, pileitem b10 (xs ++ (K id).reverse.map (kidI depth))] := by
  refine enter (args := [.int .i64 id, .int .i64 depth, .pointer (some ⟨b2, 0, none⟩), .pointer (some ⟨b10, 0, none⟩)]) Try.func53 rfl rfl ?_
  have hkl := t.len hi
  refine K0 (K1 ?_)
  refine l_y rfl rfl (D5 hO rfl) ?_
  refine l_y rfl rfl (y_move rfl) ?_
  refine CK [.o a] hO rfl (fun k' hx hr hO' => KidsT_spec t hi (by omega) hO') ?_
  rintro _ _ w ⟨q, d, rfl, rfl⟩ hO
  simp only [List.cons_append, List.nil_append] at hO
  have hg := (sls_fct (p := q) hO).2
  rw [show xs = xs ++ ((K id).reverse.take 0).map (kidI depth) by simp] at hO
  refine l_y rfl rfl (y_assign rfl) ?_
  refine K2 (K3 (K0 (K1 ?_)))
  refine l_y rfl rfl (y_move rfl) ?_
  refine l_y rfl rfl (y_lenL rfl) ?_
  refine l_y rfl rfl (y_move rfl) ?_
  refine K2 (K3 (K4 ?_))
  refine c_rounds (X := Nat) (fun i => [(1, .int .i64 depth), (3, .pointer (some ⟨b10, 0, none⟩)), (6, .slice q (K id).length d), (12, .int .i64 (((K id).length : Nat) : Int)), (13, .int .i64 (i : Int))]) (fun i w => Own k w [blk b2 23 [.pointer (some ⟨a, 0, none⟩)], arenaL a A, pileitem b10 (xs ++ ((K id).reverse.take i).map (kidI depth)), sls q d 3 1 (eI .i64) (K id)] ∧ (i ≤ (K id).length)) (fun i => (K id).length - i) (0) ⟨rfl, rfl, rfl, rfl, rfl, trivial⟩ ⟨hO.only [.b b2, .o a, .o b10, .p q], Nat.zero_le _⟩ ?_
  rintro i w m hm ⟨hO, hil⟩
  refine K0 (K1 ?_)
  refine Z0 (fun h2_0 => ?_) (fun h2_0 => ?_)
  · refine K2 (K3 (K0 (L8 (K5 (K3 (K0 (K4 (K0 (K1 ?_)))))))))
    refine l_y rfl rfl (y_move rfl) ?_
    refine l_y rfl rfl (y_assign rfl) ?_
    refine K2 (K3 (K1 ?_))
    refine l_y rfl rfl (y_move rfl) ?_
    refine l_y rfl rfl (y_move rfl) ?_
    refine l_y rfl rfl (y_lenL rfl) ?_
    refine l_y rfl rfl (D4) ?_
    refine l_y rfl rfl (y_move rfl) ?_
    refine l_y rfl rfl (D4) ?_
    refine l_y rfl rfl (y_idx rfl rfl) ?_
    refine l_y rfl rfl (y_e1 (x0 := 0) hO rfl) ?_
    refine l_y rfl rfl (y_move rfl) ?_
    refine s_build (parts := [(0, .tmp 23), (1, .tmp 24)]) (cs := [.int .i64 (at_ (K id) ((((((K id).length : Nat) : Int) - 1) - (i : Int)) : Int).toNat), .int .i64 depth, .string ⟨#[]⟩]) rfl rfl (fun a ha => partsOf_sound ha _ _ rfl) (by kernel_rfl) ?_
    refine s_lit (parts := [(0, .tmp 25)]) (enc := Show_item.cells) [⟨(at_ (K id) ((((((K id).length : Nat) : Int) - 1) - (i : Int)) : Int).toNat), depth, ⟨#[]⟩⟩] [.agg [.int .i64 (at_ (K id) ((((((K id).length : Nat) : Int) - 1) - (i : Int)) : Int).toNat), .int .i64 depth, .string ⟨#[]⟩].toArray] hO rfl (fun b26 w hO => ?_)
    refine CK [.o b10] hO rfl (fun k' hx' hr hO' => pushitem_spec (ys := [kidI depth (at_ (K id) ((K id).length - 1 - i))]) (by
        have := sls_roK (p := some ⟨b26, 0, none⟩) hr (sls_fct hO)
        rw [show (((K id).length : Int) - 1 - (i : Int)).toNat = (K id).length - 1 - i by omega] at this
        exact this) (by simp only [List.length_append, List.length_map, List.length_take, List.length_reverse, List.length_cons, List.length_nil]; omega) (hO := hO')) ?_
    rintro _ _ w rfl hO
    simp only [List.cons_append, List.nil_append] at hO
    rw [List.append_assoc, show [kidI depth (at_ (K id) ((K id).length - 1 - i))] = [at_ (K id) ((K id).length - 1 - i)].map (kidI depth) from rfl, ← List.map_append, ← rev_take (show i < (K id).length by omega)] at hO
    refine K2 (K8 (K3 (K1 ?_)))
    refine l_y rfl rfl (D4) ?_
    refine l_y rfl rfl (y_move rfl) ?_
    refine K2 ?_
    exact q_next (i + 1) ⟨rfl, rfl, rfl, rfl, rfl, trivial⟩ ⟨hO.only [.b b2, .o a, .o b10, .p q], by omega⟩ (by omega)
  · refine K2 (K3 (K0 (L9 (K7 (L1 (L1 (L2 ?_)))))))
    have e : i = (K id).length := by omega
    rw [e, List.take_of_length_le (by simp)] at hO
    exact fin0 rfl ⟨_, rfl, hO.only [.b b2, .o a, .o b10]⟩
set_option maxHeartbeats 1000000 in
theorem Show0_spec {a : Nat} {A : List Node_one} {K : Int → List Int} (t : Tree A K) (hl : A.length ≤ 1000) (h0 : InA A 0) (hk : K 0 = []) (hO : Own k w [arenaL a A]) :
    Tri Try.prog 18 #[.pointer (some ⟨a, 0, none⟩), .int .i64 0] k w fun v m => v = .tuple #[.string ⟨#[]⟩, .int .i64 0] ∧ m = [arenaL a A] := by
  refine enter (args := [.pointer (some ⟨a, 0, none⟩), .int .i64 0]) Try.func18 rfl rfl ?_
  refine K0 (K1 ?_)
  refine s_box (vs := [.pointer (some ⟨a, 0, none⟩)]) hO rfl rfl rfl (by rfl) fun b2 w hO => ?_
  refine l_y rfl rfl (y_assign rfl) ?_
  refine l_y rfl rfl (y_assign rfl) ?_
  refine K2 (K3 (K0 (K0 (K1 ?_))))
  refine l_y rfl rfl (D5 hO rfl) ?_
  refine l_y rfl rfl (y_move rfl) ?_
  refine CK [.o a] hO rfl (fun k' hx hr hO' => NodeI_spec h0 t.attrs hO') ?_
  rintro _ _ w ⟨n, hn, rfl, rfl⟩ hO
  simp only [List.cons_append, List.nil_append] at hO
  refine l_y rfl rfl (y_move rfl) ?_
  refine l_y rfl rfl (y_extract rfl rfl) ?_
  refine l_y rfl rfl (y_extract rfl rfl) ?_
  refine s_alloc (vs := [.int .i64 0, .int .i64 0, .string ⟨#[]⟩, .slice none 0 0, .string ⟨#[]⟩, .string ⟨#[]⟩, .int .i64 0, .int .i64 0, .int .i64 0, .int .i64 0, .int .i64 0, .int .i64 0]) hO rfl rfl rfl fun b6 w hO => ?_
  refine Y3 hO rfl rfl (fun w hO => ?_)
  refine l_y rfl rfl (y_assign rfl) ?_
  refine K2 (K3 (K0 (K1 ?_)))
  refine l_y rfl rfl (y_move rfl) ?_
  refine N4 ?_
  refine K2 (K3 (L9 (K5 (K3 (K0 (K1 ?_))))))
  refine s_alloc (vs := [.pointer none, .slice none 0 0]) hO rfl rfl rfl fun b8 w hO => ?_
  refine K2 (K3 (K0 ?_))
  have hO := bldr_new (hO.ks [.b b8])
  refine K1 ?_
  refine l_y rfl rfl (y_makeFunc rfl rfl) ?_
  refine l_y rfl rfl (y_assign rfl) ?_
  refine K2 (K3 (K0 (K1 ?_)))
  refine s_alloc (vs := [.slice none 0 0]) hO rfl rfl rfl fun b10 w hO => ?_
  refine K2 (K3 (K0 ?_))
  have hO := pileitem_shut (xs := []) (hO.ks [.b b10] |> sl_nil 106 3 |> Own.swap)
  refine K1 ?_
  refine l_y rfl rfl (y_makeFunc rfl rfl) ?_
  refine l_y rfl rfl (y_assign rfl) ?_
  refine K2 (K3 (K0 (K1 ?_)))
  refine l_y rfl rfl (y_move rfl) ?_
  refine l_y rfl rfl (y_move rfl) ?_
  refine CKv [.b b2, .o a, .o b10] hO rfl rfl (fun k' hx hr hO' => below_spec (K := K) t h0 hl (by simp) hO') ?_
  rintro _ _ w rfl hO
  simp only [List.cons_append, List.nil_append] at hO
  rw [hk] at hO
  refine K2 (K3 (K0 (K0 (K1 ?_))))
  refine CK [.o b10] hO rfl (fun k' hx hr hO' => popNitem_spec hO') ?_
  rintro _ _ w ⟨rfl, rfl⟩ hO
  simp only [List.cons_append, List.nil_append] at hO
  refine l_y rfl rfl (y_move rfl) ?_
  refine l_y rfl rfl (y_extract rfl rfl) ?_
  refine l_y rfl rfl (y_extract rfl rfl) ?_
  refine s_alloc (vs := [.int .i64 0, .int .i64 0, .string ⟨#[]⟩]) hO rfl rfl rfl fun b12 w hO => ?_
  refine Y3 hO rfl rfl (fun w hO => ?_)
  refine l_y rfl rfl (y_assign rfl) ?_
  refine K2 (K3 (K4 ?_))
  refine c_rounds (X := Unit) (fun u => [(4, .string ⟨#[]⟩), (5, .int .i64 0), (8, .pointer (some ⟨b8, 0, none⟩)), (13, .bool false)]) (fun u w => Own k w [arenaL a A, bldr b8 []] ∧ (True)) (fun u => 0) (()) ⟨rfl, rfl, rfl, rfl, trivial⟩ ⟨hO.only [.o a, .o b8], trivial⟩ ?_
  rintro u w m hm ⟨hO, hT0⟩
  refine K0 (K0 (K1 ?_))
  refine l_y rfl rfl (y_move rfl) ?_
  refine K2 (K3 (L9 (K7 (L1 (L1 (L2 (K3 (K0 (K1 ?_)))))))))
  refine CK [.o b8] hO rfl (fun k' hx hr hO' => String_spec k' _ b8 [] (by simp) hO') ?_
  rintro _ _ w ⟨rfl, rfl⟩ hO
  simp only [List.cons_append, List.nil_append] at hO
  refine l_y rfl rfl (y_assign rfl) ?_
  refine l_y rfl rfl (y_assign rfl) ?_
  refine K2 (K3 (K6 ?_))
  exact fin2 rfl rfl rfl ⟨_, ⟨rfl, rfl⟩, hO.only [.o a]⟩
/-- the arena of the wake-up: the document, and a text -/
theorem wake_tree : Tree ([docD] ++ [blankN (textN ⟨#[120]⟩)]) (addK [docD] fun _ => []) := Tree.new.add _ (Nat.zero_le _)
theorem wake_inn : InnOk ([docD] ++ [blankN (textN ⟨#[120]⟩)]) := InnOk.new.add _
theorem wake_same : sameN ([docD] ++ [blankN (textN ⟨#[120]⟩)]) (addK [docD] fun _ => []) ([docD] ++ [blankN (textN ⟨#[120]⟩)]) (addK [docD] fun _ => []) 1 1 = true := by
  rw [sameN_yes wake_tree wake_inn ⟨rfl, rfl, rfl, rfl, rfl, rfl, rfl, rfl, rfl, Iff.rfl⟩]
  rfl
theorem awake03_spec (hO : Own k w []) : Tri Try.prog 19 #[] k w fun v m => v = .bool true ∧ m = [] := by
  refine enter (args := []) Try.func19 rfl rfl ?_
  refine K0 (K1 ?_)
  refine l_y rfl rfl (y_assign rfl) ?_
  refine K2 (K3 (K0 (K1 ?_)))
  refine CK [] hO rfl (fun k' hx hr hO' => New_spec (hO := hO')) ?_
  rintro _ _ w ⟨a6, rfl, rfl⟩ hO
  simp only [List.cons_append, List.nil_append] at hO
  refine l_y rfl rfl (y_assign rfl) ?_
  refine K2 (K3 (K0 (K0 (K1 ?_))))
  refine l_y rfl rfl (y_move rfl) ?_
  refine l_y rfl rfl (y_eqPnil rfl rfl rfl) ?_
  refine K2 (K3 (L9 (K5 (K3 (K0 (K1 ?_))))))
  refine l_y rfl rfl (y_move rfl) ?_
  refine CK [.o a6] hO rfl (fun k' hx hr hO' => Text_spec (by simp) (by simp) (hO := hO')) ?_
  rintro _ _ w ⟨rfl, rfl⟩ hO
  simp only [List.cons_append, List.nil_append] at hO
  rw [show addL [docD] (textN ⟨#[120]⟩) [⟨#[120]⟩] = (1, 0, [docD] ++ [blankN (textN ⟨#[120]⟩)]) from rfl] at hO ⊢
  refine l_y rfl rfl (y_move rfl) ?_
  refine l_y rfl rfl (y_extract rfl rfl) ?_
  refine l_y rfl rfl (y_extract rfl rfl) ?_
  refine l_y rfl rfl (y_assign rfl) ?_
  refine l_y rfl rfl (y_assign rfl) ?_
  refine K2 (K3 (K0 (K1 ?_)))
  refine l_y rfl rfl (y_move rfl) ?_
  refine CK [.o a6] hO rfl (fun k' hx hr hO' => Show0_spec wake_tree (by simp) ⟨by decide, by simp⟩ rfl hO') ?_
  rintro _ _ w ⟨rfl, rfl⟩ hO
  simp only [List.cons_append, List.nil_append] at hO
  refine l_y rfl rfl (y_move rfl) ?_
  refine l_y rfl rfl (y_extract rfl rfl) ?_
  refine l_y rfl rfl (y_extract rfl rfl) ?_
  refine l_y rfl rfl (y_assign rfl) ?_
  refine l_y rfl rfl (y_assign rfl) ?_
  refine K2 (K3 (K0 (K1 ?_)))
  refine l_y rfl rfl (y_move rfl) ?_
  refine N2 ?_
  refine l_y rfl rfl (y_move rfl) ?_
  refine l_y rfl rfl (y_move rfl) ?_
  refine N6 (hp := (by decide)) ?_
  refine l_y rfl rfl (y_pick_t rfl rfl) ?_
  refine l_y rfl rfl (y_move rfl) ?_
  refine l_y rfl rfl (y_move rfl) ?_
  refine N2 ?_
  refine l_y rfl rfl (y_pick_t rfl rfl) ?_
  refine l_y rfl rfl (y_move rfl) ?_
  refine l_y rfl rfl (y_move rfl) ?_
  refine l_y rfl rfl (y_move rfl) ?_
  refine CK [.o a6] hO rfl (fun k' hx hr hO' => Same1_spec wake_tree wake_inn (by simp) (by simp) hO') ?_
  rintro _ _ w ⟨rfl, rfl⟩ hO
  simp only [List.cons_append, List.nil_append] at hO
  rw [wake_same]
  refine l_y rfl rfl (y_pick_t rfl rfl) ?_
  refine l_y rfl rfl (y_assign rfl) ?_
  refine K2 (K3 (K6 ?_))
  exact fin1 rfl rfl ⟨_, ⟨rfl, rfl⟩, hO.only []⟩
end
end Go.Proofs.Ythkmnohghpdjhaa
end
section
set_option linter.unusedVariables false
set_option linter.unusedSimpArgs false
namespace Go.Proofs.Ythkmnohghpdjhaa
open Go Go.Hb Go.RowKit
def spacesL : List ByteArray := [⟨#[]⟩, ⟨#[109, 97, 116, 104, 32]⟩, ⟨#[115, 118, 103, 32]⟩, ⟨#[120, 108, 105, 110, 107, 32]⟩, ⟨#[120, 109, 108, 32]⟩, ⟨#[120, 109, 108, 110, 115, 32]⟩]
def spaceT (n : Int) : ByteArray := if n < 0 ∨ 6 ≤ n then ⟨#[]⟩ else at_ spacesL n.toNat
theorem spaceT_len (n : Int) : (spaceT n).size ≤ 6 := by
  unfold spaceT
  split
  · exact Nat.zero_le _
  · next h =>
    have h5 : n.toNat < 6 := by omega
    have : ∀ i, i < 6 → (at_ spacesL i).size ≤ 6 := by decide
    exact this _ h5
def idsT (n : Api_node) : List UInt8 := if n.Data = ⟨#[]⟩ ∧ n.System = ⟨#[]⟩ then [] else [32, 34] ++ tl n.Data ++ [34, 32, 34] ++ tl n.System ++ [34]
def headT (n : Api_node) : List UInt8 :=
  if n.Kind = 1 then [60] ++ tl (spaceT n.Space) ++ tl n.Name ++ [62]
  else if n.Kind = 2 then [34] ++ tl n.Data ++ [34]
  else if n.Kind = 3 then [60, 33, 45, 45, 32] ++ tl n.Data ++ [32, 45, 45, 62]
  else [60, 33, 68, 79, 67, 84, 89, 80, 69, 32] ++ tl n.Name ++ idsT n ++ [62]
theorem headT_len {n : Api_node} (h : TextN n) : (headT n).length ≤ 3145760 := by
  have h1 := h.name
  have h2 := h.data
  have h3 := h.system
  have h4 := spaceT_len n.Space
  rw [← tl_len] at h1 h2 h3 h4
  unfold headT idsT
  repeat' split
  all_goals simp only [List.length_append, List.length_cons, List.length_nil]; omega
def lineT (d : Nat) (s : List UInt8) : List UInt8 := [124, 32] ++ Lib.repeatL [32, 32] d ++ s ++ [10]
theorem lineT_len (d : Nat) (s : List UInt8) : (lineT d s).length = 3 + 2 * d + s.length := by
  simp only [lineT, List.length_append, List.length_cons, List.length_nil, Lib.repeatL_length]; omega
/-- an attribute's line, without what stands ahead -/
def shA (y : Api_attr) : List UInt8 := tl (spaceT y.Space) ++ tl y.Name ++ [61, 34] ++ tl y.Value ++ [34]
theorem shA_len {y : Api_attr} (h1 : y.Name.size ≤ 1048576) (h2 : y.Value.size ≤ 1048576) : (shA y).length ≤ 3145760 := by
  have h4 := spaceT_len y.Space
  rw [← tl_len] at h1 h2 h4
  simp only [shA, List.length_append, List.length_cons, List.length_nil]; omega
def shAs (d : Nat) (l : List Api_attr) : List UInt8 := l.flatMap fun y => lineT (d + 1) (shA y)
theorem shAs_len {d : Nat} {l : List Api_attr} (h : ∀ y ∈ l, y.Name.size ≤ 1048576 ∧ y.Value.size ≤ 1048576) : (shAs d l).length ≤ l.length * (3145765 + 2 * d) := by
  induction l with
  | nil => simp [shAs]
  | cons y l ih =>
    have h1 := ih fun z hz => h z (by simp [hz])
    have h2 := shA_len (h y (by simp)).1 (h y (by simp)).2
    rw [show shAs d (y :: l) = lineT (d + 1) (shA y) ++ shAs d l from rfl]
    have h3 : (l.length + 1) * (3145765 + 2 * d) = l.length * (3145765 + 2 * d) + (3145765 + 2 * d) := Nat.succ_mul _ _
    rw [List.length_append, lineT_len, List.length_cons, h3]
    omega
/-- the word for a line of its own -/
def contI (d : Int) : Show_item := ⟨0, d, ⟨#[99, 111, 110, 116, 101, 110, 116]⟩⟩
section
variable (A : List Node_one) (K : Int → List Int) (srt : List Api_attr → List Api_attr)
/-- what is written of one thing -/
def txtI (x : Show_item) : List UInt8 :=
  if x.line ≠ ⟨#[]⟩ then lineT x.depth.toNat (tl x.line)
  else lineT x.depth.toNat (headT (nodeA A x.id)) ++ shAs x.depth.toNat (srt (nodeA A x.id).Attrs)
def innI (x : Show_item) : List Show_item := if (nodeA A x.id).Inner = -1 then [] else contI (x.depth + 1) :: (K (nodeA A x.id).Inner).map (kidI (x.depth + 2))
/-- what comes next behind it, the next ahead -/
def nextI (x : Show_item) : List Show_item := if x.line ≠ ⟨#[]⟩ then [] else innI A K x ++ (K x.id).map (kidI (x.depth + 1))
/-- what is written of a pile, the next thing ahead -/
def showF : Nat → List Show_item → List UInt8
  | 0, _ => []
  | _ + 1, [] => []
  | f + 1, x :: l => txtI A srt x ++ showF f (nextI A K x ++ l)
noncomputable def wI (x : Show_item) : Nat := if x.line ≠ ⟨#[]⟩ then 1 else 2 * cnt A x.id
noncomputable def wL (l : List Show_item) : Nat := (l.map (wI A)).sum
end
theorem showF_nil {A : List Node_one} {K : Int → List Int} {srt : List Api_attr → List Api_attr} : ∀ f, showF A K srt f [] = []
  | 0 => rfl
  | _ + 1 => rfl
def okI (A : List Node_one) (x : Show_item) : Prop := x.line = ⟨#[]⟩ → InA A x.id
theorem wL_app {A : List Node_one} {l m : List Show_item} : wL A (l ++ m) = wL A l + wL A m := by simp [wL]
theorem wL_cons {A : List Node_one} {x : Show_item} {l : List Show_item} : wL A (x :: l) = wI A x + wL A l := by simp [wL]
theorem wL_kids {A : List Node_one} {d : Int} {l : List Int} : wL A (l.map (kidI d)) = 2 * (l.map (cnt A)).sum := by
  induction l with
  | nil => rfl
  | cons c l ih =>
    rw [List.map_cons, wL_cons, ih, List.map_cons, List.sum_cons, wI, if_neg (by simp [kidI])]
    show 2 * cnt A c + _ = _
    omega
theorem wI_pos {A : List Node_one} {x : Show_item} (h : okI A x) : 0 < wI A x := by
  unfold wI
  split
  · exact Nat.one_pos
  · next e => have := cnt_pos (h (by simpa using e)); omega
theorem wL_len {A : List Node_one} {l : List Show_item} (h : ∀ x ∈ l, okI A x) : l.length ≤ wL A l := by
  induction l with
  | nil => exact Nat.zero_le _
  | cons x l ih =>
    have h1 := wI_pos (h x (by simp))
    have h2 := ih fun y hy => h y (by simp [hy])
    rw [wL_cons, List.length_cons]; omega
theorem next_w {A : List Node_one} {K : Int → List Int} (t : Tree A K) (g : InnOk A) {x : Show_item} (h : okI A x) : wL A (nextI A K x) + 1 ≤ wI A x := by
  unfold nextI wI
  split
  · show 0 + 1 ≤ 1; exact Nat.le_refl _
  · next e =>
    have hx := h (by simpa using e)
    rw [wL_app, wL_kids]
    unfold innI
    split
    · have := kids_cnt t hx
      show 0 + _ + 1 ≤ _
      omega
    · next hi =>
      have h1 := inner_cnt t g hx hi
      have h2 := kids_cnt t (inner_up t g hx hi).1
      rw [wL_cons, wL_kids]
      have h3 : wI A (contI (x.depth + 1)) = 1 := by rw [wI, if_pos (by simp [contI])]
      rw [h3]
      omega
theorem next_ok {A : List Node_one} {K : Int → List Int} (t : Tree A K) (g : InnOk A) {x : Show_item} (h : okI A x) : ∀ y ∈ nextI A K x, okI A y ∧ (y.depth = x.depth + 1 ∨ y.depth = x.depth + 2) := by
  intro y hy
  unfold nextI at hy
  split at hy
  · simp at hy
  · next e =>
    have hx := h (by simpa using e)
    rcases List.mem_append.1 hy with hy | hy
    · unfold innI at hy
      split at hy
      · simp at hy
      · next hi =>
        rcases List.mem_cons.1 hy with rfl | hy
        · exact ⟨fun e => by simp [contI] at e, .inl rfl⟩
        · obtain ⟨c, hc, rfl⟩ := List.mem_map.1 hy
          exact ⟨fun _ => (kid_up t (inner_up t g hx hi).1 hc).1, .inr rfl⟩
    · obtain ⟨c, hc, rfl⟩ := List.mem_map.1 hy
      exact ⟨fun _ => (kid_up t hx hc).1, .inl rfl⟩
theorem next_line {A : List Node_one} {K : Int → List Int} {x y : Show_item} (hy : y ∈ nextI A K x) : y.line.size ≤ 7 := by
  unfold nextI innI at hy
  split at hy
  · simp at hy
  · split at hy
    · rw [List.nil_append] at hy
      obtain ⟨c, _, rfl⟩ := List.mem_map.1 hy
      exact Nat.zero_le _
    · rcases List.mem_append.1 hy with hy | hy
      · rcases List.mem_cons.1 hy with rfl | hy
        · exact Nat.le_refl _
        · obtain ⟨c, _, rfl⟩ := List.mem_map.1 hy
          exact Nat.zero_le _
      · obtain ⟨c, _, rfl⟩ := List.mem_map.1 hy
        exact Nat.zero_le _
def CS : Nat := 3300000000
/-- how long one thing's lines are -/
theorem txtI_len {A : List Node_one} {srt : List Api_attr → List Api_attr} (hT : TextOk A) (ha : AttrsOk A) (hs : ∀ x, InA A x → (srt (nodeA A x).Attrs).Perm (nodeA A x).Attrs) {x : Show_item} (h : okI A x) (hd : x.depth ≤ 10000) (hl : x.line.size ≤ 7) : (txtI A srt x).length ≤ CS := by
  unfold txtI CS
  split
  · rw [lineT_len, tl_len]; omega
  · next e =>
    have hx := h (by simpa using e)
    have h1 := headT_len (hT _ hx)
    have h2 := shAs_len (d := x.depth.toNat) (l := srt (nodeA A x.id).Attrs) fun y hy => by
      have hm := (hs _ hx).mem_iff.1 hy
      have := (hT _ hx).attrs
      exact ⟨long_mem this (by simp only [attrTexts, List.mem_flatMap]; exact ⟨y, hm, by simp⟩), long_mem this (by simp only [attrTexts, List.mem_flatMap]; exact ⟨y, hm, by simp⟩)⟩
    rw [(hs _ hx).length_eq] at h2
    have h3 := ha x.id.toNat (by have := hx.1; have := hx.2; omega)
    have h4 : (nodeA A x.id).Attrs.length * (3145765 + 2 * x.depth.toNat) ≤ 1024 * (3145765 + 2 * 10000) := Nat.mul_le_mul h3 (by omega)
    rw [List.length_append, lineT_len]
    omega
/-- what is known of the loop: the pile, its last next; n rounds at most to come -/
structure ShI (A : List Node_one) (K : Int → List Int) (srt : List Api_attr → List Api_attr) (T : List UInt8) (N : Nat) (ok : Bool) (c : Show_item) (xs : List Show_item) (n : Nat) (bs : List UInt8) : Prop where
  txt : T = bs ++ showF A K srt n ((if ok = true then [c] else []) ++ xs.reverse)
  off : ok = false → xs = []
  sum : (if ok = true then wI A c else 0) + wL A xs ≤ n
  max : n ≤ N
  all : ∀ x ∈ xs, okI A x ∧ 0 ≤ x.depth ∧ x.depth + 2 * (n : Int) ≤ 2 * (N : Int) ∧ x.line.size ≤ 7
  cur : ok = true → okI A c ∧ 0 ≤ c.depth ∧ c.depth + 2 * (n : Int) ≤ 2 * (N : Int) ∧ c.line.size ≤ 7
  len : bs.length + n * CS ≤ N * CS
theorem wL_rev {A : List Node_one} {l : List Show_item} : wL A l.reverse = wL A l := by
  induction l with
  | nil => rfl
  | cons x l ih => rw [List.reverse_cons, wL_app, ih, wL_cons, wL_cons]; show _ + (wI A x + 0) = _; omega
/-- a pile's pop, both ways -/
def Popped (ok : Bool) (c : Show_item) (l xs : List Show_item) : Prop := ok = true ∧ l = xs ++ [c] ∨ ok = false ∧ l = [] ∧ xs = []
theorem Popped.stk {ok : Bool} {c : Show_item} {l xs : List Show_item} (h : Popped ok c l xs) : (if ok = true then [c] else []) ++ xs.reverse = l.reverse := by
  rcases h with ⟨rfl, rfl⟩ | ⟨rfl, rfl, rfl⟩
  · rw [if_pos rfl, List.reverse_append]; rfl
  · rfl
theorem Popped.sum {A : List Node_one} {ok : Bool} {c : Show_item} {l xs : List Show_item} (h : Popped ok c l xs) : (if ok = true then wI A c else 0) + wL A xs = wL A l := by
  rcases h with ⟨rfl, rfl⟩ | ⟨rfl, rfl, rfl⟩
  · rw [if_pos rfl, wL_app, wL_cons]; show _ = _ + (_ + 0); omega
  · rfl
theorem Popped.off {ok : Bool} {c : Show_item} {l xs : List Show_item} (h : Popped ok c l xs) (e : ok = false) : xs = [] := by
  rcases h with ⟨rfl, _⟩ | ⟨_, _, h⟩
  · cases e
  · exact h
theorem Popped.mem {ok : Bool} {c : Show_item} {l xs : List Show_item} (h : Popped ok c l xs) {P : Show_item → Prop} (hp : ∀ x ∈ l, P x) : (∀ x ∈ xs, P x) ∧ (ok = true → P c) := by
  rcases h with ⟨rfl, rfl⟩ | ⟨rfl, rfl, rfl⟩
  · exact ⟨fun x hx => hp x (by simp [hx]), fun _ => hp c (by simp)⟩
  · exact ⟨fun x hx => by simp at hx, fun e => by cases e⟩
theorem ShI.start {A : List Node_one} {K : Int → List Int} {srt : List Api_attr → List Api_attr} (t : Tree A K) {id : Int} (hx : InA A id) {ok : Bool} {c : Show_item} {xs : List Show_item} (h : Popped ok c ((K id).reverse.map (kidI 0)) xs) :
    ShI A K srt (showF A K srt (2 * A.length) ((K id).map (kidI 0))) (2 * A.length) ok c xs (2 * A.length) [] := by
  have h1 := kids_cnt t hx
  have h2 := cnt_le (A := A) (x := id)
  have e : ((K id).reverse.map (kidI 0)).reverse = (K id).map (kidI 0) := by rw [List.map_reverse, List.reverse_reverse]
  have hw : wL A ((K id).reverse.map (kidI 0)) = 2 * ((K id).map (cnt A)).sum := by rw [← wL_rev, e, wL_kids]
  obtain ⟨m1, m2⟩ := h.mem (P := fun x => okI A x ∧ 0 ≤ x.depth ∧ x.depth + 2 * ((2 * A.length : Nat) : Int) ≤ 2 * ((2 * A.length : Nat) : Int) ∧ x.line.size ≤ 7) fun x hm => by
    obtain ⟨c, hc, rfl⟩ := List.mem_map.1 hm
    exact ⟨fun _ => (kid_up t hx (List.mem_reverse.1 hc)).1, Int.le_refl _, by show (0 : Int) + _ ≤ _; omega, Nat.zero_le _⟩
  exact ⟨by rw [h.stk, e]; rfl, h.off, by rw [h.sum, hw]; omega, Nat.le_refl _, m1, m2, by show 0 + _ ≤ _; omega⟩
theorem ShI.next {A : List Node_one} {K : Int → List Int} {srt : List Api_attr → List Api_attr} (t : Tree A K) (g : InnOk A) (hT : TextOk A) (hs : ∀ x, InA A x → (srt (nodeA A x).Attrs).Perm (nodeA A x).Attrs) {T : List UInt8} {N n : Nat} (hN : N ≤ 4000) {c : Show_item} {xs : List Show_item} {bs : List UInt8} (s : ShI A K srt T N true c xs n bs) {ok : Bool} {c' : Show_item} {xs' : List Show_item}
    (h : Popped ok c' (xs ++ (nextI A K c).reverse) xs') : ShI A K srt T N ok c' xs' (n - 1) (bs ++ txtI A srt c) ∧ n - 1 < n := by
  obtain ⟨c1, c2, c3, c4⟩ := s.cur rfl
  have h1 := next_w t g c1
  have h2 := s.sum
  rw [if_pos rfl] at h2
  obtain ⟨m, rfl⟩ : ∃ m, n = m + 1 := ⟨n - 1, by omega⟩
  have hm := s.max
  have hl := txtI_len hT t.attrs hs c1 (by omega) c4
  have h3 := s.len
  rw [Nat.succ_mul] at h3
  have e : (xs ++ (nextI A K c).reverse).reverse = nextI A K c ++ xs.reverse := by simp
  obtain ⟨m1, m2⟩ := h.mem (P := fun x => okI A x ∧ 0 ≤ x.depth ∧ x.depth + 2 * (m : Int) ≤ 2 * (N : Int) ∧ x.line.size ≤ 7) fun x hx => by
    rcases List.mem_append.1 hx with hx | hx
    · obtain ⟨a1, a2, a3, a4⟩ := s.all x hx
      exact ⟨a1, a2, by omega, a4⟩
    · have hx := List.mem_reverse.1 hx
      obtain ⟨b1, b2⟩ := next_ok t g c1 x hx
      exact ⟨b1, by omega, by omega, next_line hx⟩
  refine ⟨⟨?_, h.off, ?_, by omega, m1, m2, ?_⟩, by omega⟩
  · rw [h.stk, e, s.txt, if_pos rfl, List.append_assoc]; rfl
  · rw [h.sum, wL_app, wL_rev, Nat.add_sub_cancel]; omega
  · rw [List.length_append, Nat.add_sub_cancel]; omega
/-- the loop's end -/
theorem ShI.done {A : List Node_one} {K : Int → List Int} {srt : List Api_attr → List Api_attr} {T : List UInt8} {N n : Nat} {c : Show_item} {xs : List Show_item} {bs : List UInt8} (s : ShI A K srt T N false c xs n bs) : bs = T := by
  rw [s.txt, s.off rfl, if_neg (by simp)]
  show bs = bs ++ showF A K srt n []
  rw [showF_nil, List.append_nil]
end Go.Proofs.Ythkmnohghpdjhaa
end
section
set_option linter.unusedVariables false
namespace Go.Proofs
open Go.Shelf
def Try.lays105_ren : Go.Shelf.Ren := ⟨fun | 105 => 52 | 212 => 82 | 99 => 83 | 165 => 84 | 166 => 38 | 170 => 85 | 169 => 36 | 263 => 96 | 264 => 97 | 206 => 98 | 240 => 73 | 241 => 99 | 276 => 92 | 277 => 104 | n => n, fun | 9 => 9 | 3 => 3 | 4 => 4 | 20 => 20 | 0 => 0 | 46 => 144 | 109 => 145 | 5 => 5 | 72 => 76 | 76 => 83 | 51 => 160 | 146 => 161 | 53 => 163 | 148 => 164 | 70 => 74 | 37 => 22 | 75 => 82 | 127 => 137 | 164 => 158 | 80 => 80 | n => n, fun | n => n⟩
theorem Try.lays105 : Go.Proofs.Lays.n105 Try.prog Try.lays105_ren := {
  mixed := by kernel_rfl
  f99 := Try.func83.trans (congrArg some (by kernel_rfl))
  f105 := Try.func52.trans (congrArg some (by kernel_rfl))
  f165 := Try.func84.trans (congrArg some (by kernel_rfl))
  f166 := Try.func38.trans (congrArg some (by kernel_rfl))
  f169 := Try.func36.trans (congrArg some (by kernel_rfl))
  f170 := Try.func85.trans (congrArg some (by kernel_rfl))
  f206 := Try.func98.trans (congrArg some (by kernel_rfl))
  f212 := Try.func82.trans (congrArg some (by kernel_rfl))
  f240 := Try.func73.trans (congrArg some (by kernel_rfl))
  f241 := Try.func99.trans (congrArg some (by kernel_rfl))
  f263 := Try.func96.trans (congrArg some (by kernel_rfl))
  f264 := Try.func97.trans (congrArg some (by kernel_rfl))
  f276 := Try.func92.trans (congrArg some (by kernel_rfl))
  f277 := Try.func104.trans (congrArg some (by kernel_rfl))
  t0 := Try.underlying0
  a0 := Try.isAgg0
  z0 := Try.sizeOf0
  v0 := Try.zeroValue0
  t3 := Try.underlying3
  a3 := Try.isAgg3
  z3 := Try.sizeOf3
  v3 := Try.zeroValue3
  t4 := Try.underlying4
  a4 := Try.isAgg4
  z4 := Try.sizeOf4
  v4 := Try.zeroValue4
  t5 := Try.underlying5
  a5 := Try.isAgg5
  z5 := Try.sizeOf5
  v5 := Try.zeroValue5
  t9 := Try.underlying9
  a9 := Try.isAgg9
  z9 := Try.sizeOf9
  v9 := Try.zeroValue9
  t20 := Try.underlying20
  a20 := Try.isAgg20
  z20 := Try.sizeOf20
  v20 := Try.zeroValue20
  t37 := Try.underlying22
  a37 := Try.isAgg22
  z37 := Try.sizeOf22
  v37 := Try.zeroValue22
  t46 := Try.underlying144
  a46 := Try.isAgg144
  z46 := Try.sizeOf144
  v46 := Try.zeroValue144
  t51 := Try.underlying160
  a51 := Try.isAgg160
  z51 := Try.sizeOf160
  v51 := Try.zeroValue160
  t53 := Try.underlying163
  a53 := Try.isAgg163
  z53 := Try.sizeOf163
  v53 := Try.zeroValue163
  t70 := Try.underlying74
  a70 := Try.isAgg74
  z70 := Try.sizeOf74
  v70 := Try.zeroValue74
  t72 := Try.underlying76
  a72 := Try.isAgg76
  z72 := Try.sizeOf76
  v72 := Try.zeroValue76
  t75 := Try.underlying82
  a75 := Try.isAgg82
  z75 := Try.sizeOf82
  v75 := Try.zeroValue82
  t76 := Try.underlying83
  a76 := Try.isAgg83
  z76 := Try.sizeOf83
  v76 := Try.zeroValue83
  t109 := Try.underlying145
  a109 := Try.isAgg145
  z109 := Try.sizeOf145
  v109 := Try.zeroValue145
  t127 := Try.underlying137
  a127 := Try.isAgg137
  z127 := Try.sizeOf137
  v127 := Try.zeroValue137
  t146 := Try.underlying161
  a146 := Try.isAgg161
  z146 := Try.sizeOf161
  v146 := Try.zeroValue161
  t148 := Try.underlying164
  a148 := Try.isAgg164
  z148 := Try.sizeOf164
  v148 := Try.zeroValue164
  t164 := Try.underlying158
  a164 := Try.isAgg158
  z164 := Try.sizeOf158
  v164 := Try.zeroValue158 }
theorem Try.Builder_Extra_105 : Builder.Extra Try.prog Try.lays105_ren := {
  sizeBuilder := by kernel_rfl
  liesBuilder := by kernel_rfl
  t5 := Try.underlying5
  a5 := Try.isAgg5
  z5 := Try.sizeOf5
  v5 := Try.zeroValue5
  infoByte := by kernel_rfl
  cellsByte := by kernel_rfl
  sizeByte := by kernel_rfl
  neB5 := by decide }
open Go.RowKit Go.Lib in
/-- strings.Repeat (laid by the shelf's tool) -/
theorem Try.strings_Repeat (s : ByteArray) (c : Nat) (w : World) (hc : c ≤ 9223372036854775807) (hlen : s.size * c ≤ 140737488355328) :
    Calls Try.prog 52 #[.string s, .int .i64 c] w fun e w' => e = .returned (.string ⟨(Lib.repeatL s.data.toList c).toArray⟩) ∧ Below w.heap.size w w' := Any.strings_Repeat Try.lays105 Try.Builder_Extra_105 s c w hc hlen
end Go.Proofs
namespace Go.Proofs.Ythkmnohghpdjhaa
open Go Go.Hb Go.RowKit
theorem Own.belowTo {k : Ctx} {w w' : World} (hO : Own k w []) (h : Below w.heap.size w w') : Own k w' [] := by
  obtain ⟨hb, _⟩ := hO
  obtain ⟨b1, b2, b3, b4, b5⟩ := h
  exact ⟨⟨b2.trans hb.tape, b1.trans hb.os, b3.trans hb.output, Nat.le_trans hb.size b4, hb.lt, fun b hS => (b5 b (Nat.lt_of_lt_of_le (hb.lt b hS) hb.size)).trans (hb.same b hS)⟩, fun _ => none, (fun _ _ e => (by cases e)), trivial⟩
theorem Repeat_spec {k : Ctx} {w : World} {d : Nat} (hd : d ≤ 1000000) (hO : Own k w []) : Tri Try.prog 52 #[.string ⟨#[32, 32]⟩, .int .i64 (d : Int)] k w fun v m => v = .string (ba (Lib.repeatL [32, 32] d)) ∧ m = [] := by
  have e : (⟨#[32, 32]⟩ : ByteArray).size = 2 := rfl
  exact (Try.strings_Repeat ⟨#[32, 32]⟩ d w (by omega) (by rw [e]; omega)).mono fun x w' ⟨h1, h2⟩ => ⟨_, h1, [], ⟨rfl, rfl⟩, Own.belowTo hO h2⟩
end Go.Proofs.Ythkmnohghpdjhaa
end
section
set_option linter.unusedVariables false
set_option linter.unusedSimpArgs false
set_option maxRecDepth 100000
namespace Go.Proofs.Ythkmnohghpdjhaa
open Go Go.Hb Go.RowKit
section
variable {P : Program} {n : Nat} {ds : List Deferred} {E : Env} {w : World} {d : Option Tmp} {ty : TypeId} {pos : String} {aft : Array Edge} {g : Option (Nat × Bool)}
/-- an element of an array of texts that is a value -/
theorem y_idxS {t e : TypeId} {m : Nat} [hu : Und P t (.array m e)] [hl : Lay P e false 1] (xs : List ByteArray) {x y : Operand} {i : Int} {kd : IntKind} {vs : Array Value} (hx : ev E x = some (.agg vs)) (hy : ev E y = some (.int kd i)) (hv : vs = (xs.map Value.string).toArray) (hm : m = xs.length) (h0 : 0 ≤ i) (h1 : i < m) :
    Yld P n ds E w ⟨d, .index t x y, ty, pos, aft, g⟩ (.string (at_ xs i.toNat)) := by
  subst hv
  have hi : i.toNat < xs.length := by omega
  refine ⟨fun c hc => ?_⟩
  have h3 : (xs.map Value.string).toArray[i.toNat]? = some (.string (at_ xs i.toNat)) := by
    rw [List.getElem?_toArray, List.getElem?_map, at_get hi]; rfl
  simp only [execOp, hc.eval hx, hc.eval hy, Instr.index, asIntOf, Sem.run_bind, Sem.run_pure, Result.andThen, run_underlying hu.eq, part, hl.isAgg, hl.size, h0, h1, and_self, if_true, Sem.run, h3, Nat.mul_one]
  simp [h3]
end
section
variable {k : Ctx} {w : World}
theorem spaces_spec (hO : Own k w []) : Tri Try.prog 89 #[] k w fun v m => v = .agg (spacesL.map Value.string).toArray ∧ m = [] := by
  refine enter (args := []) Try.func89 rfl rfl ?_
  refine K0 (K1 ?_)
  refine s_alloc (vs := [.string ⟨#[]⟩, .string ⟨#[]⟩, .string ⟨#[]⟩, .string ⟨#[]⟩, .string ⟨#[]⟩, .string ⟨#[]⟩]) hO rfl rfl rfl fun b0 w hO => ?_
  refine K2 (K3 (K0 (K1 ?_)))
  refine s_build (parts := [(0, .const (.string ⟨#[]⟩)), (1, .const (.string ⟨#[109, 97, 116, 104, 32]⟩)), (2, .const (.string ⟨#[115, 118, 103, 32]⟩)), (3, .const (.string ⟨#[120, 108, 105, 110, 107, 32]⟩)), (4, .const (.string ⟨#[120, 109, 108, 32]⟩)), (5, .const (.string ⟨#[120, 109, 108, 110, 115, 32]⟩))]) (cs := [.string ⟨#[]⟩, .string ⟨#[109, 97, 116, 104, 32]⟩, .string ⟨#[115, 118, 103, 32]⟩, .string ⟨#[120, 108, 105, 110, 107, 32]⟩, .string ⟨#[120, 109, 108, 32]⟩, .string ⟨#[120, 109, 108, 110, 115, 32]⟩]) rfl rfl (fun a ha => partsOf_sound ha _ _ rfl) (by kernel_rfl) ?_
  refine Y3 hO rfl rfl (fun w hO => ?_)
  refine K2 (K3 (K6 ?_))
  exact finC hO rfl rfl ⟨_, ⟨rfl, rfl⟩, hO.only []⟩
theorem space_spec {i : Int} (hO : Own k w []) : Tri Try.prog 61 #[.int .i64 i] k w fun v m => v = .string (spaceT i) ∧ m = [] := by
  refine enter (args := [.int .i64 i]) Try.func61 rfl rfl ?_
  refine K0 (K1 ?_)
  refine l_y rfl rfl (y_assign rfl) ?_
  refine K2 (K3 (K0 (K0 (K1 ?_))))
  refine l_y rfl rfl (y_move rfl) ?_
  refine Z0 (fun h1_1 => ?_) (fun h1_1 => ?_)
  · refine l_y rfl rfl (y_move rfl) ?_
    repeat refine M2 ?_
    refine l_y rfl rfl (y_pick_t rfl rfl) ?_
    refine K2 (K3 (L8 (K0 (K1 ?_))))
    refine l_y rfl rfl (y_assign rfl) ?_
    refine K2 (K3 (K6 (K9 ?_)))
    exact fin1 rfl rfl ⟨_, ⟨by rw [spaceT, if_pos (by omega)], rfl⟩, hO⟩
  · refine l_y rfl rfl (y_move rfl) ?_
    refine l_y rfl rfl (y_move rfl) ?_
    refine CK [] hO rfl (fun k' hx hr hO' => spaces_spec (hO := hO')) ?_
    rintro _ _ w ⟨rfl, rfl⟩ hO
    simp only [List.cons_append, List.nil_append] at hO
    refine l_y rfl rfl (y_move rfl) ?_
    refine Z0 (fun h1_6 => ?_) (fun h1_6 => ?_)
    · refine l_y rfl rfl (y_pick_f rfl rfl) ?_
      refine K2 (K3 (L8 (K0 (K1 ?_))))
      refine l_y rfl rfl (y_assign rfl) ?_
      refine K2 (K3 (K6 (K9 ?_)))
      exact fin1 rfl rfl ⟨_, ⟨by rw [spaceT, if_pos (by omega)], rfl⟩, hO⟩
    · refine l_y rfl rfl (y_pick_f rfl rfl) ?_
      refine K2 (K3 (L9 (K5 (K3 (K0 (K1 ?_))))))
      refine CK [] hO rfl (fun k' hx hr hO' => spaces_spec (hO := hO')) ?_
      rintro _ _ w ⟨rfl, rfl⟩ hO
      simp only [List.cons_append, List.nil_append] at hO
      refine l_y rfl rfl (y_move rfl) ?_
      refine l_y rfl rfl (y_idxS spacesL rfl rfl rfl rfl (by omega) (by show i < 6; omega)) ?_
      refine l_y rfl rfl (y_assign rfl) ?_
      refine K2 (K3 (K6 ?_))
      exact fin1 rfl rfl ⟨_, ⟨by rw [spaceT, if_neg (by omega)], rfl⟩, hO⟩
theorem put3_spec {b2 : Nat} {bs : List UInt8} {d : Nat} {s : ByteArray} (hd : d ≤ 1000000) (hs : bs.length + 2 * d + s.size + 3 ≤ 35184372088832) (hO : Own k w [bldr b2 bs]) :
    Tri Try.prog 51 #[.int .i64 (d : Int), .string s, .pointer (some ⟨b2, 0, none⟩)] k w fun v m => m = [bldr b2 (bs ++ lineT d (tl s))] := by
  refine enter (args := [.int .i64 (d : Int), .string s, .pointer (some ⟨b2, 0, none⟩)]) Try.func51 rfl rfl ?_
  have hrl : (ba (Lib.repeatL [32, 32] d)).size = d * 2 := by rw [ba_size, Lib.repeatL_length]; rfl
  have hsl := tl_len s
  refine K0 (K1 ?_)
  refine CK [.o b2] hO rfl (fun k' hx hr hO' => WriteString_spec k' _ b2 bs ⟨#[124, 32]⟩ (by show bs.length + 2 ≤ _; omega) hO') ?_
  rintro _ _ w ⟨rfl, rfl⟩ hO
  simp only [List.cons_append, List.nil_append] at hO
  refine K2 (K3 (K0 (K1 ?_)))
  refine l_y rfl rfl (y_move rfl) ?_
  refine CK [] hO rfl (fun k' hx hr hO' => Repeat_spec hd hO') ?_
  rintro _ _ w ⟨rfl, rfl⟩ hO
  simp only [List.cons_append, List.nil_append] at hO
  refine CK [.o b2] hO rfl (fun k' hx hr hO' => WriteString_spec k' _ b2 _ (ba (Lib.repeatL [32, 32] d)) (by rw [hrl, List.length_append]; show bs.length + 2 + _ ≤ _; omega) hO') ?_
  rintro _ _ w ⟨rfl, rfl⟩ hO
  simp only [List.cons_append, List.nil_append] at hO
  refine K2 (K3 (K0 (K1 ?_)))
  refine l_y rfl rfl (y_move rfl) ?_
  refine CK [.o b2] hO rfl (fun k' hx hr hO' => WriteString_spec k' _ b2 _ s (by rw [List.length_append, List.length_append]; show bs.length + 2 + (ba (Lib.repeatL [32, 32] d)).size + _ ≤ _; omega) hO') ?_
  rintro _ _ w ⟨rfl, rfl⟩ hO
  simp only [List.cons_append, List.nil_append] at hO
  refine K2 (K3 (K1 ?_))
  refine CK [.o b2] hO rfl (fun k' hx hr hO' => WriteString_spec k' _ b2 _ ⟨#[10]⟩ (by rw [List.length_append, List.length_append, List.length_append]; show bs.length + 2 + (ba (Lib.repeatL [32, 32] d)).size + s.size + 1 ≤ _; omega) hO') ?_
  rintro _ _ w ⟨rfl, rfl⟩ hO
  simp only [List.cons_append, List.nil_append] at hO
  refine K2 ?_
  refine fin0 rfl ⟨_, rfl, ?_⟩
  have e : bs ++ (⟨#[124, 32]⟩ : ByteArray).data.toList ++ (ba (Lib.repeatL [32, 32] d)).data.toList ++ s.data.toList ++ (⟨#[10]⟩ : ByteArray).data.toList = bs ++ lineT d (tl s) := by
    rw [show (ba (Lib.repeatL [32, 32] d)).data.toList = Lib.repeatL [32, 32] d from tl_ba _, lineT]
    simp only [List.append_assoc]
  rw [e] at hO
  exact hO
set_option maxHeartbeats 1000000 in
theorem head_spec {x : Api_node} (h : TextN x) (hO : Own k w []) : Tri Try.prog 57 #[.agg (Api_node.cells x).toArray] k w fun v m => v = .string (ba (headT x)) ∧ m = [] := by
  refine enter (args := [.agg (Api_node.cells x).toArray]) Try.func57 rfl rfl ?_
  have h1 := h.name
  have h2 := h.data
  have h3 := h.system
  have h4 := spaceT_len x.Space
  rw [← tl_len] at h1 h2 h3 h4
  refine K0 (K1 ?_)
  refine s_box (vs := [.int .i64 x.Kind, .int .i64 x.Space, .string x.Name, .slice x.AttrsP x.Attrs.length x.AttrsC, .string x.Data, .string x.System, .int .i64 x.Parent, .int .i64 x.First, .int .i64 x.Last, .int .i64 x.Prev, .int .i64 x.Next, .int .i64 x.Inner]) hO rfl rfl rfl (by rfl) fun b1 w hO => ?_
  refine l_y rfl rfl (y_assign rfl) ?_
  refine K2 (K3 (K0 (K0 (K1 ?_))))
  refine l_y rfl rfl (y_fldb (o' := 0) rfl) ?_
  refine l_y rfl rfl (D5 hO rfl) ?_
  refine K2 (K3 (K4 (K0 (K1 ?_))))
  refine Z0 (fun h2_0 => ?_) (fun h2_0 => ?_)
  · refine l_y rfl rfl (y_assign rfl) ?_
    refine K2 (K3 (L8 (K0 ?_)))
    refine da_region (by intro c a d v w h; cases d <;> exact h) ?_
    have hO := hO.drew
    refine da_phase _ [] (SO.ks [.b b1] hO) ?_
    refine dx_u 0 (by kernel_rfl) rfl rfl rfl (fun w => y_fldb (o' := 1) rfl) ?_
    refine dx_y 1 (by kernel_rfl) rfl rfl rfl (fun w ⟨m, hw⟩ => D5 hw rfl) ?_
    refine dx_u 4 (by kernel_rfl) rfl rfl rfl (fun w => y_fldb (o' := 2) rfl) ?_
    refine dx_y 5 (by kernel_rfl) rfl rfl rfl (fun w ⟨m, hw⟩ => D5 hw rfl) ?_
    refine dx_only 2 (by kernel_rfl) rfl rfl ?_
    refine CK [] hO rfl (fun k' hx hr hO' => space_spec (hO := hO')) ?_
    rintro _ _ w ⟨rfl, rfl⟩ hO
    simp only [List.cons_append, List.nil_append] at hO
    refine o_done ?_
    refine ⟨SO.ks [.b b1] hO, ?_⟩
    refine dx_y 3 (by kernel_rfl) rfl rfl rfl (fun w ⟨m, hw⟩ => y_catB (X := [60]) (Y := tl (spaceT x.Space)) rfl rfl rfl rfl (by simp only [List.length_append, List.length_cons, List.length_nil]; omega)) ?_
    refine dx_y 6 (by kernel_rfl) rfl rfl rfl (fun w ⟨m, hw⟩ => y_catB (Y := tl x.Name) rfl rfl (tl_ba _) rfl (by simp only [List.length_append, List.length_cons, List.length_nil]; omega)) ?_
    refine dx_y 7 (by kernel_rfl) rfl rfl rfl (fun w ⟨m, hw⟩ => y_catB (Y := [62]) rfl rfl (tl_ba _) rfl (by simp only [List.length_append, List.length_cons, List.length_nil]; omega)) ?_
    refine dx_u 8 (by kernel_rfl) rfl rfl rfl (fun w => y_assign rfl) ?_
    refine dx_end (by kernel_rfl) ?_
    refine K3 (K6 (L0 (K9 ?_)))
    exact fin1 rfl rfl ⟨_, ⟨by rw [headT, if_pos (by assumption)], rfl⟩, hO.only []⟩
  · refine l_y rfl rfl (y_assign rfl) ?_
    refine K2 (K3 (L9 (K0 (K1 ?_))))
    refine Z0 (fun h4_0 => ?_) (fun h4_0 => ?_)
    · refine l_y rfl rfl (y_assign rfl) ?_
      refine K2 (K3 (L8 (K0 (K1 ?_))))
      refine l_y rfl rfl (y_fldb (o' := 4) rfl) ?_
      refine l_y rfl rfl (D5 hO rfl) ?_
      refine l_y rfl rfl (y_catB (X := [34]) (Y := tl x.Data) rfl rfl rfl rfl (by simp only [List.length_append, List.length_cons, List.length_nil]; omega)) ?_
      refine l_y rfl rfl (y_catB (Y := [34]) rfl rfl (tl_ba _) rfl (by simp only [List.length_append, List.length_cons, List.length_nil]; omega)) ?_
      refine l_y rfl rfl (y_assign rfl) ?_
      refine K2 (K3 (K6 (L0 (K9 ?_))))
      exact fin1 rfl rfl ⟨_, ⟨by rw [headT, if_neg (by assumption), if_pos (by assumption)], rfl⟩, hO.only []⟩
    · refine l_y rfl rfl (y_assign rfl) ?_
      refine K2 (K3 (L9 (K0 (K1 ?_))))
      refine Z0 (fun h6_0 => ?_) (fun h6_0 => ?_)
      · refine l_y rfl rfl (y_assign rfl) ?_
        refine K2 (K3 (L8 (K0 (K1 ?_))))
        refine l_y rfl rfl (y_fldb (o' := 4) rfl) ?_
        refine l_y rfl rfl (D5 hO rfl) ?_
        refine l_y rfl rfl (y_catB (X := [60, 33, 45, 45, 32]) (Y := tl x.Data) rfl rfl rfl rfl (by simp only [List.length_append, List.length_cons, List.length_nil]; omega)) ?_
        refine l_y rfl rfl (y_catB (Y := [32, 45, 45, 62]) rfl rfl (tl_ba _) rfl (by simp only [List.length_append, List.length_cons, List.length_nil]; omega)) ?_
        refine l_y rfl rfl (y_assign rfl) ?_
        refine K2 (K3 (K6 (L0 (K9 ?_))))
        exact fin1 rfl rfl ⟨_, ⟨by rw [headT, if_neg (by assumption), if_neg (by assumption), if_pos (by assumption)], rfl⟩, hO.only []⟩
      · refine l_y rfl rfl (y_assign rfl) ?_
        refine K2 (K3 (L9 (K5 (K8 (K3 (K0 (K1 ?_)))))))
        refine l_y rfl rfl (y_assign rfl) ?_
        refine K2 (K3 ?_)
        refine c_cut (X := List UInt8) (fun u => [(1, .pointer (some ⟨b1, 0, none⟩)), (2, .string ⟨#[]⟩), (3, .string (ba u))]) (fun u w => Own k w [blk b1 55 (Api_node.cells x)] ∧ (u = idsT x) ∧ (¬ x.Kind = 1 ∧ ¬ x.Kind = 2 ∧ ¬ x.Kind = 3)) ?_ ?_
        · refine K0 (K1 ?_)
          refine l_y rfl rfl (y_fldb (o' := 4) rfl) ?_
          refine l_y rfl rfl (D5 hO rfl) ?_
          refine Z3 (fun h9_2 => ?_) (fun h9_2 => ?_)
          · refine l_y rfl rfl (y_move rfl) ?_
            repeat refine M2 ?_
            refine l_y rfl rfl (y_pick_t rfl rfl) ?_
            refine K2 (K3 (L8 (K1 ?_)))
            refine l_y rfl rfl (y_fldb (o' := 4) rfl) ?_
            refine l_y rfl rfl (D5 hO rfl) ?_
            refine l_y rfl rfl (y_catB (X := [32, 34]) (Y := tl x.Data) rfl rfl rfl rfl (by simp only [List.length_append, List.length_cons, List.length_nil]; omega)) ?_
            refine l_y rfl rfl (y_catB (Y := [34, 32, 34]) rfl rfl (tl_ba _) rfl (by simp only [List.length_append, List.length_cons, List.length_nil]; omega)) ?_
            refine l_y rfl rfl (y_fldb (o' := 5) rfl) ?_
            refine l_y rfl rfl (D5 hO rfl) ?_
            refine l_y rfl rfl (y_catB (Y := tl x.System) rfl rfl (tl_ba _) rfl (by simp only [List.length_append, List.length_cons, List.length_nil]; omega)) ?_
            refine l_y rfl rfl (y_catB (Y := [34]) rfl rfl (tl_ba _) rfl (by simp only [List.length_append, List.length_cons, List.length_nil]; omega)) ?_
            refine l_y rfl rfl (y_assign rfl) ?_
            refine K2 ?_
            exact q_cut (_) ⟨rfl, rfl, rfl, trivial⟩ ⟨hO.only [.b b1], (by first | (rw [idsT, if_pos ⟨by assumption, by assumption⟩]) | (rw [idsT, if_neg]; rintro ⟨ea, eb⟩; contradiction)), ⟨by assumption, by assumption, by assumption⟩⟩
          · refine l_y rfl rfl (y_move rfl) ?_
            refine l_y rfl rfl (y_fldb (o' := 5) rfl) ?_
            refine l_y rfl rfl (D5 hO rfl) ?_
            refine Z3 (fun h9_6 => ?_) (fun h9_6 => ?_)
            · refine l_y rfl rfl (y_pick_f rfl rfl) ?_
              refine K2 (K3 (L8 (K1 ?_)))
              refine l_y rfl rfl (y_fldb (o' := 4) rfl) ?_
              refine l_y rfl rfl (D5 hO rfl) ?_
              refine l_y rfl rfl (y_catB (X := [32, 34]) (Y := tl x.Data) rfl rfl rfl rfl (by simp only [List.length_append, List.length_cons, List.length_nil]; omega)) ?_
              refine l_y rfl rfl (y_catB (Y := [34, 32, 34]) rfl rfl (tl_ba _) rfl (by simp only [List.length_append, List.length_cons, List.length_nil]; omega)) ?_
              refine l_y rfl rfl (y_fldb (o' := 5) rfl) ?_
              refine l_y rfl rfl (D5 hO rfl) ?_
              refine l_y rfl rfl (y_catB (Y := tl x.System) rfl rfl (tl_ba _) rfl (by simp only [List.length_append, List.length_cons, List.length_nil]; omega)) ?_
              refine l_y rfl rfl (y_catB (Y := [34]) rfl rfl (tl_ba _) rfl (by simp only [List.length_append, List.length_cons, List.length_nil]; omega)) ?_
              refine l_y rfl rfl (y_assign rfl) ?_
              refine K2 ?_
              exact q_cut (_) ⟨rfl, rfl, rfl, trivial⟩ ⟨hO.only [.b b1], (by first | (rw [idsT, if_pos ⟨by assumption, by assumption⟩]) | (rw [idsT, if_neg]; rintro ⟨ea, eb⟩; contradiction)), ⟨by assumption, by assumption, by assumption⟩⟩
            · refine l_y rfl rfl (y_pick_f rfl rfl) ?_
              refine K2 (K3 (L9 (K5 ?_)))
              exact q_cut (_) ⟨rfl, rfl, rfl, trivial⟩ ⟨hO.only [.b b1], (by first | (rw [idsT, if_pos ⟨by assumption, by assumption⟩]) | (rw [idsT, if_neg]; rintro ⟨ea, eb⟩; contradiction)), ⟨by assumption, by assumption, by assumption⟩⟩
        · rintro u w ⟨hO, hu, hk⟩
          refine K0 (K1 ?_)
          refine l_y rfl rfl (y_fldb (o' := 2) rfl) ?_
          refine l_y rfl rfl (D5 hO rfl) ?_
          refine l_y rfl rfl (y_catB (X := [60, 33, 68, 79, 67, 84, 89, 80, 69, 32]) (Y := tl x.Name) rfl rfl rfl rfl (by simp only [List.length_append, List.length_cons, List.length_nil]; omega)) ?_
          refine l_y rfl rfl (y_move rfl) ?_
          have hul : u.length ≤ 2097160 := by
            rw [hu, idsT]
            split
            · exact Nat.zero_le _
            · simp only [List.length_append, List.length_cons, List.length_nil]; omega
          refine l_y rfl rfl (y_catB rfl rfl (tl_ba _) (tl_ba _) (by simp only [List.length_append, List.length_cons, List.length_nil]; omega)) ?_
          refine l_y rfl rfl (y_catB (Y := [62]) rfl rfl (tl_ba _) rfl (by simp only [List.length_append, List.length_cons, List.length_nil]; omega)) ?_
          refine l_y rfl rfl (y_assign rfl) ?_
          refine K2 (K3 (K6 ?_))
          exact fin1 rfl rfl ⟨_, ⟨by rw [headT, if_neg hk.1, if_neg hk.2.1, if_neg hk.2.2, hu], rfl⟩, hO.only []⟩
end
end Go.Proofs.Ythkmnohghpdjhaa
end
section
set_option linter.unusedVariables false
set_option linter.unusedSimpArgs false
set_option maxRecDepth 100000
namespace Go.Proofs.Ythkmnohghpdjhaa
open Go Go.Hb Go.RowKit
section
variable {k : Ctx} {w : World}
theorem putI_spec {b2 : Nat} {bs : List UInt8} {d : Int} {s : ByteArray} (h0 : 0 ≤ d) (hd : d ≤ 1000000) (hs : bs.length + s.size + 2000003 ≤ 35184372088832) (hO : Own k w [bldr b2 bs]) :
    Tri Try.prog 51 #[.int .i64 d, .string s, .pointer (some ⟨b2, 0, none⟩)] k w fun v m => m = [bldr b2 (bs ++ lineT d.toNat (tl s))] := by
  obtain ⟨m, rfl⟩ := Int.eq_ofNat_of_zero_le h0
  exact put3_spec (by omega) (by omega) hO
/-- pop, both ways -/
theorem popI_spec {b : Nat} {xs : List Show_item} (hl : xs.length ≤ 1000000000) (hO : Own k w [pileitem b xs]) :
    Tri Try.prog 56 #[.pointer (some ⟨b, 0, none⟩)] k w fun v m => ∃ t ok rest, Popped ok t xs rest ∧ v = .tuple #[.agg (Show_item.cells t).toArray, .bool ok] ∧ m = [pileitem b rest] := by
  rcases List.eq_nil_or_concat xs with rfl | ⟨ys, z, rfl⟩
  · refine (popNitem_spec hO).mono ?_
    rintro v m ⟨rfl, rfl⟩
    exact ⟨default, false, [], .inr ⟨rfl, rfl, rfl⟩, rfl, rfl⟩
  · rw [List.concat_eq_append] at hO hl
    simp only [List.length_append, List.length_cons, List.length_nil] at hl
    refine (popitem_spec (by omega) hO).mono ?_
    rintro v m ⟨rfl, rfl⟩
    exact ⟨z, true, ys, .inl ⟨rfl, List.concat_eq_append⟩, rfl, rfl⟩
/-- the library's sort, at the attributes of an arena -/
def Sorts (A : List Node_one) (srt : List Api_attr → List Api_attr) : Prop := ∀ (k : Ctx) (w : World) (p : Option Addr) (c : Nat) (x : Int), InA A x → Own k w [sls p c 63 4 Api_attr.cells (nodeA A x).Attrs] →
  Tri Try.prog 58 #[.slice p (nodeA A x).Attrs.length c, .func (.func 59) #[] #[]] k w fun v m => m = [sls p c 63 4 Api_attr.cells (srt (nodeA A x).Attrs)]
theorem shAs_take {d : Nat} {l : List Api_attr} {i : Nat} (h : i < l.length) : shAs d (l.take (i + 1)) = shAs d (l.take i) ++ lineT (d + 1) (shA (at_ l i)) := by
  rw [take_succ_at h, shAs, List.flatMap_append]
  simp [shAs]
theorem rev_next {A : List Node_one} {K : Int → List Int} {x : Show_item} (h : x.line = ⟨#[]⟩) : (nextI A K x).reverse = (K x.id).reverse.map (kidI (x.depth + 1)) ++ (if (nodeA A x.id).Inner = -1 then [] else (K (nodeA A x.id).Inner).reverse.map (kidI (x.depth + 2)) ++ [contI (x.depth + 1)]) := by
  rw [nextI, if_neg (by simp [h]), innI, List.reverse_append]
  congr 1
  · rw [List.map_reverse]
  · split
    · rfl
    · rw [List.reverse_cons, List.map_reverse]
theorem att_len {n : Api_node} (h : TextN n) {y : Api_attr} (hm : y ∈ n.Attrs) : y.Name.size ≤ 1048576 ∧ y.Value.size ≤ 1048576 :=
  ⟨long_mem h.attrs (by simp only [attrTexts, List.mem_flatMap]; exact ⟨y, hm, by simp⟩), long_mem h.attrs (by simp only [attrTexts, List.mem_flatMap]; exact ⟨y, hm, by simp⟩)⟩
theorem shAs_le {d : Nat} (l : List Api_attr) (i : Nat) : (shAs d (l.take i)).length ≤ (shAs d l).length := by
  have e : shAs d l = shAs d (l.take i) ++ shAs d (l.drop i) := by rw [shAs, shAs, shAs, ← List.flatMap_append, List.take_append_drop]
  rw [e, List.length_append]; omega
/-- what Show writes of a node -/
def showT (A : List Node_one) (K : Int → List Int) (srt : List Api_attr → List Api_attr) (id : Int) : List UInt8 := if hasB A id = true then showF A K srt (2 * A.length) ((K id).map (kidI 0)) else []
set_option maxHeartbeats 8000000 in
theorem Show_spec {a : Nat} {A : List Node_one} {K : Int → List Int} {srt : List Api_attr → List Api_attr} {id : Int} (t : Tree A K) (g : InnOk A) (hT : TextOk A) (hp : ∀ x, InA A x → (srt (nodeA A x).Attrs).Perm (nodeA A x).Attrs) (hs : Sorts A srt) (h0 : 0 < A.length) (hl : A.length ≤ 1000) (hO : Own k w [arenaL a A]) :
    Tri Try.prog 18 #[.pointer (some ⟨a, 0, none⟩), .int .i64 id] k w fun v m => v = .tuple #[.string (ba (showT A K srt id)), .int .i64 (errN A id)] ∧ m = [arenaL a A] := by
  refine enter (args := [.pointer (some ⟨a, 0, none⟩), .int .i64 id]) Try.func18 rfl rfl ?_
  refine K0 (K1 ?_)
  refine s_box (vs := [.pointer (some ⟨a, 0, none⟩)]) hO rfl rfl rfl (by rfl) fun b2 w hO => ?_
  refine l_y rfl rfl (y_assign rfl) ?_
  refine l_y rfl rfl (y_assign rfl) ?_
  refine K2 (K3 (K0 (K0 (K1 ?_))))
  refine l_y rfl rfl (D5 hO rfl) ?_
  refine l_y rfl rfl (y_move rfl) ?_
  refine CK [.o a] hO rfl (fun k' hx hr hO' => NodeX_spec h0 t.attrs hO') ?_
  rintro _ _ w ⟨n, hn, rfl, rfl⟩ hO
  simp only [List.cons_append, List.nil_append] at hO
  refine l_y rfl rfl (y_move rfl) ?_
  refine l_y rfl rfl (y_extract rfl rfl) ?_
  refine l_y rfl rfl (y_extract rfl rfl) ?_
  refine s_alloc (vs := [.int .i64 0, .int .i64 0, .string ⟨#[]⟩, .slice none 0 0, .string ⟨#[]⟩, .string ⟨#[]⟩, .int .i64 0, .int .i64 0, .int .i64 0, .int .i64 0, .int .i64 0, .int .i64 0]) hO rfl rfl rfl fun b6 w hO => ?_
  refine Y3 hO rfl rfl (fun w hO => ?_)
  refine l_y rfl rfl (y_assign rfl) ?_
  refine K2 (K3 (K0 (K1 ?_)))
  refine l_y rfl rfl (y_move rfl) ?_
  refine Z1 (fun h2_1 => ?_) (fun h2_1 => ?_)
  · refine K2 (K3 (L8 (K0 (K1 ?_))))
    refine l_y rfl rfl (y_move rfl) ?_
    refine l_y rfl rfl (y_assign rfl) ?_
    refine l_y rfl rfl (y_assign rfl) ?_
    refine K2 (K3 (K6 (K9 ?_)))
    have hb : ¬ hasB A id = true := fun e => h2_1 (by rw [errN, if_pos e])
    exact fin2 rfl rfl rfl ⟨_, ⟨by rw [showT, if_neg hb], rfl⟩, hO.only [.o a]⟩
  · refine K2 (K3 (L9 (K5 (K3 (K0 ?_)))))
    have hb : hasB A id = true := errN_zero (by omega)
    have hid := inA_iff.1 hb
    have hkl := t.len hid
    refine K1 ?_
    refine s_alloc (vs := [.pointer none, .slice none 0 0]) hO rfl rfl rfl fun b8 w hO => ?_
    refine K2 (K3 (K0 ?_))
    have hO := bldr_new (hO.ks [.b b8])
    refine K1 ?_
    refine l_y rfl rfl (y_makeFunc rfl rfl) ?_
    refine l_y rfl rfl (y_assign rfl) ?_
    refine K2 (K3 (K0 (K1 ?_)))
    refine s_alloc (vs := [.slice none 0 0]) hO rfl rfl rfl fun b10 w hO => ?_
    refine K2 (K3 (K0 ?_))
    have hO := pileitem_shut (xs := []) (hO.ks [.b b10] |> sl_nil 106 3 |> Own.swap)
    refine K1 ?_
    refine l_y rfl rfl (y_makeFunc rfl rfl) ?_
    refine l_y rfl rfl (y_assign rfl) ?_
    refine K2 (K3 (K0 (K1 ?_)))
    refine l_y rfl rfl (y_move rfl) ?_
    refine l_y rfl rfl (y_move rfl) ?_
    refine CKv [.b b2, .o a, .o b10] hO rfl rfl (fun k' hx hr hO' => below_spec (K := K) t hid hl (by simp) hO') ?_
    rintro _ _ w rfl hO
    simp only [List.cons_append, List.nil_append] at hO
    refine K2 (K3 (K0 (K0 (K1 ?_))))
    refine CK [.o b10] hO rfl (fun k' hx hr hO' => popI_spec (by simp only [List.length_map, List.length_reverse]; omega) hO') ?_
    rintro _ _ w ⟨c0, ok0, xs0, hpop, rfl, rfl⟩ hO
    simp only [List.cons_append, List.nil_append] at hO
    refine l_y rfl rfl (y_move rfl) ?_
    refine l_y rfl rfl (y_extract rfl rfl) ?_
    refine l_y rfl rfl (y_extract rfl rfl) ?_
    refine s_alloc (vs := [.int .i64 0, .int .i64 0, .string ⟨#[]⟩]) hO rfl rfl rfl fun b12 w hO => ?_
    refine Y3 hO rfl rfl (fun w hO => ?_)
    refine l_y rfl rfl (y_assign rfl) ?_
    refine K2 (K3 (K4 ?_))
    refine c_rounds (X := Nat × Bool × Show_item × List Show_item × Nat × List UInt8) (fun s => [(2, .pointer (some ⟨b2, 0, none⟩)), (4, .string ⟨#[]⟩), (5, .int .i64 0), (8, .pointer (some ⟨b8, 0, none⟩)), (9, .func (.func 51) #[] #[.pointer (some ⟨b8, 0, none⟩)]), (10, .pointer (some ⟨b10, 0, none⟩)), (11, .func (.func 53) #[] #[.pointer (some ⟨b2, 0, none⟩), .pointer (some ⟨b10, 0, none⟩)]), (12, .pointer (some ⟨s.1, 0, none⟩)), (13, .bool s.2.1)]) (fun s w => Own k w [arenaL a A, bldr b8 s.2.2.2.2.2, pileitem b10 s.2.2.2.1, blk b2 23 [.pointer (some ⟨a, 0, none⟩)], blk s.1 106 (Show_item.cells s.2.2.1)] ∧ (ShI A K srt (showF A K srt (2 * A.length) ((K id).map (kidI 0))) (2 * A.length) s.2.1 s.2.2.1 s.2.2.2.1 s.2.2.2.2.1 s.2.2.2.2.2)) (fun s => s.2.2.2.2.1) ((b12, ok0, c0, xs0, 2 * A.length, [])) ⟨rfl, rfl, rfl, rfl, rfl, rfl, rfl, rfl, rfl, trivial⟩ ⟨hO.only [.o a, .o b8, .o b10, .b b2, .b b12], ShI.start t hid hpop⟩ ?_
    rintro s w m hm ⟨hO, hI⟩
    refine K0 (K0 (K1 ?_))
    refine l_y rfl rfl (y_move rfl) ?_
    refine K2 (K3 ?_)
    refine c_split rfl (fun hc36 => ?_) (fun hc36 => ?_)
    · refine K5 (K3 ?_)
      refine c_cut (X := List UInt8 × List Show_item) (fun y => [(2, .pointer (some ⟨b2, 0, none⟩)), (4, .string ⟨#[]⟩), (5, .int .i64 0), (8, .pointer (some ⟨b8, 0, none⟩)), (9, .func (.func 51) #[] #[.pointer (some ⟨b8, 0, none⟩)]), (10, .pointer (some ⟨b10, 0, none⟩)), (11, .func (.func 53) #[] #[.pointer (some ⟨b2, 0, none⟩), .pointer (some ⟨b10, 0, none⟩)]), (12, .pointer (some ⟨s.1, 0, none⟩))]) (fun y w => Own k w [arenaL a A, bldr b8 y.1, pileitem b10 y.2, blk b2 23 [.pointer (some ⟨a, 0, none⟩)], blk s.1 106 (Show_item.cells s.2.2.1)] ∧ (s.2.1 = true) ∧ (y.1 = s.2.2.2.2.2 ++ txtI A srt s.2.2.1 ∧ y.2 = s.2.2.2.1 ++ (nextI A K s.2.2.1).reverse)) ?_ ?_
      · refine K4 (K0 (K0 ?_))
        have hI := hI
        rw [hc36] at hI
        obtain ⟨c1, c2, c3, c4⟩ := hI.cur rfl
        have hmx := hI.max
        have hsm := hI.sum
        rw [if_pos rfl] at hsm
        have hxl := wL_len fun x hx => (hI.all x hx).1
        have hbl := hI.len
        have hcs : 2 * A.length * CS ≤ 2000 * CS := Nat.mul_le_mul_right _ (by omega)
        have hcv : 2000 * CS = 6600000000000 := rfl
        have hn1 := wI_pos c1
        have hcn : CS ≤ s.2.2.2.2.1 * CS := Nat.le_mul_of_pos_left _ (by omega)
        have hcv1 : CS = 3300000000 := rfl
        refine K1 ?_
        refine l_y rfl rfl (y_fldb (o' := 2) rfl) ?_
        refine l_y rfl rfl (D5 hO rfl) ?_
        refine Z3 (fun h12_2 => ?_) (fun h12_2 => ?_)
        · refine K2 (K3 (L8 (K0 (K1 ?_))))
          refine l_y rfl rfl (y_move rfl) ?_
          refine l_y rfl rfl (y_fldb (o' := 1) rfl) ?_
          refine l_y rfl rfl (D5 hO rfl) ?_
          refine l_y rfl rfl (y_fldb (o' := 2) rfl) ?_
          refine l_y rfl rfl (D5 hO rfl) ?_
          refine CKv [.o b8] hO rfl rfl (fun k' hx hr hO' => putI_spec c2 (by omega) (by omega) hO') ?_
          rintro _ _ w rfl hO
          simp only [List.cons_append, List.nil_append] at hO
          have hline : ¬ s.2.2.1.line = ⟨#[]⟩ := by assumption
          have htx : lineT s.2.2.1.depth.toNat (tl s.2.2.1.line) = txtI A srt s.2.2.1 := by rw [txtI, if_pos hline]
          have hnx : (nextI A K s.2.2.1).reverse = [] := by rw [nextI, if_pos hline]; rfl
          refine K2 (K3 (K7 (L1 (L2 ?_))))
          exact q_cut ((_, _)) ⟨rfl, rfl, rfl, rfl, rfl, rfl, rfl, rfl, trivial⟩ ⟨hO.only [.o a, .o b8, .o b10, .b b2, .b s.1], hc36, (by first | exact ⟨by rw [htx], by rw [hnx, List.append_nil]⟩ | exact ⟨hfb, hfx⟩)⟩
        · refine K2 (K3 (L9 (K5 (K3 (K0 ?_)))))
          have hline : s.2.2.1.line = ⟨#[]⟩ := by first | assumption | (simp_all; done)
          have hci := c1 hline
          have hcb := hci.b
          have hki := t.len hci
          refine K1 ?_
          refine l_y rfl rfl (D5 hO rfl) ?_
          refine l_y rfl rfl (y_fldb (o' := 0) rfl) ?_
          refine l_y rfl rfl (D5 hO rfl) ?_
          refine CK [.o a] hO rfl (fun k' hx hr hO' => NodeX_spec h0 t.attrs hO') ?_
          rintro _ _ w ⟨n, hn, rfl, rfl⟩ hO
          simp only [List.cons_append, List.nil_append] at hO
          have htn := hT _ hci
          have hna := hn.attrs hcb
          have hhd : headT n = headT (nodeA A s.2.2.1.id) := by obtain ⟨q0, d0, rfl⟩ := hn hcb; rfl
          have htn2 : TextN n := by obtain ⟨q0, d0, rfl⟩ := hn hcb; exact ⟨htn.name, htn.data, htn.system, htn.attrs⟩
          have hnl : (nodeA A s.2.2.1.id).Attrs.length ≤ 1024 := t.attrs _ (by have := hci.1; have := hci.2; omega)
          have hpl := (hp _ hci).length_eq
          have htl := txtI_len hT t.attrs hp c1 (by omega) c4
          have htx : txtI A srt s.2.2.1 = lineT s.2.2.1.depth.toNat (headT n) ++ shAs s.2.2.1.depth.toNat (srt (nodeA A s.2.2.1.id).Attrs) := by rw [txtI, if_neg (by simp [hline]), hhd]
          have hpl2 : n.Attrs.length = (srt (nodeA A s.2.2.1.id).Attrs).length := by rw [hpl, hna]
          refine l_y rfl rfl (y_move rfl) ?_
          refine l_y rfl rfl (y_extract rfl rfl) ?_
          refine l_y rfl rfl (y_extract rfl rfl) ?_
          refine s_alloc (vs := [.int .i64 0, .int .i64 0, .string ⟨#[]⟩, .slice none 0 0, .string ⟨#[]⟩, .string ⟨#[]⟩, .int .i64 0, .int .i64 0, .int .i64 0, .int .i64 0, .int .i64 0, .int .i64 0]) hO rfl rfl rfl fun b14 w hO => ?_
          refine Y3 hO rfl rfl (fun w hO => ?_)
          refine l_y rfl rfl (y_assign rfl) ?_
          refine K2 (K3 (K0 ?_))
          refine da_region (by intro c a d v w h; cases d <;> exact h) ?_
          have hO := hO.drew
          refine da_phase _ [5] (SO.ks [.b s.1, .b b14] hO) ?_
          refine dx_u 0 (by kernel_rfl) rfl rfl rfl (fun w => y_move rfl) ?_
          refine dx_u 1 (by kernel_rfl) rfl rfl rfl (fun w => y_fldb (o' := 1) rfl) ?_
          refine dx_y 2 (by kernel_rfl) rfl rfl rfl (fun w ⟨m, hw⟩ => D5 hw rfl) ?_
          refine dx_y 3 (by kernel_rfl) rfl rfl rfl (fun w ⟨m, hw⟩ => D8 (cs := [.int .i64 n.Kind, .int .i64 n.Space, .string n.Name, .slice n.AttrsP n.Attrs.length n.AttrsC, .string n.Data, .string n.System, .int .i64 n.Parent, .int .i64 n.First, .int .i64 n.Last, .int .i64 n.Prev, .int .i64 n.Next, .int .i64 n.Inner]) hw rfl) ?_
          refine dx_only 4 (by kernel_rfl) rfl rfl ?_
          refine CK [] hO rfl (fun k' hx hr hO' => head_spec (x := n) htn2 hO') ?_
          rintro _ _ w ⟨rfl, rfl⟩ hO
          simp only [List.cons_append, List.nil_append] at hO
          refine o_done ?_
          refine ⟨SO.ks [.b s.1, .b b14] hO, ?_⟩
          refine dx_close 5 (by kernel_rfl) rfl rfl ?_
          refine CKv [.o b8] hO rfl rfl (fun k' hx hr hO' => putI_spec c2 (by omega) (by rw [ba_size]; have := headT_len htn2; omega) hO') ?_
          rintro _ _ w rfl hO
          simp only [List.cons_append, List.nil_append] at hO
          rw [tl_ba] at hO
          refine o_done ?_
          refine da_end (by kernel_rfl) ?_
          refine K3 (K0 (K1 ?_))
          refine l_y rfl rfl (y_fldb (o' := 3) rfl) ?_
          refine l_y rfl rfl (D5 hO rfl) ?_
          refine CK [.p n.AttrsP] hO rfl (fun k' hx hr hO' => by
              rw [hna] at hO' ⊢
              exact hs k' _ n.AttrsP n.AttrsC _ hci hO') ?_
          rintro _ _ w rfl hO
          simp only [List.cons_append, List.nil_append] at hO
          refine K2 (K3 (K0 (K0 (K1 ?_))))
          refine l_y rfl rfl (y_fldb (o' := 3) rfl) ?_
          refine l_y rfl rfl (D5 hO rfl) ?_
          refine l_y rfl rfl (y_lenL rfl) ?_
          rw [hpl2]
          rw [show s.2.2.2.2.2 ++ lineT s.2.2.1.depth.toNat (headT n) = s.2.2.2.2.2 ++ lineT s.2.2.1.depth.toNat (headT n) ++ shAs s.2.2.1.depth.toNat ((srt (nodeA A s.2.2.1.id).Attrs).take 0) by simp [shAs]] at hO
          have hgs := (sls_fct (p := n.AttrsP) hO).2
          refine l_y rfl rfl (y_move rfl) ?_
          refine K2 (K3 (K4 ?_))
          refine c_rounds (X := Nat) (fun i => [(2, .pointer (some ⟨b2, 0, none⟩)), (4, .string ⟨#[]⟩), (5, .int .i64 0), (8, .pointer (some ⟨b8, 0, none⟩)), (9, .func (.func 51) #[] #[.pointer (some ⟨b8, 0, none⟩)]), (10, .pointer (some ⟨b10, 0, none⟩)), (11, .func (.func 53) #[] #[.pointer (some ⟨b2, 0, none⟩), .pointer (some ⟨b10, 0, none⟩)]), (12, .pointer (some ⟨s.1, 0, none⟩)), (14, .pointer (some ⟨b14, 0, none⟩)), (67, .slice n.AttrsP (srt (nodeA A s.2.2.1.id).Attrs).length n.AttrsC), (68, .int .i64 ((srt (nodeA A s.2.2.1.id).Attrs).length : Nat)), (69, .int .i64 (i : Int))]) (fun i w => Own k w [arenaL a A, bldr b8 (s.2.2.2.2.2 ++ lineT s.2.2.1.depth.toNat (headT n) ++ shAs s.2.2.1.depth.toNat ((srt (nodeA A s.2.2.1.id).Attrs).take i)), pileitem b10 s.2.2.2.1, blk b2 23 [.pointer (some ⟨a, 0, none⟩)], blk s.1 106 (Show_item.cells s.2.2.1), blk b14 55 (Api_node.cells n), sls n.AttrsP n.AttrsC 63 4 Api_attr.cells (srt (nodeA A s.2.2.1.id).Attrs)] ∧ (i ≤ (srt (nodeA A s.2.2.1.id).Attrs).length)) (fun i => (srt (nodeA A s.2.2.1.id).Attrs).length - i) (0) ⟨rfl, rfl, rfl, rfl, rfl, rfl, rfl, rfl, rfl, rfl, rfl, rfl, trivial⟩ ⟨hO.only [.o a, .o b8, .o b10, .b b2, .b s.1, .b b14, .p n.AttrsP], Nat.zero_le _⟩ ?_
          rintro i w m hm ⟨hO, hil⟩
          refine K0 (K1 ?_)
          refine Z0 (fun h18_0 => ?_) (fun h18_0 => ?_)
          · refine K2 (K3 (K0 (L8 (K5 (K3 (K0 (K4 (K0 (K1 ?_)))))))))
            refine l_y rfl rfl (y_idx rfl rfl) ?_
            refine l_y rfl rfl (y_eA (x0 := 0) (cs := [.int .i64 (at_ (srt (nodeA A s.2.2.1.id).Attrs) ((i : Int) : Int).toNat).Space, .string (at_ (srt (nodeA A s.2.2.1.id).Attrs) ((i : Int) : Int).toNat).Prefix, .string (at_ (srt (nodeA A s.2.2.1.id).Attrs) ((i : Int) : Int).toNat).Name, .string (at_ (srt (nodeA A s.2.2.1.id).Attrs) ((i : Int) : Int).toNat).Value]) hO rfl) ?_
            refine s_alloc (vs := [.int .i64 0, .string ⟨#[]⟩, .string ⟨#[]⟩, .string ⟨#[]⟩]) hO rfl rfl rfl fun b17 w hO => ?_
            refine Y3 hO rfl rfl (fun w hO => ?_)
            refine K2 (K3 ?_)
            obtain ⟨e, he⟩ : ∃ e, e = at_ (srt (nodeA A s.2.2.1.id).Attrs) ((i : Int)).toNat := ⟨_, rfl⟩
            have hza : e.Name.size ≤ 1048576 ∧ e.Value.size ≤ 1048576 := by rw [he]; exact att_len htn ((hp _ hci).mem_iff.1 (at_mem (xs := (srt (nodeA A s.2.2.1.id).Attrs)) (i := ((i : Nat) : Int).toNat) (by omega)))
            rw [← he] at hO ⊢
            have he2 : e = at_ (srt (nodeA A s.2.2.1.id).Attrs) i := he
            have hzl := shA_len hza.1 hza.2
            have hzs := spaceT_len e.Space
            rw [← tl_len] at hzs
            have hz1 := hza.1
            have hz2 := hza.2
            rw [← tl_len] at hz1 hz2
            have htk := shAs_le (d := s.2.2.1.depth.toNat) (srt (nodeA A s.2.2.1.id).Attrs) i
            have htl2 := htl
            rw [htx, List.length_append] at htl2
            refine da_region (by intro c a d v w h; cases d <;> exact h) ?_
            have hO := hO.drew
            refine da_phase _ [15] (SO.ks [.b s.1, .b b17] hO) ?_
            refine dx_u 0 (by kernel_rfl) rfl rfl rfl (fun w => y_move rfl) ?_
            refine dx_u 1 (by kernel_rfl) rfl rfl rfl (fun w => y_fldb (o' := 1) rfl) ?_
            refine dx_y 2 (by kernel_rfl) rfl rfl rfl (fun w ⟨m, hw⟩ => D5 hw rfl) ?_
            refine dx_u 3 (by kernel_rfl) rfl rfl rfl (fun w => D4) ?_
            refine dx_u 4 (by kernel_rfl) rfl rfl rfl (fun w => y_fldb (o' := 0) rfl) ?_
            refine dx_y 5 (by kernel_rfl) rfl rfl rfl (fun w ⟨m, hw⟩ => D5 hw rfl) ?_
            refine dx_u 7 (by kernel_rfl) rfl rfl rfl (fun w => y_fldb (o' := 2) rfl) ?_
            refine dx_y 8 (by kernel_rfl) rfl rfl rfl (fun w ⟨m, hw⟩ => D5 hw rfl) ?_
            refine dx_u 11 (by kernel_rfl) rfl rfl rfl (fun w => y_fldb (o' := 3) rfl) ?_
            refine dx_y 12 (by kernel_rfl) rfl rfl rfl (fun w ⟨m, hw⟩ => D5 hw rfl) ?_
            refine dx_only 6 (by kernel_rfl) rfl rfl ?_
            refine CK [] hO rfl (fun k' hx hr hO' => space_spec (hO := hO')) ?_
            rintro _ _ w ⟨rfl, rfl⟩ hO
            simp only [List.cons_append, List.nil_append] at hO
            refine o_done ?_
            refine ⟨SO.ks [.b s.1, .b b17] hO, ?_⟩
            refine dx_y 9 (by kernel_rfl) rfl rfl rfl (fun w ⟨m, hw⟩ => y_catB (X := tl (spaceT e.Space)) (Y := tl e.Name) rfl rfl rfl rfl (by omega)) ?_
            refine dx_y 10 (by kernel_rfl) rfl rfl rfl (fun w ⟨m, hw⟩ => y_catB (Y := [61, 34]) rfl rfl (tl_ba _) rfl (by simp only [List.length_append, List.length_cons, List.length_nil]; omega)) ?_
            refine dx_y 13 (by kernel_rfl) rfl rfl rfl (fun w ⟨m, hw⟩ => y_catB (Y := tl e.Value) rfl rfl (tl_ba _) rfl (by simp only [List.length_append, List.length_cons, List.length_nil]; omega)) ?_
            refine dx_y 14 (by kernel_rfl) rfl rfl rfl (fun w ⟨m, hw⟩ => y_catB (Y := [34]) rfl rfl (tl_ba _) rfl (by simp only [List.length_append, List.length_cons, List.length_nil]; omega)) ?_
            refine dx_close 15 (by kernel_rfl) rfl rfl ?_
            refine CKv [.o b8] hO rfl rfl (fun k' hx hr hO' => putI_spec (d := s.2.2.1.depth + 1) (by omega) (by omega) (by rw [ba_size]; simp only [List.length_append, List.length_cons, List.length_nil]; omega) hO') ?_
            rintro _ _ w rfl hO
            simp only [List.cons_append, List.nil_append] at hO
            rw [tl_ba, show (s.2.2.1.depth + 1).toNat = s.2.2.1.depth.toNat + 1 by omega, List.append_assoc (s.2.2.2.2.2 ++ lineT s.2.2.1.depth.toNat (headT n)), show tl (spaceT e.Space) ++ tl e.Name ++ [61, 34] ++ tl e.Value ++ [34] = shA e from rfl, he2, ← shAs_take (by omega)] at hO
            refine o_done ?_
            refine da_end (by kernel_rfl) ?_
            refine K8 (K3 (K1 ?_))
            refine l_y rfl rfl (D4) ?_
            refine l_y rfl rfl (y_move rfl) ?_
            refine K2 ?_
            exact q_next (i + 1) ⟨rfl, rfl, rfl, rfl, rfl, rfl, rfl, rfl, rfl, rfl, rfl, rfl, trivial⟩ ⟨hO.only [.o a, .o b8, .o b10, .b b2, .b s.1, .b b14, .p n.AttrsP], by omega⟩ (by omega)
          · refine K2 (K3 (K0 (L9 (K7 (L1 (L1 (L2 (K3 (K0 ?_)))))))))
            have e : i = (srt (nodeA A s.2.2.1.id).Attrs).length := by omega
            rw [e, List.take_of_length_le (Nat.le_refl _)] at hO
            have hfb : s.2.2.2.2.2 ++ lineT s.2.2.1.depth.toNat (headT n) ++ shAs s.2.2.1.depth.toNat (srt (nodeA A s.2.2.1.id).Attrs) = s.2.2.2.2.2 ++ txtI A srt s.2.2.1 := by rw [htx, List.append_assoc]
            have hnin := hn.inner hcb
            refine K1 ?_
            refine l_y rfl rfl (y_move rfl) ?_
            refine l_y rfl rfl (y_fldb (o' := 0) rfl) ?_
            refine l_y rfl rfl (D5 hO rfl) ?_
            refine l_y rfl rfl (y_fldb (o' := 1) rfl) ?_
            refine l_y rfl rfl (D5 hO rfl) ?_
            refine l_y rfl rfl (D4) ?_
            refine CKv [.b b2, .o a, .o b10] hO rfl rfl (fun k' hx hr hO' => below_spec (K := K) t hci hl (by omega) hO') ?_
            rintro _ _ w rfl hO
            simp only [List.cons_append, List.nil_append] at hO
            refine K2 (K3 (K0 (K1 ?_)))
            refine l_y rfl rfl (y_fldb (o' := 11) rfl) ?_
            refine l_y rfl rfl (D5 hO rfl) ?_
            refine Z1 (fun h23_2 => ?_) (fun h23_2 => ?_)
            · refine K2 (K3 (L8 (K0 (K1 ?_))))
              refine l_y rfl rfl (y_move rfl) ?_
              refine l_y rfl rfl (y_fldb (o' := 11) rfl) ?_
              refine l_y rfl rfl (D5 hO rfl) ?_
              refine l_y rfl rfl (y_fldb (o' := 1) rfl) ?_
              refine l_y rfl rfl (D5 hO rfl) ?_
              refine l_y rfl rfl (D4) ?_
              have hin : (nodeA A s.2.2.1.id).Inner ≠ -1 := by omega
              have hiu := (inner_up t g hci hin).1
              have hki2 := t.len hiu
              refine CKv [.b b2, .o a, .o b10] hO rfl rfl (fun k' hx hr hO' => below_spec (K := K) t (by rw [hnin]; exact hiu) hl (by simp only [List.length_append, List.length_map, List.length_reverse]; omega) hO') ?_
              rintro _ _ w rfl hO
              simp only [List.cons_append, List.nil_append] at hO
              rw [hnin] at hO
              refine K2 (K3 (K1 ?_))
              refine l_y rfl rfl (y_fldb (o' := 1) rfl) ?_
              refine l_y rfl rfl (D5 hO rfl) ?_
              refine l_y rfl rfl (D4) ?_
              refine s_build (parts := [(1, .tmp 109), (2, .const (.string ⟨#[99, 111, 110, 116, 101, 110, 116]⟩))]) (cs := [.int .i64 0, .int .i64 (s.2.2.1.depth + 1), .string ⟨#[99, 111, 110, 116, 101, 110, 116]⟩]) rfl rfl (fun a ha => partsOf_sound ha _ _ rfl) (by kernel_rfl) ?_
              refine s_lit (parts := [(0, .tmp 110)]) (enc := Show_item.cells) [⟨0, (s.2.2.1.depth + 1), ⟨#[99, 111, 110, 116, 101, 110, 116]⟩⟩] [.agg [.int .i64 0, .int .i64 (s.2.2.1.depth + 1), .string ⟨#[99, 111, 110, 116, 101, 110, 116]⟩].toArray] hO rfl (fun b111 w hO => ?_)
              refine CK [.o b10] hO rfl (fun k' hx hr hO' => pushitem_spec (ys := [⟨0, s.2.2.1.depth + 1, ⟨#[99, 111, 110, 116, 101, 110, 116]⟩⟩]) (sls_roK (p := some ⟨b111, 0, none⟩) hr (sls_fct hO)) (by simp only [List.length_append, List.length_map, List.length_reverse, List.length_cons, List.length_nil]; omega) (hO := hO')) ?_
              rintro _ _ w rfl hO
              simp only [List.cons_append, List.nil_append] at hO
              have hfx : s.2.2.2.1 ++ (K s.2.2.1.id).reverse.map (kidI (s.2.2.1.depth + 1)) ++ (K (nodeA A s.2.2.1.id).Inner).reverse.map (kidI (s.2.2.1.depth + 2)) ++ [⟨0, s.2.2.1.depth + 1, ⟨#[99, 111, 110, 116, 101, 110, 116]⟩⟩] = s.2.2.2.1 ++ (nextI A K s.2.2.1).reverse := by rw [rev_next hline, if_neg hin]; simp only [List.append_assoc]; rfl
              refine K2 (K8 ?_)
              exact q_cut ((_, _)) ⟨rfl, rfl, rfl, rfl, rfl, rfl, rfl, rfl, trivial⟩ ⟨hO.only [.o a, .o b8, .o b10, .b b2, .b s.1], hc36, (by first | exact ⟨by rw [htx], by rw [hnx, List.append_nil]⟩ | exact ⟨hfb, hfx⟩)⟩
            · have hfx : s.2.2.2.1 ++ (K s.2.2.1.id).reverse.map (kidI (s.2.2.1.depth + 1)) = s.2.2.2.1 ++ (nextI A K s.2.2.1).reverse := by rw [rev_next hline, if_pos (by omega), List.append_nil]
              refine K2 (K3 (L9 (K5 (K8 ?_))))
              exact q_cut ((_, _)) ⟨rfl, rfl, rfl, rfl, rfl, rfl, rfl, rfl, trivial⟩ ⟨hO.only [.o a, .o b8, .o b10, .b b2, .b s.1], hc36, (by first | exact ⟨by rw [htx], by rw [hnx, List.append_nil]⟩ | exact ⟨hfb, hfx⟩)⟩
      · rintro y w ⟨hO, hok, hy⟩
        refine K0 (K0 ?_)
        have hI := hI
        rw [hok] at hI
        obtain ⟨c1, c2, c3, c4⟩ := hI.cur rfl
        have hmx := hI.max
        have hsm := hI.sum
        rw [if_pos rfl] at hsm
        have hxl := wL_len fun x hx => (hI.all x hx).1
        have hnn := wL_len fun x hx => (next_ok t g c1 x hx).1
        have hnw := next_w t g c1
        have hyl : y.2.length ≤ 100000 := by rw [hy.2, List.length_append, List.length_reverse]; omega
        refine K1 ?_
        refine l_y rfl rfl (D8 (cs := [.int .i64 s.2.2.1.id, .int .i64 s.2.2.1.depth, .string s.2.2.1.line]) hO rfl) ?_
        refine K2 (K3 (K1 ?_))
        refine s_alloc (vs := [.int .i64 0, .int .i64 0, .string ⟨#[]⟩]) hO rfl rfl rfl fun b12 w hO => ?_
        refine Y3 hO rfl rfl (fun w hO => ?_)
        refine K2 (K3 (K1 ?_))
        refine CK [.o b10] hO rfl (fun k' hx hr hO' => popI_spec (by omega) hO') ?_
        rintro _ _ w ⟨c2', ok2, l2, hpop2, rfl, rfl⟩ hO
        simp only [List.cons_append, List.nil_append] at hO
        rw [hy.2] at hpop2
        have hJ := ShI.next t g hT hp (by omega) hI hpop2
        rw [← hy.1] at hJ
        refine l_y rfl rfl (y_move rfl) ?_
        refine l_y rfl rfl (y_extract rfl rfl) ?_
        refine l_y rfl rfl (y_extract rfl rfl) ?_
        refine Y3 hO rfl rfl (fun w hO => ?_)
        refine l_y rfl rfl (y_assign rfl) ?_
        refine K2 ?_
        exact q_next ((b12, ok2, c2', l2, _, _)) ⟨rfl, rfl, rfl, rfl, rfl, rfl, rfl, rfl, rfl, trivial⟩ ⟨hO.only [.o a, .o b8, .o b10, .b b2, .b b12], hJ.1⟩ (by have h := hJ.2; dsimp only; omega)
    · refine K7 (L1 (L1 (L2 (K3 (K0 ?_)))))
      have hI := hI
      rw [hc36] at hI
      have hdn := hI.done
      have hbl := hI.len
      have hcs : 2 * A.length * CS ≤ 2000 * CS := Nat.mul_le_mul_right _ (by omega)
      have hcv : 2000 * CS = 6600000000000 := rfl
      refine K1 ?_
      refine CK [.o b8] hO rfl (fun k' hx hr hO' => String_spec k' _ b8 _ (by omega) hO') ?_
      rintro _ _ w ⟨rfl, rfl⟩ hO
      simp only [List.cons_append, List.nil_append] at hO
      refine l_y rfl rfl (y_assign rfl) ?_
      refine l_y rfl rfl (y_assign rfl) ?_
      refine K2 (K3 (K6 ?_))
      exact fin2 rfl rfl rfl ⟨_, ⟨by rw [showT, if_pos hb, ← hdn, errN, if_pos hb], rfl⟩, hO.only [.o a]⟩
end
end Go.Proofs.Ythkmnohghpdjhaa
end
section
set_option linter.unusedVariables false
set_option linter.unusedSimpArgs false
set_option maxRecDepth 100000
namespace Go.Proofs.Ythkmnohghpdjhaa
open Go Go.Hb Go.RowKit
section
variable {k : Ctx} {w : World}
theorem ins0_spec {p : Option Addr} {c : Nat} {v : Value} (hO : Own k w []) :
    Tri Try.prog 101 #[.slice p 0 c, .int .i64 0, .int .i64 0, v] k w fun _ m => m = [] := by
  refine enter (args := [.slice p 0 c, .int .i64 0, .int .i64 0, v]) Try.func101 rfl rfl ?_
  refine K0 (K1 ?_)
  refine l_y rfl rfl (y_move rfl) ?_
  refine l_y rfl rfl (D4) ?_
  refine l_y rfl rfl (y_assign rfl) ?_
  refine K2 (K3 (K4 ?_))
  refine c_rounds (X := Unit) (fun u => [(0, .slice p 0 c), (1, .int .i64 0), (2, .int .i64 0), (3, v), (8, .int .i64 1)]) (fun u w => Own k w [] ∧ (True)) (fun u => 0) (()) ⟨rfl, rfl, rfl, rfl, rfl, trivial⟩ ⟨hO.only [], trivial⟩ ?_
  rintro u w m hm ⟨hO, hT0⟩
  refine K0 (K0 (K1 ?_))
  refine l_y rfl rfl (y_move rfl) ?_
  refine l_y rfl rfl (y_move rfl) ?_
  refine N3 ?_
  refine K2 (K3 (L9 (K7 (L1 (L1 (L2 ?_))))))
  exact fin0 rfl ⟨_, rfl, hO⟩
theorem stable0_spec {p : Option Addr} {c : Nat} {v : Value} (hO : Own k w []) :
    Tri Try.prog 87 #[.slice p 0 c, .int .i64 0, v] k w fun _ m => m = [] := by
  refine enter (args := [.slice p 0 c, .int .i64 0, v]) Try.func87 rfl rfl ?_
  refine K0 (K1 ?_)
  refine l_y rfl rfl (y_assign rfl) ?_
  refine K2 (K3 (K0 (K1 ?_)))
  refine l_y rfl rfl (y_move rfl) ?_
  refine l_y rfl rfl (y_assign rfl) ?_
  refine l_y rfl rfl (y_assign rfl) ?_
  refine K2 (K3 (K0 (K4 ?_)))
  refine c_rounds (X := Unit) (fun u => [(0, .slice p 0 c), (1, .int .i64 0), (2, v), (6, .int .i64 20), (7, .int .i64 0), (8, .int .i64 20)]) (fun u w => Own k w [] ∧ (True)) (fun u => 0) (()) ⟨rfl, rfl, rfl, rfl, rfl, rfl, trivial⟩ ⟨hO.only [], trivial⟩ ?_
  rintro u w m hm ⟨hO, hT0⟩
  refine K0 (K0 (K1 ?_))
  refine l_y rfl rfl (y_move rfl) ?_
  refine l_y rfl rfl (y_move rfl) ?_
  refine N3 ?_
  refine K2 (K3 (L9 (K7 (L1 (L1 (L2 (K3 (K0 (K1 ?_)))))))))
  refine l_y rfl rfl (y_move rfl) ?_
  refine l_y rfl rfl (y_move rfl) ?_
  refine l_y rfl rfl (y_move rfl) ?_
  refine l_y rfl rfl (y_move rfl) ?_
  refine CK [] hO rfl (fun k' hx hr hO' => ins0_spec hO') ?_
  rintro _ _ w rfl hO
  simp only [List.cons_append, List.nil_append] at hO
  refine K2 (K3 (K4 ?_))
  refine c_rounds (X := Unit) (fun u => [(0, .slice p 0 c), (1, .int .i64 0), (2, v), (6, .int .i64 20), (7, .int .i64 0), (8, .int .i64 20)]) (fun u w => Own k w [] ∧ (True)) (fun u => 0) (()) ⟨rfl, rfl, rfl, rfl, rfl, rfl, trivial⟩ ⟨hO.only [], trivial⟩ ?_
  rintro u w m hm ⟨hO, hT0⟩
  refine K0 (K0 (K1 ?_))
  refine l_y rfl rfl (y_move rfl) ?_
  refine l_y rfl rfl (y_move rfl) ?_
  refine N3 ?_
  refine K2 (K3 (L9 (K7 (L1 (L1 (L2 ?_))))))
  exact fin0 rfl ⟨_, rfl, hO⟩
theorem sort0_spec {p : Option Addr} {c : Nat} {v : Value} (hO : Own k w []) :
    Tri Try.prog 58 #[.slice p 0 c, v] k w fun _ m => m = [] := by
  refine enter (args := [.slice p 0 c, v]) Try.func58 rfl rfl ?_
  refine K1 ?_
  refine l_y rfl rfl (y_move rfl) ?_
  refine l_y rfl rfl (y_move rfl) ?_
  refine l_y rfl rfl (y_lenL rfl) ?_
  refine l_y rfl rfl (y_move rfl) ?_
  refine CK [] hO rfl (fun k' hx hr hO' => stable0_spec hO') ?_
  rintro _ _ w rfl hO
  simp only [List.cons_append, List.nil_append] at hO
  refine K2 ?_
  exact fin0 rfl ⟨_, rfl, hO⟩
theorem Sorts.none {A : List Node_one} (h : ∀ x, InA A x → (nodeA A x).Attrs = []) : Sorts A fun l => l := fun k w p c x hx hO => by
  rw [h x hx] at hO ⊢
  obtain ⟨k2, _, h1, _, h2⟩ := Own.frame (l := []) (l' := [sls p c 63 4 Api_attr.cells []]) hO
  exact Ret.mono (sort0_spec (v := .func (.func 59) #[] #[]) h1) fun v w2 ⟨m, hm, h3⟩ => ⟨_, rfl, by subst hm; exact h2 _ _ h3⟩
end
end Go.Proofs.Ythkmnohghpdjhaa
end
section
set_option linter.unusedVariables false
set_option linter.unusedSimpArgs false
namespace Go.Proofs.Ythkmnohghpdjhaa
open Go Go.Hb Go.RowKit
theorem core_space {o p : Node_one} (h : coreN o = coreN p) : o.Node.Space = p.Node.Space := by
  have := congrArg (fun z : Node_one => z.Node.Space) h; simpa [coreN] using this
theorem anc_old {A : List Node_one} (hr : Ranked A) {o : Node_one} {y z : Int} (h : Anc (A ++ [o]) y z) (hy : InA A y) : InA A z ∨ z = -1 := by
  obtain ⟨rk, hrk⟩ := hr
  induction h with
  | refl => exact .inl hy
  | step h hs ih =>
    rename_i x y
    have e : nextUp (A ++ [o]) x = nextUp A x := by rw [nextUp, nextUp, at_old hy]
    rw [e] at hs ih
    rcases hrk _ hy.b with e1 | ⟨e1, _⟩
    · rw [e1] at hs; exact .inr (anc_none hs)
    · exact ih (inA_iff.1 e1)
end Go.Proofs.Ythkmnohghpdjhaa
end
section
set_option linter.unusedVariables false
set_option linter.unusedSimpArgs false
namespace Go.Proofs.Ythkmnohghpdjhaa
open Go Go.Hb Go.RowKit
theorem summ_add {β : Type} (a b : β → Nat) : ∀ L : List β, (L.map fun y => a y + b y).sum = (L.map a).sum + (L.map b).sum
  | [] => rfl
  | y :: L => by have := summ_add a b L; simp only [List.map_cons, List.sum_cons]; omega
theorem summ_zero {β : Type} {a : β → Nat} : ∀ {L : List β}, (∀ y ∈ L, a y = 0) → (L.map a).sum = 0
  | [], _ => rfl
  | y :: L, h => by
    have h1 := h y (by simp)
    have h2 := summ_zero (a := a) (L := L) fun z hz => h z (by simp [hz])
    simp only [List.map_cons, List.sum_cons]; omega
theorem summ_congr {β : Type} {a b : β → Nat} : ∀ {L : List β}, (∀ y ∈ L, a y = b y) → (L.map a).sum = (L.map b).sum
  | [], _ => rfl
  | y :: L, h => by
    have h1 := h y (by simp)
    have h2 := summ_congr (a := a) (b := b) (L := L) fun z hz => h z (by simp [hz])
    simp only [List.map_cons, List.sum_cons]; omega
theorem summ_one {β : Type} {a : β → Nat} {x : β} : ∀ {L : List β}, L.Nodup → x ∈ L → (∀ y ∈ L, y ≠ x → a y = 0) → (L.map a).sum = a x
  | [], _, h, _ => by simp at h
  | y :: L, hn, hx, h => by
    obtain ⟨n1, n2⟩ := List.nodup_cons.1 hn
    simp only [List.map_cons, List.sum_cons]
    rcases List.mem_cons.1 hx with rfl | hx
    · rw [summ_zero fun z hz => h z (by simp [hz]) fun e => n1 (e ▸ hz)]; rfl
    · rw [summ_one n2 hx fun z hz e => h z (by simp [hz]) e, h y (by simp) fun e => n1 (e ▸ hx), Nat.zero_add]
theorem summ_swap {β γ : Type} (g : β → γ → Nat) (cs : List γ) : ∀ L : List β, (L.map fun y => (cs.map (g y)).sum).sum = (cs.map fun c => (L.map fun y => g y c).sum).sum
  | [] => by simp [summ_zero]
  | y :: L => by
    simp only [List.map_cons, List.sum_cons]
    rw [summ_swap g cs L, summ_add]
theorem anc_last {A : List Node_one} {y x : Int} (h : Anc A y x) (hne : y ≠ x) : ∃ c, Anc A y c ∧ c ≠ -1 ∧ nextUp A c = x := by
  induction h with
  | refl => exact absurd rfl hne
  | step h hs ih =>
    rename_i a b
    by_cases e : nextUp A a = b
    · exact ⟨a, .refl _, h, e⟩
    · obtain ⟨c, h1, h2, h3⟩ := ih e
      exact ⟨c, .step h h1, h2, h3⟩
theorem anc_inA {A : List Node_one} (hr : Ranked A) {y z : Int} (h : Anc A y z) (hy : InA A y) : InA A z ∨ z = -1 := by
  obtain ⟨rk, hrk⟩ := hr
  induction h with
  | refl => exact .inl hy
  | step h hs ih =>
    rcases hrk _ hy.b with e1 | ⟨e1, _⟩
    · rw [e1] at hs; exact .inr (anc_none hs)
    · exact ih (inA_iff.1 e1)
/-- a sum over all that are below a node, itself too -/
noncomputable def sumA (A : List Node_one) (f : Nat → Nat) (x : Int) : Nat := ((List.range A.length).map fun y : Nat => if ancB A (y : Int) x = true then f y else 0).sum
theorem sumA_step {A : List Node_one} (hr : Ranked A) (f : Nat → Nat) {x : Int} (hx : InA A x) {cs : List Int} (hn : cs.Nodup) (hc : ∀ c ∈ cs, InA A c ∧ nextUp A c = x) (hall : ∀ c, InA A c → nextUp A c = x → c ∈ cs) : sumA A f x = f x.toNat + (cs.map (sumA A f)).sum := by
  have hr0 := hr
  obtain ⟨rk, hrk⟩ := hr
  have hx1 : x ≠ -1 := by have := hx.1; omega
  have lt : ∀ c ∈ cs, rk x < rk c := fun c hm => by
    obtain ⟨h1, h2⟩ := hc c hm
    rcases hrk c h1.b with e | ⟨_, e⟩
    · rw [h2] at e; exact absurd e hx1
    · rwa [h2] at e
  have ne : ∀ c ∈ cs, c ≠ -1 := fun c hm => by have := (hc c hm).1.1; omega
  have no : ∀ c ∈ cs, ¬ Anc A x c := fun c hm h => by
    have := anc_rk hrk h (ne c hm) hx
    have := lt c hm
    omega
  have two : ∀ y : Int, ∀ c ∈ cs, ∀ c' ∈ cs, Anc A y c → Anc A y c' → c = c' := fun y c hm c' hm' h1 h2 => Classical.byContradiction fun hne => by
    rcases anc_two h1 h2 with h | h
    · have := (anc_ne hne (ne c hm)).1 h
      rw [(hc c hm).2] at this
      exact no c' hm' this
    · have := (anc_ne (fun e => hne e.symm) (ne c' hm')).1 h
      rw [(hc c' hm').2] at this
      exact no c hm this
  have pw : ∀ y ∈ List.range A.length, (if ancB A ((y : Nat) : Int) x = true then f y else 0) = (if y = x.toNat then f y else 0) + (cs.map fun c => if ancB A ((y : Nat) : Int) c = true then f y else 0).sum := by
    intro y hy
    have hyl := List.mem_range.1 hy
    have hyA : InA A (y : Int) := ⟨by omega, by omega⟩
    by_cases h : Anc A (y : Int) x
    · rw [if_pos (ancB_of h)]
      by_cases e : (y : Int) = x
      · rw [if_pos (by omega), summ_zero fun c hm => by rw [if_neg]; intro h; exact no c hm (e ▸ ancB_iff.1 h)]; rfl
      · obtain ⟨c, h1, h2, h3⟩ := anc_last h e
        have hcA := (anc_inA hr0 h1 hyA).resolve_right h2
        have hm := hall c hcA h3
        rw [if_neg (by have := hx.1; omega), Nat.zero_add, summ_one (x := c) hn hm fun c' hm' hne => by rw [if_neg]; intro h; exact hne (two _ _ hm' _ hm (ancB_iff.1 h) h1)]
        rw [if_pos (ancB_of h1)]
    · rw [if_neg (by rw [ancB_not h]; simp), if_neg (fun e => h (by rw [e, Int.toNat_of_nonneg hx.1]; exact .refl x)), summ_zero fun c hm => by
        rw [if_neg]; intro h2
        refine h ((ancB_iff.1 h2).trans (.step (ne c hm) ?_))
        rw [(hc c hm).2]; exact .refl x]
  unfold sumA
  rw [summ_congr pw, summ_add, summ_swap]
  congr 1
  refine (summ_one (x := x.toNat) List.nodup_range (List.mem_range.2 (by have := hx.1; have := hx.2; omega)) fun y _ e => if_neg e).trans (if_pos rfl)
/-- a measure of texts that adds up -/
structure Adds (φ : List UInt8 → Nat) : Prop where
  nil : φ [] = 0
  app : ∀ a b, φ (a ++ b) = φ a + φ b
theorem showF_sum {A : List Node_one} {K : Int → List Int} {srt : List Api_attr → List Api_attr} (t : Tree A K) (g : InnOk A) (hin : ∀ x, InA A x → (nodeA A x).Inner = -1) {f : Nat → Nat} (hs : ∀ x, InA A x → sumA A f x = f x.toNat + ((K x).map (sumA A f)).sum) {dep : Int → Int} (hd : ∀ x, InA A x → ∀ c ∈ K x, dep c = dep x + 1) {φ : List UInt8 → Nat} (ha : Adds φ)
    (h1 : ∀ x, InA A x → x ≠ 0 → φ (txtI A srt (kidI (dep x) x)) = f x.toNat) (h0 : ∀ x, InA A x → ∀ c ∈ K x, c ≠ 0) : ∀ (n : Nat) (l : List Int), (∀ x ∈ l, InA A x ∧ x ≠ 0) → wL A (l.map fun x => kidI (dep x) x) ≤ n → φ (showF A K srt n (l.map fun x => kidI (dep x) x)) = (l.map (sumA A f)).sum
  | 0, [], _, _ => ha.nil
  | 0, x :: l, hl, hw => by
    have := wI_pos (A := A) (x := kidI (dep x) x) fun _ => (hl x (by simp)).1
    rw [List.map_cons, wL_cons] at hw; omega
  | n + 1, [], _, _ => ha.nil
  | n + 1, x :: l, hl, hw => by
    obtain ⟨hx, hx0⟩ := hl x (by simp)
    have e : nextI A K (kidI (dep x) x) ++ (l.map fun x => kidI (dep x) x) = (K x ++ l).map fun x => kidI (dep x) x := by
      rw [nextI, if_neg (by simp [kidI]), innI, show (kidI (dep x) x).id = x from rfl, if_pos (hin x hx), List.nil_append, List.map_append]
      congr 1
      refine List.map_congr_left fun c hc => ?_
      rw [hd x hx c hc]; rfl
    have hw1 := next_w t g (x := kidI (dep x) x) fun _ => hx
    rw [List.map_cons, wL_cons] at hw
    have hw2 : wL A ((K x ++ l).map fun x => kidI (dep x) x) ≤ n := by rw [← e, wL_app]; omega
    have ih := showF_sum t g hin hs hd ha h1 h0 n (K x ++ l) (fun y hy => by
      rcases List.mem_append.1 hy with hy | hy
      · exact ⟨(kid_up t hx hy).1, h0 x hx y hy⟩
      · exact hl y (by simp [hy])) hw2
    rw [List.map_cons, showF, ha.app, e, ih, h1 x hx hx0, List.map_append, List.sum_append, List.map_cons, List.sum_cons, hs x hx]
    omega
def nlN (l : List UInt8) : Nat := l.countP (· == 10)
theorem nl_adds : Adds nlN := ⟨rfl, fun a b => List.countP_append⟩
theorem len_adds : Adds List.length := ⟨rfl, fun a b => List.length_append⟩
theorem nl_rep : ∀ d, nlN (Lib.repeatL [32, 32] d) = 0
  | 0 => rfl
  | d + 1 => by rw [Lib.repeatL, nl_adds.app, nl_rep d]; rfl
/-- the arena of so many elements, each linked below an earlier one; and how deep each is -/
structure FlatS (A : List Node_one) (K : Int → List Int) (D : List Int) : Prop where
  tx : TxOk A K
  len : A.length = D.length
  doc : (nodeA A 0).Kind = 0 ∧ (nodeA A 0).Inner = -1
  doc0 : (nodeA A 0).Attrs = []
  zero : at_ D 0 = -1
  pos : 0 < D.length
  el : ∀ y : Nat, 0 < y → y < D.length → (nodeA A y).Kind = 1 ∧ (nodeA A y).Space = 0 ∧ (nodeA A y).Name = ⟨#[120]⟩ ∧ (nodeA A y).Attrs = [] ∧ (nodeA A y).Inner = -1
  up : ∀ y : Nat, 0 < y → y < D.length → ∃ p : Nat, p < y ∧ (y : Int) ∈ K (p : Int) ∧ at_ D y = at_ D p + 1
  dep : ∀ y : Nat, y < D.length → -1 ≤ at_ D y ∧ at_ D y < (y : Int)
theorem FlatS.new : FlatS [docD] (fun _ => []) [-1] := ⟨⟨Tree.new, InnOk.new, TextOk.new, KndOk.new⟩, rfl, ⟨rfl, rfl⟩, rfl, rfl, by simp, fun y h1 h2 => by simp at h2; omega, fun y h1 h2 => by simp at h2; omega, fun y h => by
  simp at h; subst h; exact ⟨Int.le_refl _, by decide⟩⟩
theorem FlatS.pk {A : List Node_one} {K : Int → List Int} {D : List Int} (s : FlatS A K D) {p : Nat} (hp : p < D.length) : parentB (nodeA A (p : Int)).Kind = true := by
  by_cases h : p = 0
  · subst h; rw [show (((0 : Nat) : Int)) = 0 from rfl, s.doc.1]; rfl
  · rw [(s.el p (by omega) hp).1]; rfl
theorem FlatS.step {A : List Node_one} {K : Int → List Int} {D : List Int} (s : FlatS A K D) {p : Nat} (hp : p < D.length) (q : Option Addr) (d : Nat) :
    (linkL (A ++ [blankN (elementN q d 0 ⟨#[120]⟩ [])]) p A.length (-1)).1 = 0 ∧ FlatS (linkL (A ++ [blankN (elementN q d 0 ⟨#[120]⟩ [])]) p A.length (-1)).2 (linkK (addK A K) p A.length (-1)) (D ++ [at_ D p + 1]) := by
  have hl := s.len
  have ht1 : TextN (elementN q d 0 ⟨#[120]⟩ []) := ⟨by show 1 ≤ 1048576; decide, Nat.zero_le _, Nat.zero_le _, rfl⟩
  have t := s.tx
  have t1 := t.tree.add (elementN q d 0 ⟨#[120]⟩ []) (Nat.zero_le _)
  have hu : InA A (p : Int) := ⟨by omega, by omega⟩
  have hid : InA (A ++ [blankN (elementN q d 0 ⟨#[120]⟩ [])]) (A.length : Int) := inA_new.2 (.inr rfl)
  have hup : InA (A ++ [blankN (elementN q d 0 ⟨#[120]⟩ [])]) (p : Int) := inA_new.2 (.inl hu)
  have eid : at_ (A ++ [blankN (elementN q d 0 ⟨#[120]⟩ [])]) ((A.length : Int)).toNat = blankN (elementN q d 0 ⟨#[120]⟩ []) := at_new
  have eup : at_ (A ++ [blankN (elementN q d 0 ⟨#[120]⟩ [])]) ((p : Int)).toNat = at_ A ((p : Int)).toNat := at_old hu
  have h0 := link_go (A := A ++ [blankN (elementN q d 0 ⟨#[120]⟩ [])]) (up := p) (id := A.length) (before := -1) hup hid (.inl rfl) (by rw [nodeA, eup]; exact s.pk hp) (by rw [nodeA, eid]; exact ⟨by show (1 : Int) ≠ 0; decide, by show (1 : Int) ≠ 5; decide⟩) (by rw [nodeA, eid]; rfl) (fun h => by
    rcases anc_old t.tree.rank h hu with h | h
    · have := h.2; omega
    · omega)
  refine ⟨h0, ?_⟩
  have tl := t1.link h0
  have hc := link_core t1 p A.length (-1)
  have hlen : (linkL (A ++ [blankN (elementN q d 0 ⟨#[120]⟩ [])]) p A.length (-1)).2.length = (A ++ [blankN (elementN q d 0 ⟨#[120]⟩ [])]).length := linkL_len
  have hk2 : (1 : Int) ≤ (elementN q d 0 ⟨#[120]⟩ []).Kind ∧ (elementN q d 0 ⟨#[120]⟩ []).Kind ≤ 5 := ⟨by show (1 : Int) ≤ 1; decide, by show (1 : Int) ≤ 5; decide⟩
  have same : ∀ y, InA A y → coreN (at_ (linkL (A ++ [blankN (elementN q d 0 ⟨#[120]⟩ [])]) p A.length (-1)).2 y.toNat) = coreN (at_ A y.toNat) := fun y hy => by rw [hc y hy.1, at_old hy]
  have node : coreN (at_ (linkL (A ++ [blankN (elementN q d 0 ⟨#[120]⟩ [])]) p A.length (-1)).2 ((A.length : Int)).toNat) = coreN (blankN (elementN q d 0 ⟨#[120]⟩ [])) := by rw [hc _ (by omega), eid]
  have e1 : addK A K (p : Int) = K p := by rw [addK, if_neg (by omega)]
  have kp : linkK (addK A K) p A.length (-1) (p : Int) = K p ++ [(A.length : Int)] := by
    rw [linkK, if_pos rfl, e1, insB_end fun y hy => by have := (kid_up t.tree hu hy).1.1; omega]
  refine ⟨⟨tl, (t.inn.add _).core hlen hc, (t.text.add ht1).core hlen hc, (t.knd.add hk2).link t1 _ _ _⟩, by rw [hlen]; simp [hl], ?_, ?_, ?_, by simp, ?_, ?_, ?_⟩
  · have i0 : InA A 0 := ⟨by omega, by have := s.pos; omega⟩
    have := same 0 i0
    exact ⟨(core_kind this).trans s.doc.1, (core_inner this).trans s.doc.2⟩
  · have i0 : InA A 0 := ⟨by omega, by have := s.pos; omega⟩
    exact (core_attrs (same 0 i0)).trans s.doc0
  · rw [at_app_l s.pos]; exact s.zero
  · intro y h1 h2
    simp only [List.length_append, List.length_cons, List.length_nil] at h2
    by_cases c : y = D.length
    · have e : (y : Int) = (A.length : Int) := by omega
      rw [e]
      exact ⟨core_kind node, core_space node, core_name node, core_attrs node, core_inner node⟩
    · obtain ⟨a1, a2, a3, a4, a5⟩ := s.el y h1 (by omega)
      have := same y ⟨by omega, by omega⟩
      exact ⟨(core_kind this).trans a1, (core_space this).trans a2, (core_name this).trans a3, (core_attrs this).trans a4, (core_inner this).trans a5⟩
  · intro y h1 h2
    simp only [List.length_append, List.length_cons, List.length_nil] at h2
    by_cases c : y = D.length
    · refine ⟨p, by omega, ?_, ?_⟩
      · rw [kp]; exact List.mem_append_right _ (by simp; omega)
      · rw [c, at_app_new, at_app_l hp]
    · obtain ⟨p', a1, a2, a3⟩ := s.up y h1 (by omega)
      refine ⟨p', a1, ?_, by rw [at_app_l (by omega), at_app_l (by omega)]; exact a3⟩
      by_cases e : p' = p
      · subst e; rw [kp]; exact List.mem_append_left _ a2
      · rw [linkK, if_neg (by omega), addK, if_neg (by omega)]; exact a2
  · intro y h
    simp only [List.length_append, List.length_cons, List.length_nil] at h
    by_cases c : y = D.length
    · have := s.dep p hp
      rw [c, at_app_new]; omega
    · rw [at_app_l (by omega)]; exact s.dep y (by omega)
section
variable {A : List Node_one} {K : Int → List Int} {D : List Int}
theorem FlatS.root (s : FlatS A K D) : ∀ y : Nat, y < D.length → Anc A (y : Int) 0 := by
  intro y
  induction y using Nat.strongRecOn with
  | _ y ih =>
    intro hy
    by_cases h : y = 0
    · subst h; exact .refl _
    · obtain ⟨p, h1, h2, _⟩ := s.up y (by omega) hy
      have hl := s.len
      have hu := (kid_up s.tx.tree (x := (p : Int)) ⟨by omega, by omega⟩ h2).2
      exact .step (by omega) (by rw [hu]; exact ih p h1 (by omega))
theorem FlatS.only (s : FlatS A K D) {x c : Int} (hx : InA A x) (hc : InA A c) (e : nextUp A c = x) : c ∈ K x := by
  have hl := s.len
  obtain ⟨hx0, hx1⟩ := hx
  obtain ⟨hc0, hc1⟩ := hc
  by_cases h : c = 0
  · subst h
    exfalso
    obtain ⟨rk, hrk⟩ := s.tx.tree.rank
    have i0 : InA A 0 := ⟨hc0, hc1⟩
    have h1 : Anc A x 0 := by have := s.root x.toNat (by omega); rwa [Int.toNat_of_nonneg hx0] at this
    have h2 := anc_rk hrk h1 (by omega) ⟨hx0, hx1⟩
    rcases hrk 0 i0.b with e1 | ⟨_, e1⟩
    · rw [e] at e1; omega
    · rw [e] at e1; omega
  · obtain ⟨p, h1, h2, _⟩ := s.up c.toNat (by omega) (by omega)
    rw [Int.toNat_of_nonneg hc0] at h2
    have hu := (kid_up s.tx.tree (x := (p : Int)) ⟨by omega, by omega⟩ h2).2
    rw [hu] at e
    rwa [← e]
theorem FlatS.sum (s : FlatS A K D) (f : Nat → Nat) {x : Int} (hx : InA A x) : sumA A f x = f x.toNat + ((K x).map (sumA A f)).sum :=
  sumA_step s.tx.tree.rank f hx (s.tx.tree.nodup x hx) (fun c hc => kid_up s.tx.tree hx hc) fun c hc e => s.only hx hc e
theorem FlatS.kid0 (s : FlatS A K D) {x c : Int} (hx : InA A x) (hc : c ∈ K x) : c ≠ 0 := fun e => by
  subst e
  obtain ⟨i0, h⟩ := kid_up s.tx.tree hx hc
  have hl := s.len
  obtain ⟨rk, hrk⟩ := s.tx.tree.rank
  have h1 : Anc A x 0 := by have := s.root x.toNat (by have := hx.1; have := hx.2; omega); rwa [Int.toNat_of_nonneg hx.1] at this
  have h2 := anc_rk hrk h1 (by omega) hx
  have := hx.1
  rcases hrk 0 i0.b with e1 | ⟨_, e1⟩
  · rw [h] at e1; omega
  · rw [h] at e1; omega
theorem FlatS.deep (s : FlatS A K D) {x c : Int} (hx : InA A x) (hc : c ∈ K x) : at_ D c.toNat = at_ D x.toNat + 1 := by
  have hl := s.len
  have hc0 := s.kid0 hx hc
  obtain ⟨i0, h⟩ := kid_up s.tx.tree hx hc
  have h0 := i0.1
  have h1 := i0.2
  obtain ⟨p, a1, a2, a3⟩ := s.up c.toNat (by omega) (by omega)
  rw [Int.toNat_of_nonneg h0] at a2
  have hu := (kid_up s.tx.tree (x := (p : Int)) ⟨by omega, by omega⟩ a2).2
  rw [hu] at h
  rw [a3, ← h]; rfl
theorem FlatS.total (s : FlatS A K D) (f : Nat → Nat) (h0 : f 0 = 0) : ((K 0).map (sumA A f)).sum = ((List.range D.length).map f).sum := by
  have i0 : InA A 0 := ⟨by omega, by have := s.pos; have := s.len; omega⟩
  have h1 := s.sum f i0
  rw [show ((0 : Int)).toNat = 0 from rfl, h0, Nat.zero_add] at h1
  rw [← h1, sumA, s.len]
  exact summ_congr fun y hy => if_pos (ancB_of (s.root y (List.mem_range.1 hy)))
/-- what Show writes of it -/
theorem FlatS.text (s : FlatS A K D) {srt : List Api_attr → List Api_attr} (hsrt : srt [] = []) {φ : List UInt8 → Nat} (ha : Adds φ) {f : Nat → Nat} (h0 : f 0 = 0) (hf : ∀ y : Nat, 0 < y → y < D.length → φ (lineT (at_ D y).toNat [60, 120, 62]) = f y) : φ (showF A K srt (2 * A.length) ((K 0).map (kidI 0))) = ((List.range D.length).map f).sum := by
  have hl := s.len
  have i0 : InA A 0 := ⟨by omega, by have := s.pos; omega⟩
  have e : (K 0).map (kidI 0) = (K 0).map fun x => kidI (at_ D x.toNat) x := List.map_congr_left fun c hc => by
    rw [s.deep i0 hc, show ((0 : Int)).toNat = 0 from rfl, s.zero]; rfl
  have hw : wL A ((K 0).map fun x => kidI (at_ D x.toNat) x) ≤ 2 * A.length := by
    rw [← e, wL_kids]
    have h1 := kids_cnt s.tx.tree i0
    have h2 := cnt_le (A := A) (x := 0)
    omega
  rw [e, showF_sum s.tx.tree s.tx.inn (fun x hx => ?_) (fun x hx => s.sum f hx) (dep := fun x => at_ D x.toNat) (fun x hx c hc => s.deep hx hc) ha (fun x hx hx0 => ?_) (fun x hx c hc => s.kid0 hx hc) _ _ (fun x hx => ⟨(kid_up s.tx.tree i0 hx).1, s.kid0 i0 hx⟩) hw, s.total f h0]
  · by_cases h : x = 0
    · subst h; exact s.doc.2
    · have h1 := hx.1
      have h2 := hx.2
      have := (s.el x.toNat (by omega) (by omega)).2.2.2.2
      rwa [Int.toNat_of_nonneg h1] at this
  · have h1 := hx.1
    have h2 := hx.2
    obtain ⟨a1, a2, a3, a4, a5⟩ := s.el x.toNat (by omega) (by omega)
    rw [Int.toNat_of_nonneg h1] at a1 a2 a3 a4
    rw [txtI, if_neg (by simp [kidI]), show (kidI (at_ D x.toNat) x).id = x from rfl, show (kidI (at_ D x.toNat) x).depth = at_ D x.toNat from rfl, a4, hsrt, headT, if_pos a1, a2, a3]
    show φ (lineT _ [60, 120, 62] ++ []) = _
    rw [List.append_nil]
    exact hf _ (by omega) (by omega)
theorem FlatS.lines (s : FlatS A K D) {srt : List Api_attr → List Api_attr} (hsrt : srt [] = []) : nlN (showF A K srt (2 * A.length) ((K 0).map (kidI 0))) = ((List.range D.length).map fun y => if y = 0 then 0 else 1).sum :=
  s.text hsrt nl_adds rfl fun y h _ => by
    rw [if_neg (by omega), lineT, nl_adds.app, nl_adds.app, nl_adds.app, nl_rep]; rfl
theorem FlatS.size (s : FlatS A K D) {srt : List Api_attr → List Api_attr} (hsrt : srt [] = []) : (showF A K srt (2 * A.length) ((K 0).map (kidI 0))).length = ((List.range D.length).map fun y => if y = 0 then 0 else 6 + 2 * (at_ D y).toNat).sum :=
  s.text hsrt len_adds rfl fun y h _ => by
    rw [if_neg (by omega), lineT_len]; show 3 + _ + 3 = _; omega
end
end Go.Proofs.Ythkmnohghpdjhaa
end
section
set_option linter.unusedVariables false
set_option linter.unusedSimpArgs false
set_option maxRecDepth 100000
namespace Go.Proofs.Ythkmnohghpdjhaa
open Go Go.Hb Go.RowKit
section
variable {k : Ctx} {w : World}
theorem flat_el {A : List Node_one} (hl : A.length ≤ 1000) (q : Option Addr) (d : Nat) : elementL A 0 ⟨#[120]⟩ [] q d = ((A.length : Int), 0, A ++ [blankN (elementN q d 0 ⟨#[120]⟩ [])]) := by
  have h1 : ¬ tmpl 0 ⟨#[120]⟩ := by decide
  have h2 : longB (⟨#[120]⟩ :: attrTexts []) = false := by decide
  rw [elementL, if_neg (by omega), if_neg (by simp), if_neg (fun h => h1 h.1), if_neg (by rw [h2]; simp), if_neg (by omega), if_neg h1]
theorem FlatS.attrs {A : List Node_one} {K : Int → List Int} {D : List Int} (s : FlatS A K D) (hd : A.length = D.length) : ∀ x, InA A x → (nodeA A x).Attrs = [] := fun x hx => by
  by_cases h : x = 0
  · subst h; exact s.doc0
  · have h1 := hx.1
    have h2 := hx.2
    have := (s.el x.toNat (by omega) (by omega)).2.2.2.1
    rwa [Int.toNat_of_nonneg h1] at this
theorem range_succ_sum (f : Nat → Nat) (n : Nat) : ((List.range (n + 1)).map f).sum = ((List.range n).map f).sum + f n := by
  rw [List.range_succ, List.map_append, List.sum_append]; simp
theorem ones_sum : ∀ n, ((List.range (n + 1)).map fun y => if y = 0 then 0 else 1).sum = n
  | 0 => rfl
  | n + 1 => by rw [range_succ_sum, ones_sum n, if_neg (by omega)]
theorem nl_take {l : List UInt8} {i : Nat} (h : i < l.length) : nlN (l.take (i + 1)) = nlN (l.take i) + (if at_ l i = 10 then 1 else 0) := by
  rw [take_succ_at h, nl_adds.app]
  congr 1
  by_cases e : at_ l i = 10
  · rw [if_pos e, e]; rfl
  · rw [if_neg e]; simp [nlN, e]
theorem nl_le (l : List UInt8) : nlN l ≤ l.length := List.countP_le_length
theorem u8_ten {c : UInt8} (h : (c.toNat : Int) = 10) : c = 10 := UInt8.toNat_inj.1 (by show c.toNat = 10; omega)
theorem u8_not {c : UInt8} (h : ¬ (c.toNat : Int) = 10) : ¬ c = 10 := fun e => h (by rw [e]; rfl)
theorem at_u8 {l : List UInt8} {i : Nat} (h : i < l.length) : l[i]? = some (at_ l i) := at_get h
def SS (D : List Int) (i : Nat) : Nat := ((List.range i).map fun y => if y = 0 then 0 else 6 + 2 * (at_ D y).toNat).sum
theorem SS_succ {D : List Int} {i : Nat} (h : 0 < i) (h0 : 0 ≤ at_ D i) : (SS D i : Int) + 6 + 2 * at_ D i = (SS D (i + 1) : Nat) := by
  have e : SS D (i + 1) = SS D i + (6 + 2 * (at_ D i).toNat) := by rw [SS, range_succ_sum, if_neg (by omega)]; rfl
  rw [e]; omega
theorem FlatS.dep0 {A : List Node_one} {K : Int → List Int} {D : List Int} (s : FlatS A K D) {i : Nat} (h : 0 < i) (hi : i < D.length) : 0 ≤ at_ D i := by
  obtain ⟨q, h1, _, h3⟩ := s.up i h hi
  have := (s.dep q (by omega)).1
  omega
set_option maxHeartbeats 4000000 in
theorem ShowLines_spec {p : Option Addr} {c : Nat} {xs : List Int} (hs : Sli (Ro k) (.slice p xs.length c) (xs.map (eI .u8))) (hb : ∀ x ∈ xs, 0 ≤ x ∧ x ≤ 255) (hO : Own k w []) :
    Tri Try.prog 5 #[.slice p xs.length c] k w fun v m => v = .bool true := by
  refine enter (args := [.slice p xs.length c]) Try.func5 rfl rfl ?_
  have hgs := sli_gs hs
  refine K0 (K1 ?_)
  refine l_y rfl rfl (y_assign rfl) ?_
  refine K2 (K3 (K0 (K1 ?_)))
  refine CK [] hO rfl (fun k' hx hr hO' => New_spec (hO := hO')) ?_
  rintro _ _ w ⟨a16, rfl, rfl⟩ hO
  simp only [List.cons_append, List.nil_append] at hO
  refine l_y rfl rfl (y_assign rfl) ?_
  refine K2 (K3 (K0 (K0 (K1 ?_))))
  refine l_y rfl rfl (y_move rfl) ?_
  refine l_y rfl rfl (y_eqPnil rfl rfl rfl) ?_
  refine K2 (K3 (L9 (K5 (K3 (K0 (K1 ?_))))))
  refine s_lit (parts := [(0, .const (.int .i64 (-1)))]) (enc := (eI .i64)) [(-1)] [.int .i64 (-1)] hO rfl (fun b19 w hO => ?_)
  refine l_y rfl rfl (y_assign rfl) ?_
  refine K2 (K3 (K0 (K1 ?_)))
  refine l_y rfl rfl (y_move rfl) ?_
  refine l_y rfl rfl (y_lenL rfl) ?_
  obtain ⟨N, hN⟩ : ∃ N : Nat, N = min xs.length 100 := ⟨_, rfl⟩
  refine l_y rfl rfl (y_min rfl rfl) ?_
  rw [show (min (xs.length : Int) 100) = (N : Int) by omega]
  refine l_y rfl rfl (y_assign rfl) ?_
  refine K2 (K3 (K0 (K0 (K1 ?_))))
  refine l_y rfl rfl (y_assign rfl) ?_
  refine K2 (K3 (K4 ?_))
  refine c_rounds (X := Option Addr × Nat × Nat × List Int × List Node_one × (Int → List Int)) (fun x => [(0, .slice p xs.length c), (2, .bool false), (3, .pointer (some ⟨a16, 0, none⟩)), (4, .slice x.1 x.2.2.2.1.length x.2.1), (5, .int .i64 (N : Int)), (6, .int .i64 (x.2.2.1 : Int))]) (fun x w => Own k w [arenaL a16 x.2.2.2.2.1, sls x.1 x.2.1 3 1 (eI .i64) x.2.2.2.1] ∧ (x.2.2.1 ≤ N ∧ x.2.2.2.1.length = x.2.2.1 + 1) ∧ (FlatS x.2.2.2.2.1 x.2.2.2.2.2 x.2.2.2.1)) (fun x => N - x.2.2.1) ((some ⟨b19, 0, none⟩, 1, 0, [-1], [docD], fun _ => [])) ⟨rfl, rfl, rfl, rfl, rfl, rfl, trivial⟩ ⟨hO.only [.o a16, .p (some ⟨b19, 0, none⟩)], ⟨Nat.zero_le _, rfl⟩, FlatS.new⟩ ?_
  rintro x w m hm ⟨hO, hi, t⟩
  refine K0 (K0 (K1 ?_))
  refine l_y rfl rfl (y_move rfl) ?_
  refine l_y rfl rfl (y_move rfl) ?_
  refine Z0 (fun h7_2 => ?_) (fun h7_2 => ?_)
  · refine K2 (K3 (L8 (K5 (K3 (K0 (K4 (K0 ?_)))))))
    have h1000 : x.2.2.2.2.1.length ≤ 1000 := by have := t.len; omega
    have htl := t.len
    refine K1 ?_
    refine l_y rfl rfl (y_move rfl) ?_
    refine CK [.o a16] hO rfl (fun k' hx hr hO' => Element_spec (xs := []) (by omega) (by omega) (Sli.nil rfl) (hO := hO')) ?_
    rintro _ _ w ⟨q1, d1, rfl, rfl⟩ hO
    simp only [List.cons_append, List.nil_append] at hO
    rw [flat_el h1000 q1 d1] at hO ⊢
    have t1 := t.tx.tree.add (elementN q1 d1 0 ⟨#[120]⟩ []) (Nat.zero_le _)
    refine l_y rfl rfl (y_move rfl) ?_
    refine l_y rfl rfl (y_extract rfl rfl) ?_
    refine l_y rfl rfl (y_extract rfl rfl) ?_
    refine l_y rfl rfl (y_assign rfl) ?_
    refine l_y rfl rfl (y_assign rfl) ?_
    refine K2 (K3 (K0 ?_))
    obtain ⟨z, hz⟩ : ∃ z, z = at_ xs ((x.2.2.1 : Int)).toNat := ⟨_, rfl⟩
    have hzb : 0 ≤ z ∧ z ≤ 255 := by rw [hz]; exact hb _ (at_mem (by omega))
    obtain ⟨m0, hm0⟩ : ∃ m0 : Nat, z % ((x.2.2.1 : Int) + 1) = (m0 : Int) := ⟨(z % ((x.2.2.1 : Int) + 1)).toNat, (Int.toNat_of_nonneg (Int.emod_nonneg _ (by omega))).symm⟩
    have hm1 : z % ((x.2.2.1 : Int) + 1) < (x.2.2.1 : Int) + 1 := Int.emod_lt_of_pos _ (by omega)
    have hm4 : m0 < x.2.2.2.1.length := by omega
    refine K1 ?_
    refine l_y rfl rfl (y_move rfl) ?_
    refine l_y rfl rfl (y_move rfl) ?_
    refine l_y rfl rfl (y_idx rfl rfl) ?_
    refine l_y rfl rfl (y_r1 (x0 := 0) (enc := (eI .u8)) (xs := xs) hO rfl) ?_
    refine l_y rfl rfl (D7) ?_
    refine l_y rfl rfl (y_move rfl) ?_
    refine l_y rfl rfl (D4) ?_
    rw [← hz]
    refine l_y rfl rfl (y_remN rfl rfl hzb.1 (by omega)) ?_
    rw [hm0]
    refine l_y rfl rfl (y_assign rfl) ?_
    refine K2 (K3 (K0 (K0 (K1 ?_))))
    refine l_y rfl rfl (y_move rfl) ?_
    refine l_y rfl rfl (y_move rfl) ?_
    refine l_y rfl rfl (y_move rfl) ?_
    refine CK [.o a16] hO rfl (fun k' hx hr hO' => LinkC_spec (by simp) t1.rank t1.links (hO := hO')) ?_
    rintro _ _ w ⟨rfl, rfl⟩ hO
    simp only [List.cons_append, List.nil_append] at hO
    obtain ⟨hl0, t2⟩ := t.step hm4 q1 d1
    rw [hl0]
    refine l_y (v := .bool false) rfl rfl (y_cmpI rfl rfl rfl) ?_
    refine K2 (K3 (L9 (K5 (K3 ?_))))
    have hdm : -1 ≤ at_ x.2.2.2.1 ((m0 : Int)).toNat ∧ at_ x.2.2.2.1 ((m0 : Int)).toNat < (m0 : Int) := t.dep m0 hm4
    have hgd := (sls_fct (p := x.1) hO).2
    refine K1 ?_
    refine l_y rfl rfl (y_move rfl) ?_
    refine l_y rfl rfl (y_move rfl) ?_
    refine l_y rfl rfl (y_move rfl) ?_
    refine l_y rfl rfl (y_idx rfl rfl) ?_
    refine l_y rfl rfl (y_e1 (x0 := 0) hO rfl) ?_
    refine l_y rfl rfl (D4) ?_
    refine s_lit (parts := [(0, .tmp 51)]) (enc := (eI .i64)) [((at_ x.2.2.2.1 ((m0 : Int) : Int).toNat) + 1)] [.int .i64 ((at_ x.2.2.2.1 ((m0 : Int) : Int).toNat) + 1)] hO rfl (fun b52 w hO => ?_)
    refine s_app hO rfl rfl (src_own hO) (fun p53 c53 w hO gs53 => ?_)
    refine l_y rfl rfl (y_assign rfl) ?_
    refine K2 (K8 (K3 (K1 ?_)))
    refine l_y rfl rfl (y_move rfl) ?_
    refine l_y rfl rfl (D4) ?_
    refine l_y rfl rfl (y_assign rfl) ?_
    refine K2 ?_
    exact q_next ((p53, c53, x.2.2.1 + 1, _, _, _)) ⟨rfl, rfl, rfl, rfl, rfl, rfl, trivial⟩ ⟨hO.only [.o a16, .p p53], (by constructor <;> simp <;> omega), t2⟩ (by dsimp only; omega)
  · refine K2 (K3 (L9 (K7 (L1 (L1 (L2 (K3 (K0 ?_))))))))
    have hxn : x.2.2.1 = N := by omega
    have htl := t.len
    have hb0 : hasB x.2.2.2.2.1 0 = true := InA.b ⟨by omega, by omega⟩
    obtain ⟨T, hT⟩ : ∃ T, T = showF x.2.2.2.2.1 x.2.2.2.2.2 (fun l => l) (2 * x.2.2.2.2.1.length) ((x.2.2.2.2.2 0).map (kidI 0)) := ⟨_, rfl⟩
    have hTn : nlN T = N := by rw [hT, t.lines rfl, hi.2, hxn, ones_sum]
    have hTl : T.length = SS x.2.2.2.1 x.2.2.2.1.length := by rw [hT, t.size rfl]; rfl
    have hD0 : SS x.2.2.2.1 1 = 0 := rfl
    have hgd := (sls_fct (p := x.1) hO).2
    refine K1 ?_
    refine l_y rfl rfl (y_move rfl) ?_
    refine CK [.o a16] hO rfl (fun k' hx hr hO' => Show_spec (srt := fun l => l) t.tx.tree t.tx.inn t.tx.text (fun _ _ => List.Perm.refl _) (Sorts.none (t.attrs t.len)) (by omega) (by omega) hO') ?_
    rintro _ _ w ⟨rfl, rfl⟩ hO
    simp only [List.cons_append, List.nil_append] at hO
    rw [showT, if_pos hb0, errN, if_pos hb0, ← hT]
    refine l_y rfl rfl (y_move rfl) ?_
    refine l_y rfl rfl (y_extract rfl rfl) ?_
    refine l_y rfl rfl (y_extract rfl rfl) ?_
    refine l_y rfl rfl (y_assign rfl) ?_
    refine l_y rfl rfl (y_assign rfl) ?_
    refine K2 (K3 (K0 (K0 (K1 ?_))))
    refine l_y rfl rfl (y_move rfl) ?_
    refine N4 ?_
    refine K2 (K3 (L9 (K5 (K3 (K0 (K1 ?_))))))
    refine l_y rfl rfl (y_assign rfl) ?_
    refine K2 (K3 (K0 (K0 (K1 ?_))))
    refine l_y rfl rfl (y_assign rfl) ?_
    refine K2 (K3 (K4 ?_))
    refine c_rounds (X := Nat) (fun i => [(2, .bool false), (4, .slice x.1 x.2.2.2.1.length x.2.1), (5, .int .i64 (N : Int)), (10, .string (ba T)), (12, .int .i64 ((SS x.2.2.2.1 i : Nat) : Int)), (13, .int .i64 (i : Int))]) (fun i w => Own k w [sls x.1 x.2.1 3 1 (eI .i64) x.2.2.2.1] ∧ (1 ≤ i ∧ i ≤ x.2.2.2.1.length ∧ SS x.2.2.2.1 i ≤ 300 * i)) (fun i => x.2.2.2.1.length - i) (1) ⟨rfl, rfl, rfl, rfl, rfl, rfl, trivial⟩ ⟨hO.only [.p x.1], ⟨Nat.le_refl _, by omega, by omega⟩⟩ ?_
    rintro i w m hm ⟨hO, hj⟩
    refine K0 (K0 (K1 ?_))
    refine l_y rfl rfl (y_move rfl) ?_
    refine l_y rfl rfl (y_move rfl) ?_
    refine l_y rfl rfl (y_lenL rfl) ?_
    refine Z0 (fun h19_3 => ?_) (fun h19_3 => ?_)
    · refine K2 (K3 (L8 (K5 (K3 (K0 (K4 ?_))))))
      have hd0 := t.dep0 (i := i) (by omega) (by omega)
      have hd1 := (t.dep i (by omega)).2
      have hss := SS_succ (D := x.2.2.2.1) (i := i) (by omega) hd0
      have hd0' : 0 ≤ at_ x.2.2.2.1 ((i : Nat) : Int).toNat := hd0
      have hd1' : at_ x.2.2.2.1 ((i : Nat) : Int).toNat < i := hd1
      refine K1 ?_
      refine l_y rfl rfl (y_move rfl) ?_
      refine l_y rfl rfl (D4) ?_
      refine l_y rfl rfl (y_move rfl) ?_
      refine l_y rfl rfl (y_move rfl) ?_
      refine l_y rfl rfl (y_idx rfl rfl) ?_
      refine l_y rfl rfl (y_e1 (x0 := 0) hO rfl) ?_
      refine l_y rfl rfl (D4) ?_
      refine l_y rfl rfl (D4) ?_
      rw [show ((i : Nat) : Int).toNat = i from rfl, hss]
      refine l_y rfl rfl (y_assign rfl) ?_
      refine K2 (K8 (K3 (K1 ?_)))
      refine l_y rfl rfl (y_move rfl) ?_
      refine l_y rfl rfl (D4) ?_
      refine l_y rfl rfl (y_assign rfl) ?_
      refine K2 ?_
      exact q_next (i + 1) ⟨rfl, rfl, rfl, rfl, rfl, rfl, trivial⟩ ⟨hO.only [.p x.1], ⟨by omega, by omega, by omega⟩⟩ (by omega)
    · refine K2 (K3 (L9 (K7 (L1 (L1 (L2 (K3 (K0 ?_))))))))
      have hie : i = x.2.2.2.1.length := by omega
      have hTb : T.length ≤ 40000 := by rw [hTl, ← hie]; omega
      have hbs : (ba T).size = T.length := ba_size T
      rw [hie, ← hTl]
      refine K1 ?_
      refine l_y rfl rfl (y_assign rfl) ?_
      refine K2 (K3 (K0 (K0 (K1 ?_))))
      refine l_y rfl rfl (y_assign rfl) ?_
      refine K2 (K3 (K4 ?_))
      refine c_rounds (X := Nat) (fun j => [(2, .bool false), (5, .int .i64 (N : Int)), (10, .string (ba T)), (12, .int .i64 ((T.length : Nat) : Int)), (14, .int .i64 ((nlN (T.take j) : Nat) : Int)), (15, .int .i64 (j : Int))]) (fun j w => Own k w [] ∧ (j ≤ T.length)) (fun j => T.length - j) (0) ⟨rfl, rfl, rfl, rfl, rfl, rfl, trivial⟩ ⟨hO.only [], Nat.zero_le _⟩ ?_
      rintro j w m hm ⟨hO, hjl⟩
      refine K0 (K0 (K1 ?_))
      refine l_y rfl rfl (y_move rfl) ?_
      refine l_y rfl rfl (y_move rfl) ?_
      refine l_y rfl rfl (y_lenS rfl) ?_
      refine Z0 (fun h24_3 => ?_) (fun h24_3 => ?_)
      · refine K2 (K3 (L8 (K5 (K3 ?_))))
        refine c_cut (X := Nat) (fun m => [(2, .bool false), (5, .int .i64 (N : Int)), (10, .string (ba T)), (12, .int .i64 ((T.length : Nat) : Int)), (14, .int .i64 (m : Int)), (15, .int .i64 (j : Int))]) (fun m w => Own k w [] ∧ (m = nlN (T.take (j + 1)))) ?_ ?_
        · refine K4 (K0 ?_)
          have hnl := nl_take (l := T) (i := j) (by omega)
          have hnb := nl_le (T.take j)
          rw [List.length_take] at hnb
          have hTs := hTl
          have hch := at_u8 (l := T) (i := j) (by omega)
          refine K1 ?_
          refine l_y rfl rfl (y_move rfl) ?_
          refine l_y rfl rfl (y_move rfl) ?_
          refine l_y rfl rfl (y_indexS (c := at_ T j) rfl rfl (by omega) (by rw [show (ba T).data.toList = T from tl_ba T]; exact hch)) ?_
          refine Z0 (fun h26_3 => ?_) (fun h26_3 => ?_)
          · refine K2 (K3 (L8 (K1 ?_)))
            refine l_y rfl rfl (y_move rfl) ?_
            refine l_y rfl rfl (D4) ?_
            rw [show (nlN (T.take j) : Int) + 1 = ((nlN (T.take j) + 1 : Nat) : Int) from rfl]
            refine l_y rfl rfl (y_assign rfl) ?_
            refine K2 (K8 ?_)
            exact q_cut (_) ⟨rfl, rfl, rfl, rfl, rfl, rfl, trivial⟩ ⟨hO.only [], (by rw [hnl]; first | rw [if_pos (u8_ten (by assumption))] | (rw [if_neg (u8_not (by assumption))]; done) | (rw [if_neg (u8_not (by assumption))]; rfl))⟩
          · refine K2 (K3 (L9 (K5 (K8 ?_))))
            exact q_cut (_) ⟨rfl, rfl, rfl, rfl, rfl, rfl, trivial⟩ ⟨hO.only [], (by rw [hnl]; first | rw [if_pos (u8_ten (by assumption))] | (rw [if_neg (u8_not (by assumption))]; done) | (rw [if_neg (u8_not (by assumption))]; rfl))⟩
        · rintro m w ⟨hO, hm9⟩
          rw [hm9]
          refine K1 ?_
          refine l_y rfl rfl (y_move rfl) ?_
          refine l_y rfl rfl (D4) ?_
          refine l_y rfl rfl (y_assign rfl) ?_
          refine K2 ?_
          exact q_next (j + 1) ⟨rfl, rfl, rfl, rfl, rfl, rfl, trivial⟩ ⟨hO.only [], by omega⟩ (by omega)
      · refine K2 (K3 (L9 (K7 (L1 (L1 (L2 (K3 (K0 ?_))))))))
        have hje : j = T.length := by omega
        rw [hje, List.take_length, hTn]
        refine K1 ?_
        refine l_y rfl rfl (y_move rfl) ?_
        refine l_y rfl rfl (y_move rfl) ?_
        refine N2 (hp := rfl) ?_
        refine l_y rfl rfl (y_move rfl) ?_
        refine l_y rfl rfl (y_move rfl) ?_
        refine l_y rfl rfl (y_lenS rfl) ?_
        refine l_y rfl rfl (y_move rfl) ?_
        refine N2 (hp := (by rw [ba_size])) ?_
        refine l_y rfl rfl (y_pick_t rfl rfl) ?_
        refine l_y rfl rfl (y_move rfl) ?_
        refine CK [] hO rfl (fun k' hx hr hO' => awake03_spec (hO := hO')) ?_
        rintro _ _ w ⟨rfl, rfl⟩ hO
        simp only [List.cons_append, List.nil_append] at hO
        refine l_y rfl rfl (y_pick_t rfl rfl) ?_
        refine l_y rfl rfl (y_assign rfl) ?_
        refine K2 (K3 (K6 ?_))
        exact fin1 rfl rfl ⟨_, rfl, hO⟩
end
end Go.Proofs.Ythkmnohghpdjhaa
end
