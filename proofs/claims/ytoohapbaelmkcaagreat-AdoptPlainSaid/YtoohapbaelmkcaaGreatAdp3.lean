/- The walk of Run where there is no block above the formatting element. -/
import Derived.Test.YtoohapbaelmkcaaGreatAdp2
set_option linter.unusedVariables false
set_option linter.unusedSimpArgs false
set_option maxRecDepth 100000
namespace Go.Proofs.YtoohapbaelmkcaaGreat
open Go Go.Hb Go.RowKit
theorem freshE_none (A : List Node_one) (l : List Int) : freshE A l (-1) = 6 := by rw [freshE, if_pos (by simp [elB, hasB])]
theorem removeE_none (L : List Api_entry) : removeE L (-1) = (6, L) := by rw [removeE, findE, if_pos rfl, if_pos (by decide)]
section
variable {k : Ctx} {w : World} {a s l : Nat} {nm : ByteArray} {fo : Bool} {A : List Node_one} {st : List Int} {L : List Api_entry}
set_option maxHeartbeats 2000000 in
theorem runP_spec {f at' : Int} (hn : 0 < A.length) (hA : A.length ≤ 32704) (ha : AttrsOk A) (hl : st.length ≤ 1000000) (hL : L.length ≤ 2000000) (hel : AllEl A st) (hb : ∀ e ∈ L, e.Node ≠ -1 → hasB A e.Node = true)
    (hf : lastE A L nm (bk L L.length) = f) (hf1 : f ≠ -1) (hat : findI st f = at') (hat0 : 0 ≤ at') (hsc : scopeL A (fun x => decide (x = f)) 0 st = true) (htop : topI st = f) (hfu : furthF A st f = -1) (hsp : (at_ A f.toNat).Node.Space = 0) (hnm : (at_ A f.toNat).Node.Name = nm) (hfb : hasB A f = true) (hin : ¬ findE L f < 0)
    (hO : Own k w [arenaL a A, stkL s a st, actL l a L]) :
    Tri Tryz.prog 8 #[.pointer (some ⟨a, 0, none⟩), .pointer (some ⟨s, 0, none⟩), .pointer (some ⟨l, 0, none⟩), .string nm, .bool fo] k w fun v m => v = .tuple #[.bool false, .int .i64 0, .int .i64 0] ∧ m = [arenaL a A, stkL s a (st.take at'.toNat), actL l a (forgetF L 0 f).1] := by
  refine enter (args := [.pointer (some ⟨a, 0, none⟩), .pointer (some ⟨s, 0, none⟩), .pointer (some ⟨l, 0, none⟩), .string nm, .bool fo]) Tryz.func8 rfl rfl ?_
  have hne := hel.ne
  have hef : errN A f = 0 := by rw [errN, if_pos hfb]
  refine K0 (K1 ?_)
  refine l_y rfl rfl (y_assign rfl) ?_
  refine l_y rfl rfl (y_assign rfl) ?_
  refine l_y rfl rfl (y_assign rfl) ?_
  refine K2 (K3 (K0 (K4 (K0 (K1 ?_)))))
  refine l_y rfl rfl (y_move rfl) ?_
  refine CK [.o a] hO rfl (fun k' hx hr hO' => LenC_spec hn (hO := hO')) ?_
  rintro _ _ w ⟨rfl, rfl⟩ hO
  simp only [List.cons_append, List.nil_append] at hO
  refine N3 (hp := (by omega)) ?_
  refine l_y rfl rfl (y_move rfl) ?_
  refine l_y rfl rfl (y_move rfl) ?_
  refine CK [.o a, .o s] hO rfl (fun k' hx hr hO' => sPush_spec hn ha hl (hO := hO')) ?_
  rintro _ _ w ⟨rfl, rfl⟩ hO
  simp only [List.cons_append, List.nil_append, freshE_none] at hO
  rw [freshE_none]
  refine N3 ?_
  refine l_y rfl rfl (y_pick_f rfl rfl) ?_
  refine l_y rfl rfl (y_move rfl) ?_
  refine l_y rfl rfl (y_move rfl) ?_
  refine CK [.o l] hO rfl (fun k' hx hr hO' => aRemove_spec hL (hO := hO')) ?_
  rintro _ _ w ⟨rfl, rfl⟩ hO
  simp only [List.cons_append, List.nil_append, removeE_none] at hO
  rw [removeE_none]
  refine N3 ?_
  refine l_y rfl rfl (y_pick_f rfl rfl) ?_
  refine l_y rfl rfl (y_assign rfl) ?_
  refine K2 (K3 (L9 (K0 (K1 ?_))))
  refine l_y rfl rfl (y_move rfl) ?_
  refine CK [.o a] hO rfl (fun k' hx hr hO' => LenC_spec hn (hO := hO')) ?_
  rintro _ _ w ⟨rfl, rfl⟩ hO
  simp only [List.cons_append, List.nil_append] at hO
  refine N3 (hp := (by omega)) ?_
  refine l_y rfl rfl (y_assign rfl) ?_
  refine K2 (K3 (L9 (K5 (K8 (K3 (K0 (K1 ?_)))))))
  refine l_y rfl rfl (y_move rfl) ?_
  refine CK [.o s] hO rfl (fun k' hx hr hO' => sTopC_spec (x := 0) hl (hO := hO')) ?_
  rintro _ _ w ⟨rfl, rfl⟩ hO
  simp only [List.cons_append, List.nil_append] at hO
  rw [htop]
  refine l_y rfl rfl (y_assign rfl) ?_
  refine K2 (K3 (K0 (K0 (K1 ?_))))
  refine l_y rfl rfl (y_move rfl) ?_
  refine l_y rfl rfl (y_move rfl) ?_
  refine CK [.o a] hO rfl (fun k' hx hr hO' => NodeD_spec (id := f) hn ha (hO := hO')) ?_
  rintro _ _ w ⟨n, hnv, rfl, rfl⟩ hO
  simp only [List.cons_append, List.nil_append] at hO
  rw [hef]
  have hns : n.Space = 0 := (hnv.space hfb).trans hsp
  have hnn : n.Name = nm := (hnv.name hfb).trans hnm
  refine l_y rfl rfl (y_move rfl) ?_
  refine l_y rfl rfl (y_extract rfl rfl) ?_
  refine l_y rfl rfl (y_extract rfl rfl) ?_
  refine s_alloc (vs := [.int .i64 0, .int .i64 0, .string ⟨#[]⟩, .slice none 0 0, .string ⟨#[]⟩, .string ⟨#[]⟩, .int .i64 0, .int .i64 0, .int .i64 0, .int .i64 0, .int .i64 0, .int .i64 0]) hO rfl rfl rfl fun b14 w hO => ?_
  refine Y3 hO rfl rfl (fun w hO => ?_)
  refine l_y rfl rfl (y_assign rfl) ?_
  refine K2 (K3 (K0 (K1 ?_)))
  refine l_y rfl rfl (y_move rfl) ?_
  refine N2 (hp := rfl) ?_
  refine l_y rfl rfl (y_move rfl) ?_
  refine l_y rfl rfl (y_fldb (o' := 1) rfl) ?_
  refine l_y rfl rfl (D5 hO rfl) ?_
  refine N2 (hp := hns) ?_
  refine l_y rfl rfl (y_pick_t rfl rfl) ?_
  refine l_y rfl rfl (y_move rfl) ?_
  refine l_y rfl rfl (y_fldb (o' := 2) rfl) ?_
  refine l_y rfl rfl (D5 hO rfl) ?_
  refine l_y rfl rfl (y_move rfl) ?_
  refine N6 (hp := hnn) ?_
  refine l_y rfl rfl (y_pick_t rfl rfl) ?_
  refine l_y rfl rfl (y_move rfl) ?_
  refine l_y rfl rfl (y_move rfl) ?_
  refine l_y rfl rfl (y_move rfl) ?_
  refine CK [.o l] hO rfl (fun k' hx hr hO' => aFind_spec hL (hO := hO')) ?_
  rintro _ _ w ⟨rfl, rfl⟩ hO
  simp only [List.cons_append, List.nil_append] at hO
  refine N3 (hp := hin) ?_
  refine l_y rfl rfl (y_pick_t rfl rfl) ?_
  refine K2 (K3 (L9 (K5 (K3 (K0 (K1 ?_))))))
  refine l_y rfl rfl (y_move rfl) ?_
  refine l_y rfl rfl (y_move rfl) ?_
  refine l_y rfl rfl (y_move rfl) ?_
  refine l_y rfl rfl (y_move rfl) ?_
  refine l_y rfl rfl (y_move rfl) ?_
  refine s_build (parts := [(0, .tmp 66), (1, .tmp 67), (2, .tmp 68), (3, .tmp 69), (4, .tmp 70)]) (cs := [.pointer (some ⟨a, 0, none⟩), .pointer (some ⟨s, 0, none⟩), .pointer (some ⟨l, 0, none⟩), .string nm, .bool fo, .int .i64 0, .int .i64 0]) rfl rfl (fun a ha => partsOf_sound ha _ _ rfl) (by kernel_rfl) ?_
  refine s_box (vs := [.pointer (some ⟨a, 0, none⟩), .pointer (some ⟨s, 0, none⟩), .pointer (some ⟨l, 0, none⟩), .string nm, .bool fo, .int .i64 0, .int .i64 0]) hO rfl rfl rfl (by rfl) fun b72 w hO => ?_
  refine l_y rfl rfl (y_assign rfl) ?_
  refine K2 (K3 (K0 (K0 (K1 ?_))))
  refine l_y rfl rfl (y_move rfl) ?_
  refine K2 (K3 (K4 ?_))
  refine c_rounds (X := Unit) (fun _u => [(10, .bool false), (11, .int .i64 0), (12, .int .i64 0), (16, .pointer (some ⟨b72, 0, none⟩)), (73, .int .i64 0)]) (fun _u w => Own k w [arenaL a A, stkL s a st, actL l a L, agB b72 a s l nm fo 0 0] ∧ (True)) (fun _u => 0) (()) ⟨rfl, rfl, rfl, rfl, rfl, trivial⟩ ⟨hO.only [.o a, .o s, .o l, .b b72], trivial⟩ ?_
  rintro _u w m hm ⟨hO, hT0⟩
  refine K0 (K1 ?_)
  refine N2 ?_
  refine K2 (K3 (K0 (L8 (K5 (K3 (K0 (K4 (K0 (K1 ?_)))))))))
  refine l_y rfl rfl (y_move rfl) ?_
  refine CK [.b b72, .o a, .o s, .o l] hO rfl (fun k' hx hr hO' => roundP_spec hn ha hl hL ⟨by decide, by decide⟩ hel hne hb hf hf1 hat hat0 hsc htop hfu (hO := hO')) ?_
  rintro _ _ w ⟨rfl, rfl⟩ hO
  simp only [List.cons_append, List.nil_append] at hO
  refine l_y rfl rfl (y_move rfl) ?_
  refine l_y rfl rfl (y_extract rfl rfl) ?_
  refine l_y rfl rfl (y_extract rfl rfl) ?_
  refine l_y rfl rfl (y_assign rfl) ?_
  refine l_y rfl rfl (y_assign rfl) ?_
  refine K2 (K3 (K0 (K1 ?_)))
  refine l_y rfl rfl (y_move rfl) ?_
  refine K2 (K3 (L8 (K0 ?_)))
  refine da_region (by intro c a d v w h; cases d <;> exact h) ?_
  have hO := hO.drew
  refine da_phase _ [] (SO.ks [.b b72] hO) ?_
  refine dx_u 0 (by kernel_rfl) rfl rfl rfl (fun w => y_move rfl) ?_
  refine dx_u 1 (by kernel_rfl) rfl rfl rfl (fun w => y_move rfl) ?_
  refine dx_u 2 (by kernel_rfl) rfl rfl rfl (fun w => y_nilCheck rfl rfl) ?_
  refine dx_u 3 (by kernel_rfl) rfl rfl rfl (fun w => y_fldb (o' := 5) rfl) ?_
  refine dx_y 4 (by kernel_rfl) rfl rfl rfl (fun w ⟨m, hw⟩ => D5 hw rfl) ?_
  refine dx_u 5 (by kernel_rfl) rfl rfl rfl (fun w => y_assign rfl) ?_
  refine dx_u 6 (by kernel_rfl) rfl rfl rfl (fun w => y_assign rfl) ?_
  refine dx_u 7 (by kernel_rfl) rfl rfl rfl (fun w => y_assign rfl) ?_
  refine dx_end (by kernel_rfl) ?_
  refine K3 (K6 (L0 (K9 (K9 (L0 (K9 ?_))))))
  exact fin3 rfl rfl rfl rfl ⟨_, ⟨rfl, rfl⟩, hO.only [.o a, .o s, .o l]⟩
end
end Go.Proofs.YtoohapbaelmkcaaGreat
