/- The walk of the law ActivePlays. -/
import Derived.Test.YtbhicbpfdbnpfaaAct13
set_option linter.unusedVariables false
set_option linter.unusedSimpArgs false
set_option maxRecDepth 100000
namespace Go.Proofs.Ytbhicbpfdbnpfaa
open Go Go.Hb Go.RowKit
def atV13 (L : List Api_entry) (i : Int) : Api_entry × Int := if i < 0 ∨ (L.length : Int) ≤ i then (default, 1) else (at_ L i.toNat, 0)
theorem at_tup {L : List Api_entry} {i : Int} {v : Value} (hv : ((i < 0 ∨ (L.length : Int) ≤ i) ∧ v = .tuple #[.agg (Api_entry.cells default).toArray, .int .i64 1]) ∨ ((0 ≤ i ∧ i < L.length) ∧ v = .tuple #[.agg (Api_entry.cells (at_ L i.toNat)).toArray, .int .i64 0])) : v = .tuple #[.agg (Api_entry.cells (atV13 L i).1).toArray, .int .i64 (atV13 L i).2] := by
  rcases hv with ⟨h, rfl⟩ | ⟨h, rfl⟩
  · rw [atV13, if_pos h]
  · rw [atV13, if_neg (by omega)]
theorem at_eok {k : Ctx} {A : List Node_one} {L : List Api_entry} {i : Int} (h : PlI k A L) : EOk k (atV13 L i).1 := by
  rw [atV13]; split
  · exact ⟨Sli.nil rfl, Nat.zero_le _⟩
  · exact h.eok _ (at_mem (by omega))
section
variable {k : Ctx} {w : World}
set_option maxHeartbeats 8000000 in
theorem ActivePlays_spec {np sp : Option Addr} {nc sc : Nat} {ns : List ByteArray} {S : List Law13_op} (hs : Sli (Ro k) (.slice np ns.length nc) (ns.map eS)) (hS : Sli (Ro k) (.slice sp S.length sc) (S.map Law13_op.cells)) (hop : ∀ o ∈ S, EOk k ⟨o.A, o.T⟩) (hSl : S.length ≤ 1048576) (hO : Own k w []) :
    Tri Try.prog 9 #[.slice np ns.length nc, .slice sp S.length sc] k w fun v m => v = .bool true := by
  refine enter (args := [.slice np ns.length nc, .slice sp S.length sc]) Try.func9 rfl rfl ?_
  have hgS := sli_gs hS
  refine K0 (K1 ?_)
  refine l_y rfl rfl (y_assign rfl) ?_
  refine K2 (K3 (K0 (K1 ?_)))
  refine l_y rfl rfl (y_move rfl) ?_
  refine CK [] hO rfl (fun k' hx hr hO' => arenas13_spec (hs.ext hO hx) (hO := hO')) ?_
  rintro _ _ w ⟨a, r, A, K, R, rfl, rfl, t, hzp⟩ hO
  simp only [List.cons_append, List.nil_append] at hO
  have hn := t.pos
  have ha := t.tree.attrs
  refine l_y rfl rfl (y_move rfl) ?_
  refine l_y rfl rfl (y_extract rfl rfl) ?_
  refine l_y rfl rfl (y_extract rfl rfl) ?_
  refine l_y rfl rfl (y_assign rfl) ?_
  refine l_y rfl rfl (y_assign rfl) ?_
  refine K2 (K3 (K0 (K1 ?_)))
  refine l_y rfl rfl (y_move rfl) ?_
  refine CK [.o a] hO rfl (fun k' hx hr hO' => aNew_spec hn (hO := hO')) ?_
  rintro _ _ w ⟨s, rfl, rfl⟩ hO
  simp only [List.cons_append, List.nil_append] at hO
  refine l_y rfl rfl (y_move rfl) ?_
  refine l_y rfl rfl (y_extract rfl rfl) ?_
  refine l_y rfl rfl (y_extract rfl rfl) ?_
  refine l_y rfl rfl (y_assign rfl) ?_
  refine l_y rfl rfl (y_assign rfl) ?_
  refine K2 (K3 (K0 (K0 (K1 ?_))))
  refine l_y rfl rfl (y_move rfl) ?_
  refine l_y rfl rfl (y_eqPnil rfl rfl rfl) ?_
  refine l_y rfl rfl (y_move rfl) ?_
  refine l_y rfl rfl (y_move rfl) ?_
  refine l_y rfl rfl (y_eqPnil rfl rfl rfl) ?_
  refine l_y rfl rfl (y_pick_f rfl rfl) ?_
  refine l_y rfl rfl (y_move rfl) ?_
  refine l_y rfl rfl (y_move rfl) ?_
  refine N4 (hp := rfl) ?_
  refine l_y rfl rfl (y_pick_f rfl rfl) ?_
  refine K2 (K3 (L9 (K5 (K3 (K0 (K1 ?_))))))
  refine l_y rfl rfl (y_move rfl) ?_
  refine CK [] hO rfl (fun k' hx hr hO' => zNew_spec (p := none) (hO := hO')) ?_
  rintro _ _ w ⟨z, rfl, rfl⟩ hO
  simp only [List.cons_append, List.nil_append] at hO
  refine l_y rfl rfl (y_assign rfl) ?_
  refine K2 (K3 (K0 (K0 (K1 ?_))))
  refine l_y rfl rfl (y_assign rfl) ?_
  refine K2 (K3 (K4 ?_))
  refine c_rounds (X := Nat × List Api_entry) (fun x => [(1, .slice sp S.length sc), (4, .bool false), (7, .pointer (some ⟨s, 0, none⟩)), (9, .pointer (some ⟨z, 0, none⟩)), (10, .int .i64 (x.1 : Int))]) (fun x w => Own k w [arenaL a A, actL s a x.2, rarL r R, ralL z r x.2] ∧ (x.1 ≤ S.length) ∧ (PlI k A x.2) ∧ (x.2.length ≤ x.1)) (fun x => S.length - x.1) ((0, [])) ⟨rfl, rfl, rfl, rfl, rfl, trivial⟩ ⟨hO.only [.o a, .o s, .o r, .o z], Nat.zero_le _, PlI.nil, Nat.le_refl _⟩ ?_
  rintro x w m hm ⟨hO, hi, hP, hl⟩
  refine K0 (K0 (K1 ?_))
  refine l_y rfl rfl (y_move rfl) ?_
  refine l_y rfl rfl (y_move rfl) ?_
  refine l_y rfl rfl (y_lenL rfl) ?_
  refine Z0 (fun h7_3 => ?_) (fun h7_3 => ?_)
  · refine K2 (K3 (L8 (K5 (K3 (K0 (K4 (K0 (K0 ?_))))))))
    refine da_region (by intro c a d v w h; cases d <;> exact h) ?_
    have hO := hO.drew
    refine da_phase _ [6] (SO.ks [] hO) ?_
    refine dx_u 0 (by kernel_rfl) rfl rfl rfl (fun w => y_move rfl) ?_
    refine dx_u 1 (by kernel_rfl) rfl rfl rfl (fun w => y_move rfl) ?_
    refine dx_u 2 (by kernel_rfl) rfl rfl rfl (fun w => y_move rfl) ?_
    refine dx_u 3 (by kernel_rfl) rfl rfl rfl (fun w => y_move rfl) ?_
    refine dx_u 4 (by kernel_rfl) rfl rfl rfl (fun w => y_idx rfl rfl) ?_
    refine dx_y 5 (by kernel_rfl) rfl rfl rfl (fun w ⟨m, hw⟩ => y_rA (x0 := 0) (enc := Law13_op.cells) (xs := S) (cs := [.int .i64 (at_ S ((x.1 : Int) : Int).toNat).What, .int .i64 (at_ S ((x.1 : Int) : Int).toNat).A, .int .i64 (at_ S ((x.1 : Int) : Int).toNat).B, .int .i64 (at_ S ((x.1 : Int) : Int).toNat).N, .string (at_ S ((x.1 : Int) : Int).toNat).Text, .int .i64 (at_ S ((x.1 : Int) : Int).toNat).T.Kind, .string (at_ S ((x.1 : Int) : Int).toNat).T.Name, .string (at_ S ((x.1 : Int) : Int).toNat).T.Data, .string (at_ S ((x.1 : Int) : Int).toNat).T.System, .int .i64 (at_ S ((x.1 : Int) : Int).toNat).T.Has, .bool (at_ S ((x.1 : Int) : Int).toNat).T.Quirks, .int .i32 (at_ S ((x.1 : Int) : Int).toNat).T.Char, .bool (at_ S ((x.1 : Int) : Int).toNat).T.Self, .slice (at_ S ((x.1 : Int) : Int).toNat).T.AttrsP (at_ S ((x.1 : Int) : Int).toNat).T.Attrs.length (at_ S ((x.1 : Int) : Int).toNat).T.AttrsC]) hw rfl) ?_
    refine dx_close 6 (by kernel_rfl) rfl rfl ?_
    refine CK [.o a, .o s, .o r, .o z] hO rfl (fun k' hx hr hO' => play13_spec (k0 := k) (o := at_ S x.1) t hP (fun v rows hh => hh.ext hO hx) (by omega) (hop _ (at_mem (by omega))) (hO := hO')) ?_
    rintro _ _ w ⟨rfl, M, hM, hMl, rfl⟩ hO
    simp only [List.cons_append, List.nil_append] at hO
    obtain ⟨q, d, hgq, hlq, hO⟩ := ralL_open (hO.ks [.o z])
    refine o_done ?_
    refine da_phase _ [32] (SO.ks [.b z] hO) ?_
    refine dx_u 7 (by kernel_rfl) rfl rfl rfl (fun w => y_not rfl rfl) ?_
    refine dx_u 8 (by kernel_rfl) rfl rfl rfl (fun w => y_move rfl) ?_
    refine dx_u 9 (by kernel_rfl) rfl rfl rfl (fun w => y_move rfl) ?_
    refine dx_u 11 (by kernel_rfl) rfl rfl rfl (fun w => y_move rfl) ?_
    refine dx_u 12 (by kernel_rfl) rfl rfl rfl (fun w => y_nilCheck rfl rfl) ?_
    refine dx_u 13 (by kernel_rfl) rfl rfl rfl (fun w => y_fldb (o' := 1) rfl) ?_
    refine dx_y 14 (by kernel_rfl) rfl rfl rfl (fun w ⟨m, hw⟩ => D5 hw rfl) ?_
    refine dx_u 15 (by kernel_rfl) rfl rfl rfl (fun w => y_lenL rfl) ?_
    refine dx_only 10 (by kernel_rfl) rfl rfl ?_
    refine CK [.o s] hO rfl (fun k' hx hr hO' => aLen_spec (hO := hO')) ?_
    rintro _ _ w ⟨rfl, rfl⟩ hO
    simp only [List.cons_append, List.nil_append] at hO
    refine o_done ?_
    refine ⟨SO.ks [.b z] hO, ?_⟩
    refine dx_y 16 (by kernel_rfl) rfl rfl rfl (fun w ⟨m, hw⟩ => D2 (hp := rfl)) ?_
    refine dx_u 17 (by kernel_rfl) rfl rfl rfl (fun w => y_pick_f rfl rfl) ?_
    refine dx_u 18 (by kernel_rfl) rfl rfl rfl (fun w => y_move rfl) ?_
    refine dx_u 19 (by kernel_rfl) rfl rfl rfl (fun w => y_move rfl) ?_
    refine dx_u 20 (by kernel_rfl) rfl rfl rfl (fun w => y_move rfl) ?_
    refine dx_u 21 (by kernel_rfl) rfl rfl rfl (fun w => y_move rfl) ?_
    refine dx_u 22 (by kernel_rfl) rfl rfl rfl (fun w => y_idx rfl rfl) ?_
    refine dx_u 23 (by kernel_rfl) rfl rfl rfl (fun w => y_fld (j' := 1) rfl) ?_
    refine dx_y 24 (by kernel_rfl) rfl rfl rfl (fun w ⟨m, hw⟩ => y_r1 (x0 := 1) (enc := Law13_op.cells) (xs := S) hw rfl) ?_
    refine dx_u 26 (by kernel_rfl) rfl rfl rfl (fun w => y_move rfl) ?_
    refine dx_u 27 (by kernel_rfl) rfl rfl rfl (fun w => y_move rfl) ?_
    refine dx_u 28 (by kernel_rfl) rfl rfl rfl (fun w => y_move rfl) ?_
    refine dx_u 29 (by kernel_rfl) rfl rfl rfl (fun w => y_idx rfl rfl) ?_
    refine dx_u 30 (by kernel_rfl) rfl rfl rfl (fun w => y_fld (j' := 1) rfl) ?_
    refine dx_y 31 (by kernel_rfl) rfl rfl rfl (fun w ⟨m, hw⟩ => y_r1 (x0 := 1) (enc := Law13_op.cells) (xs := S) hw rfl) ?_
    refine dx_only 25 (by kernel_rfl) rfl rfl ?_
    refine CK [.o s] hO rfl (fun k' hx hr hO' => aFind_spec (by omega) (hO := hO')) ?_
    rintro _ _ w ⟨rfl, rfl⟩ hO
    simp only [List.cons_append, List.nil_append] at hO
    refine o_done ?_
    refine ⟨SO.ks [.b z] hO, ?_⟩
    refine dx_close 32 (by kernel_rfl) rfl rfl ?_
    refine CK [.b z, .p q] hO rfl (fun k' hx hr hO' => zFindB_spec hM.dist hgq (by omega) (hO := hO')) ?_
    rintro _ _ w ⟨rfl, rfl⟩ hO
    simp only [List.cons_append, List.nil_append] at hO
    refine o_done ?_
    refine da_phase _ [] (SO.ks [] hO) ?_
    refine dx_y 33 (by kernel_rfl) rfl rfl rfl (fun w ⟨m, hw⟩ => D2 (hp := rfl)) ?_
    refine dx_u 34 (by kernel_rfl) rfl rfl rfl (fun w => y_pick_f rfl rfl) ?_
    refine dx_end (by kernel_rfl) ?_
    refine K3 (L9 (K5 (K3 (K0 ?_))))
    have hO := ralL_shut (hO.ks [.b z, .p q])
    refine K1 ?_
    refine l_y rfl rfl (y_assign rfl) ?_
    refine K2 (K3 (K4 ?_))
    refine c_rounds (X := Int) (fun y => [(1, .slice sp S.length sc), (4, .bool false), (7, .pointer (some ⟨s, 0, none⟩)), (9, .pointer (some ⟨z, 0, none⟩)), (10, .int .i64 (x.1 : Int)), (11, .int .i64 y)]) (fun y w => Own k w [arenaL a A, actL s a M, rarL r R, ralL z r M] ∧ (-1 ≤ y ∧ y ≤ M.length + 1)) (fun y => ((M.length : Int) + 2 - y).toNat) (-1) ⟨rfl, rfl, rfl, rfl, rfl, rfl, trivial⟩ ⟨hO.only [.o a, .o s, .o r, .o z], ⟨by decide, by omega⟩⟩ ?_
    rintro y w m hm ⟨hO, hy⟩
    refine K0 (K0 ?_)
    obtain ⟨q3, d3, hgq3, hlq3, hO⟩ := ralL_open (hO.ks [.o z])
    refine K1 ?_
    refine l_y rfl rfl (y_move rfl) ?_
    refine l_y rfl rfl (y_move rfl) ?_
    refine l_y rfl rfl (y_nilCheck rfl rfl) ?_
    refine l_y rfl rfl (y_fldb (o' := 1) rfl) ?_
    refine l_y rfl rfl (D5 hO rfl) ?_
    refine l_y rfl rfl (y_lenL rfl) ?_
    refine Z0 (fun h12_6 => ?_) (fun h12_6 => ?_)
    · refine l_y rfl rfl (y_move rfl) ?_
      refine l_y rfl rfl (y_move rfl) ?_
      refine Z0 (fun h12_9 => ?_) (fun h12_9 => ?_)
      · refine l_y rfl rfl (y_pick_t rfl rfl) ?_
        refine K2 (K3 (L8 (K5 (K3 (K0 (K4 (K0 ?_)))))))
        have hO := ralL_shut (hO.ks [.b z, .p q3])
        refine K1 ?_
        refine l_y rfl rfl (y_move rfl) ?_
        refine l_y rfl rfl (y_move rfl) ?_
        refine CK [.o s] hO rfl (fun k' hx hr hO' => aAt_spec (by omega) (hO := hO')) ?_
        rintro v _ w ⟨hv, rfl⟩ hO
        simp only [List.cons_append, List.nil_append] at hO
        have hk9 := at_eok (i := y) hM
        obtain ⟨⟨e9, c9⟩, he9⟩ : ∃ u, u = atV13 M y := ⟨_, rfl⟩
        have hv1 := at_tup hv
        rw [← he9] at hv1 hk9
        subst hv1
        refine l_y rfl rfl (y_move rfl) ?_
        refine l_y rfl rfl (y_extract rfl rfl) ?_
        refine l_y rfl rfl (y_extract rfl rfl) ?_
        refine s_alloc (vs := [.int .i64 0, .int .i64 0, .string ⟨#[]⟩, .string ⟨#[]⟩, .string ⟨#[]⟩, .int .i64 0, .bool false, .int .i32 0, .bool false, .slice none 0 0]) hO rfl rfl rfl fun b12 w hO => ?_
        refine Y3 hO rfl rfl (fun w hO => ?_)
        refine l_y rfl rfl (y_assign rfl) ?_
        refine K2 (K3 (K0 (K1 ?_)))
        refine l_y rfl rfl (y_move rfl) ?_
        refine l_y rfl rfl (y_move rfl) ?_
        refine CK [.o z] hO rfl (fun k' hx hr hO' => zAt_spec (by omega) (hO := hO')) ?_
        rintro v2 _ w ⟨hv2, rfl⟩ hO
        simp only [List.cons_append, List.nil_append] at hO
        have hv3 := at_tup hv2
        rw [← he9] at hv3
        subst hv3
        refine l_y rfl rfl (y_move rfl) ?_
        refine l_y rfl rfl (y_extract rfl rfl) ?_
        refine l_y rfl rfl (y_extract rfl rfl) ?_
        refine s_alloc (vs := [.int .i64 0, .int .i64 0, .string ⟨#[]⟩, .string ⟨#[]⟩, .string ⟨#[]⟩, .int .i64 0, .bool false, .int .i32 0, .bool false, .slice none 0 0]) hO rfl rfl rfl fun b14 w hO => ?_
        refine Y3 hO rfl rfl (fun w hO => ?_)
        refine l_y rfl rfl (y_assign rfl) ?_
        refine K2 (K3 (K0 (K1 ?_)))
        refine l_y rfl rfl (D8 (cs := [.int .i64 e9.Node, .int .i64 e9.Token.Kind, .string e9.Token.Name, .string e9.Token.Data, .string e9.Token.System, .int .i64 e9.Token.Has, .bool e9.Token.Quirks, .int .i32 e9.Token.Char, .bool e9.Token.Self, .slice e9.Token.AttrsP e9.Token.Attrs.length e9.Token.AttrsC]) hO rfl) ?_
        refine l_y rfl rfl (D8 (cs := [.int .i64 e9.Node, .int .i64 e9.Token.Kind, .string e9.Token.Name, .string e9.Token.Data, .string e9.Token.System, .int .i64 e9.Token.Has, .bool e9.Token.Quirks, .int .i32 e9.Token.Char, .bool e9.Token.Self, .slice e9.Token.AttrsP e9.Token.Attrs.length e9.Token.AttrsC]) hO rfl) ?_
        refine CK [] hO rfl (fun k' hx hr hO' => entry_spec (e := e9) ⟨hk9.1.ext hO hx, hk9.2⟩ (hO := hO')) ?_
        rintro _ _ w ⟨rfl, rfl⟩ hO
        simp only [List.cons_append, List.nil_append] at hO
        refine l_y rfl rfl (y_not rfl rfl) ?_
        refine l_y rfl rfl (y_move rfl) ?_
        refine l_y rfl rfl (y_move rfl) ?_
        refine l_y rfl rfl (y_move rfl) ?_
        refine N4 (hp := rfl) ?_
        refine l_y rfl rfl (y_pick_f rfl rfl) ?_
        refine K2 (K3 (L9 (K5 (K8 (K3 (K1 ?_))))))
        refine l_y rfl rfl (y_move rfl) ?_
        refine l_y rfl rfl (D4) ?_
        refine l_y rfl rfl (y_assign rfl) ?_
        refine K2 ?_
        exact q_next (y + 1) ⟨rfl, rfl, rfl, rfl, rfl, rfl, trivial⟩ ⟨hO.only [.o a, .o s, .o r, .o z], by omega⟩ (by omega)
      · refine l_y rfl rfl (y_pick_t rfl rfl) ?_
        refine K2 (K3 (L9 (K7 (L1 (L1 (L2 (K8 (K3 ?_))))))))
        have hO := ralL_shut (hO.ks [.b z, .p q3])
        refine K1 ?_
        refine l_y rfl rfl (y_move rfl) ?_
        refine l_y rfl rfl (D4) ?_
        refine l_y rfl rfl (y_assign rfl) ?_
        refine K2 ?_
        exact q_next ((x.1 + 1, M)) ⟨rfl, rfl, rfl, rfl, rfl, trivial⟩ ⟨hO.only [.o a, .o s, .o r, .o z], by dsimp only; omega, hM, by dsimp only; omega⟩ (by dsimp only; omega)
    · refine l_y rfl rfl (y_move rfl) ?_
      repeat refine M2 ?_
      refine l_y rfl rfl (y_pick_f rfl rfl) ?_
      refine K2 (K3 (L9 (K7 (L1 (L1 (L2 (K8 (K3 ?_))))))))
      have hO := ralL_shut (hO.ks [.b z, .p q3])
      refine K1 ?_
      refine l_y rfl rfl (y_move rfl) ?_
      refine l_y rfl rfl (D4) ?_
      refine l_y rfl rfl (y_assign rfl) ?_
      refine K2 ?_
      exact q_next ((x.1 + 1, M)) ⟨rfl, rfl, rfl, rfl, rfl, trivial⟩ ⟨hO.only [.o a, .o s, .o r, .o z], by dsimp only; omega, hM, by dsimp only; omega⟩ (by dsimp only; omega)
  · refine K2 (K3 (L9 (K7 (L1 (L1 (L2 (K3 (K0 (K1 ?_)))))))))
    refine CK [] hO rfl (fun k' hx hr hO' => awake13_spec (hO := hO')) ?_
    rintro _ _ w ⟨rfl, rfl⟩ hO
    simp only [List.cons_append, List.nil_append] at hO
    refine l_y rfl rfl (y_assign rfl) ?_
    refine K2 (K3 (K6 ?_))
    exact fin1 rfl rfl ⟨_, rfl, hO.only []⟩
end
end Go.Proofs.Ytbhicbpfdbnpfaa
