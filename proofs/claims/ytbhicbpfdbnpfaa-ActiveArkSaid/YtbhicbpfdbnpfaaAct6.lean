/- The walk of the law ActiveArk. -/
import Derived.Test.YtbhicbpfdbnpfaaAct5
set_option linter.unusedVariables false
set_option linter.unusedSimpArgs false
set_option maxRecDepth 100000
namespace Go.Proofs.Ytbhicbpfdbnpfaa
open Go Go.Hb Go.RowKit
section
variable {k : Ctx} {w : World}
theorem Xs.len {l : List Api_attr} (h : Xs l) : l.length ≤ 9223372036854775807 := by rcases h with rfl | rfl <;> simp
def tkA (nm : ByteArray) (z : Option Addr × List Api_attr × Nat) : Api_token := ⟨1, nm, ⟨#[]⟩, ⟨#[]⟩, 0, false, 0, false, z.1, z.2.1, z.2.2⟩
set_option maxHeartbeats 4000000 in
theorem ActiveArk_spec {np mp xp : Option Addr} {nc mc xc : Nat} {ns : List ByteArray} {ms xs : List Int} (hs : Sli (Ro k) (.slice np ns.length nc) (ns.map eS)) (hs1 : Sli (Ro k) (.slice mp ms.length mc) (ms.map (eI .u8))) (hs2 : Sli (Ro k) (.slice xp xs.length xc) (xs.map (eI .u8)))
    (hb1 : ∀ y ∈ ms, 0 ≤ y ∧ y ≤ 255) (hb2 : ∀ y ∈ xs, 0 ≤ y ∧ y ≤ 255) (hO : Own k w []) :
    Tri Try.prog 8 #[.slice np ns.length nc, .slice mp ms.length mc, .slice xp xs.length xc] k w fun v m => v = .bool true := by
  refine enter (args := [.slice np ns.length nc, .slice mp ms.length mc, .slice xp xs.length xc]) Try.func8 rfl rfl ?_
  have hg1 := sli_gs hs1
  have hg2 := sli_gs hs2
  refine K0 (K1 ?_)
  refine l_y rfl rfl (y_assign rfl) ?_
  refine K2 (K3 (K0 (K1 ?_)))
  refine l_y rfl rfl (y_move rfl) ?_
  refine CK [] hO rfl (fun k' hx hr hO' => arenas13_spec (hs.ext hO hx) (hO := hO')) ?_
  rintro _ _ w ⟨a, r, A, K, R, rfl, rfl, t, hz⟩ hO
  simp only [List.cons_append, List.nil_append] at hO
  have hn := t.pos
  have ha := t.tree.attrs
  refine l_y rfl rfl (y_move rfl) ?_
  refine l_y rfl rfl (y_extract rfl rfl) ?_
  refine l_y rfl rfl (y_extract rfl rfl) ?_
  refine l_y rfl rfl (y_assign rfl) ?_
  refine l_y rfl rfl (y_assign rfl) ?_
  refine K2 (K3 (K0 (K1 ?_)))
  refine l_y rfl rfl (y_move rfl) ?_
  refine CK [.o a] hO rfl (fun k' hx hr hO' => aNew_spec hn (hO := hO')) ?_
  rintro _ _ w ⟨s, rfl, rfl⟩ hO
  simp only [List.cons_append, List.nil_append] at hO
  refine l_y rfl rfl (y_move rfl) ?_
  refine l_y rfl rfl (y_extract rfl rfl) ?_
  refine l_y rfl rfl (y_extract rfl rfl) ?_
  refine l_y rfl rfl (y_assign rfl) ?_
  refine l_y rfl rfl (y_assign rfl) ?_
  refine K2 (K3 (K0 (K0 (K1 ?_))))
  refine l_y rfl rfl (y_move rfl) ?_
  refine l_y rfl rfl (y_eqPnil rfl rfl rfl) ?_
  refine l_y rfl rfl (y_move rfl) ?_
  refine l_y rfl rfl (y_move rfl) ?_
  refine l_y rfl rfl (y_eqPnil rfl rfl rfl) ?_
  refine l_y rfl rfl (y_pick_f rfl rfl) ?_
  refine K2 (K3 (L9 (K5 (K3 (K0 (K0 ?_))))))
  obtain ⟨F0, hO⟩ : ∃ F, Own k w (pool F :: _) := ⟨_, hO.pool0⟩
  refine K1 ?_
  refine l_y rfl rfl (y_assign rfl) ?_
  refine K2 (K3 (K4 ?_))
  refine c_rounds (X := Nat × List Api_entry × Pl) (fun x => [(1, .slice mp ms.length mc), (2, .slice xp xs.length xc), (6, .bool false), (7, .pointer (some ⟨a, 0, none⟩)), (9, .pointer (some ⟨s, 0, none⟩)), (11, .int .i64 (x.1 : Int))]) (fun x w => Own k w [arenaL a A, actL s a x.2.1, pool x.2.2] ∧ (ArkI A x.2.1 x.2.2 x.1) ∧ (x.2.1.length ≤ 2 * x.1) ∧ (1 ≤ x.1 ∧ x.1 ≤ 100)) (fun x => 100 - x.1) ((1, [], F0)) ⟨rfl, rfl, rfl, rfl, rfl, rfl, trivial⟩ ⟨hO.only [.o a, .o s, .f], ArkI.new, Nat.zero_le _, ⟨by dsimp only; omega, by dsimp only; omega⟩⟩ ?_
  rintro x w m hm ⟨hO, hI, hl, hi⟩
  refine K0 (K0 (K1 ?_))
  refine l_y rfl rfl (y_move rfl) ?_
  refine l_y rfl rfl (y_move rfl) ?_
  refine CK [.o a] hO rfl (fun k' hx hr hO' => LenC_spec hn (hO := hO')) ?_
  rintro _ _ w ⟨rfl, rfl⟩ hO
  simp only [List.cons_append, List.nil_append] at hO
  refine Z0 (fun h6_3 => ?_) (fun h6_3 => ?_)
  · refine l_y rfl rfl (y_move rfl) ?_
    refine l_y rfl rfl (y_move rfl) ?_
    refine Z0 (fun h6_6 => ?_) (fun h6_6 => ?_)
    · refine l_y rfl rfl (y_pick_t rfl rfl) ?_
      refine K2 (K3 (L8 (K5 (K3 (K0 (K4 (K0 (K1 ?_))))))))
      refine l_y rfl rfl (y_move rfl) ?_
      refine l_y rfl rfl (y_move rfl) ?_
      refine CK [.o a] hO rfl (fun k' hx hr hO' => NodeD_spec hn ha (hO := hO')) ?_
      rintro _ _ w ⟨n1, hn1, rfl, rfl⟩ hO
      simp only [List.cons_append, List.nil_append] at hO
      have hbi : hasB A (x.1 : Int) = true := by rw [hasB]; exact decide_eq_true ⟨by omega, by omega⟩
      have ek := hn1.kind hbi
      have enm : n1.Name = (nodeA A (x.1 : Int)).Name := hn1.name hbi
      refine l_y rfl rfl (y_move rfl) ?_
      refine l_y rfl rfl (y_extract rfl rfl) ?_
      refine l_y rfl rfl (y_extract rfl rfl) ?_
      refine s_alloc (vs := [.int .i64 0, .int .i64 0, .string ⟨#[]⟩, .slice none 0 0, .string ⟨#[]⟩, .string ⟨#[]⟩, .int .i64 0, .int .i64 0, .int .i64 0, .int .i64 0, .int .i64 0, .int .i64 0]) hO rfl rfl rfl fun b12 w hO => ?_
      refine Y3 hO rfl rfl (fun w hO => ?_)
      refine l_y rfl rfl (y_assign rfl) ?_
      refine K2 (K3 (K0 (K0 (K1 ?_))))
      refine l_y rfl rfl (y_fldb (o' := 0) rfl) ?_
      refine l_y rfl rfl (D5 hO rfl) ?_
      refine Z1 (fun h9_2 => ?_) (fun h9_2 => ?_)
      · obtain ⟨es3, F3, hI3, hl3, hO⟩ : ∃ (es3 : List Api_entry) (F3 : Pl), ArkI A es3 F3 (x.1 + 1) ∧ es3.length ≤ 2 * (x.1 + 1) ∧ Own k w [arenaL a A, actL s a es3, pool F3] := ⟨x.2.1, x.2.2, hI.le (PLe.refl _) (by omega), by omega, hO.only [.o a, .o s, .f]⟩
        refine K2 (K3 (L8 (K7 (L1 (L2 (K3 (K1 ?_)))))))
        refine l_y rfl rfl (y_move rfl) ?_
        refine l_y rfl rfl (D4) ?_
        refine l_y rfl rfl (y_assign rfl) ?_
        refine K2 ?_
        exact q_next ((x.1 + 1, es3, F3)) ⟨rfl, rfl, rfl, rfl, rfl, rfl, trivial⟩ ⟨hO.only [.o a, .o s, .f], hI3, by dsimp only; omega, ⟨by dsimp only; omega, by dsimp only; omega⟩⟩ (by dsimp only; omega)
      · have hel : elB A (x.1 : Int) = true := by rw [elB, hbi, ← ek]; exact decide_eq_true h9_2
        refine K2 (K3 (L9 (K5 (K3 (K0 (K1 ?_))))))
        refine l_y rfl rfl (y_fldb (o' := 2) rfl) ?_
        refine l_y rfl rfl (D5 hO rfl) ?_
        refine s_build (parts := [(0, .const (.int .i64 1)), (1, .tmp 57)]) (cs := [.int .i64 1, .string n1.Name, .string ⟨#[]⟩, .string ⟨#[]⟩, .int .i64 0, .bool false, .int .i32 0, .bool false, .slice none 0 0]) rfl rfl (fun a ha => partsOf_sound ha _ _ rfl) (by kernel_rfl) ?_
        refine s_alloc (vs := [.int .i64 0, .string ⟨#[]⟩, .string ⟨#[]⟩, .string ⟨#[]⟩, .int .i64 0, .bool false, .int .i32 0, .bool false, .slice none 0 0]) hO rfl rfl rfl fun b14 w hO => ?_
        refine Y3 hO rfl rfl (fun w hO => ?_)
        refine K2 (K3 ?_)
        refine c_cut (X := Option Addr × List Api_attr × Nat × Pl) (fun z => [(1, .slice mp ms.length mc), (2, .slice xp xs.length xc), (6, .bool false), (7, .pointer (some ⟨a, 0, none⟩)), (9, .pointer (some ⟨s, 0, none⟩)), (11, .int .i64 (x.1 : Int)), (12, .pointer (some ⟨b12, 0, none⟩)), (14, .pointer (some ⟨b14, 0, none⟩))]) (fun z w => Own k w [arenaL a A, actL s a x.2.1, blk b12 41 (Api_node.cells n1), blk b14 65 (Api_token.cells (tkA n1.Name (z.1, z.2.1, z.2.2.1))), pool z.2.2.2] ∧ (Xs z.2.1) ∧ (Sli (PH z.2.2.2) (.slice z.1 z.2.1.length z.2.2.1) (z.2.1.map Api_attr.cells)) ∧ (PLe x.2.2 z.2.2.2)) ?_ ?_
        · refine K0 (K1 ?_)
          refine l_y rfl rfl (y_move rfl) ?_
          refine l_y rfl rfl (y_move rfl) ?_
          refine l_y rfl rfl (y_lenL rfl) ?_
          refine Z0 (fun h11_3 => ?_) (fun h11_3 => ?_)
          · refine l_y rfl rfl (y_move rfl) ?_
            refine l_y rfl rfl (y_move rfl) ?_
            refine l_y rfl rfl (y_move rfl) ?_
            refine l_y rfl rfl (y_idx rfl rfl) ?_
            refine l_y rfl rfl (y_r1 (x0 := 0) (enc := (eI .u8)) (xs := xs) hO rfl) ?_
            have hb9 : 0 ≤ at_ xs ((x.1 : Nat) : Int).toNat ∧ at_ xs ((x.1 : Nat) : Int).toNat ≤ 255 := hb2 _ (at_mem (by omega))
            refine l_y rfl rfl (y_remN rfl rfl (by omega) (by decide)) ?_
            refine Z0 (fun h11_10 => ?_) (fun h11_10 => ?_)
            · refine l_y rfl rfl (y_pick_t rfl rfl) ?_
              refine K2 (K3 (L8 (K1 ?_)))
              refine s_build (parts := [(2, .const (.string ⟨#[120]⟩)), (3, .const (.string ⟨#[49]⟩))]) (cs := [.int .i64 0, .string ⟨#[]⟩, .string ⟨#[120]⟩, .string ⟨#[49]⟩]) rfl rfl (fun a ha => partsOf_sound ha _ _ rfl) (by kernel_rfl) ?_
              refine s_lit (parts := [(0, .tmp 71)]) (enc := Api_attr.cells) [⟨0, ⟨#[]⟩, ⟨#[120]⟩, ⟨#[49]⟩⟩] [.agg [.int .i64 0, .string ⟨#[]⟩, .string ⟨#[120]⟩, .string ⟨#[49]⟩].toArray] hO rfl (fun b72 w hO => ?_)
              obtain ⟨F1, hle1, hO, hsa⟩ := (hO.ks [.p (some ⟨b72, 0, none⟩), .f]).pooled
              refine l_y rfl rfl (y_fldb (o' := 8) rfl) ?_
              refine Y1 hO rfl rfl (fun w hO => ?_)
              simp only [List.set_cons_zero, List.set_cons_succ] at hO
              refine K2 ?_
              first
                | exact q_cut (some ⟨b72, 0, none⟩, [x1A], 1, F1) ⟨rfl, rfl, rfl, rfl, rfl, rfl, rfl, rfl, trivial⟩ ⟨hO.only [.o a, .o s, .b b12, .b b14, .f], .inr rfl, hsa, hle1⟩
                | exact q_cut ((none, [], 0, x.2.2)) ⟨rfl, rfl, rfl, rfl, rfl, rfl, rfl, rfl, trivial⟩ ⟨hO.only [.o a, .o s, .b b12, .b b14, .f], .inl rfl, Sli.nil rfl, PLe.refl _⟩
            · refine l_y rfl rfl (y_pick_t rfl rfl) ?_
              refine K2 (K3 (L9 (K5 ?_)))
              first
                | exact q_cut (some ⟨b72, 0, none⟩, [x1A], 1, F1) ⟨rfl, rfl, rfl, rfl, rfl, rfl, rfl, rfl, trivial⟩ ⟨hO.only [.o a, .o s, .b b12, .b b14, .f], .inr rfl, hsa, hle1⟩
                | exact q_cut ((none, [], 0, x.2.2)) ⟨rfl, rfl, rfl, rfl, rfl, rfl, rfl, rfl, trivial⟩ ⟨hO.only [.o a, .o s, .b b12, .b b14, .f], .inl rfl, Sli.nil rfl, PLe.refl _⟩
          · refine l_y rfl rfl (y_move rfl) ?_
            repeat refine M2 ?_
            refine l_y rfl rfl (y_pick_f rfl rfl) ?_
            refine K2 (K3 (L9 (K5 ?_)))
            first
              | exact q_cut (some ⟨b72, 0, none⟩, [x1A], 1, F1) ⟨rfl, rfl, rfl, rfl, rfl, rfl, rfl, rfl, trivial⟩ ⟨hO.only [.o a, .o s, .b b12, .b b14, .f], .inr rfl, hsa, hle1⟩
              | exact q_cut ((none, [], 0, x.2.2)) ⟨rfl, rfl, rfl, rfl, rfl, rfl, rfl, rfl, trivial⟩ ⟨hO.only [.o a, .o s, .b b12, .b b14, .f], .inl rfl, Sli.nil rfl, PLe.refl _⟩
        · rintro z w ⟨hO, hzx, hzs, hzF⟩
          refine c_cut (X := List Api_entry) (fun es1 => [(1, .slice mp ms.length mc), (2, .slice xp xs.length xc), (6, .bool false), (7, .pointer (some ⟨a, 0, none⟩)), (9, .pointer (some ⟨s, 0, none⟩)), (11, .int .i64 (x.1 : Int)), (12, .pointer (some ⟨b12, 0, none⟩)), (14, .pointer (some ⟨b14, 0, none⟩))]) (fun es1 w => Own k w [arenaL a A, actL s a es1, blk b12 41 (Api_node.cells n1), blk b14 65 (Api_token.cells (tkA n1.Name (z.1, z.2.1, z.2.2.1))), pool z.2.2.2] ∧ (ArkI A es1 z.2.2.2 x.1) ∧ (es1.length ≤ 2 * x.1 + 1)) ?_ ?_
          · refine K0 (K1 ?_)
            refine l_y rfl rfl (y_move rfl) ?_
            refine l_y rfl rfl (y_move rfl) ?_
            refine l_y rfl rfl (y_lenL rfl) ?_
            refine Z0 (fun h13_3 => ?_) (fun h13_3 => ?_)
            · refine l_y rfl rfl (y_move rfl) ?_
              refine l_y rfl rfl (y_move rfl) ?_
              refine l_y rfl rfl (y_move rfl) ?_
              refine l_y rfl rfl (y_idx rfl rfl) ?_
              refine l_y rfl rfl (y_r1 (x0 := 0) (enc := (eI .u8)) (xs := ms) hO rfl) ?_
              have hb9 : 0 ≤ at_ ms ((x.1 : Nat) : Int).toNat ∧ at_ ms ((x.1 : Nat) : Int).toNat ≤ 255 := hb1 _ (at_mem (by omega))
              refine l_y rfl rfl (y_remN rfl rfl (by omega) (by decide)) ?_
              refine Z0 (fun h13_10 => ?_) (fun h13_10 => ?_)
              · refine l_y rfl rfl (y_pick_t rfl rfl) ?_
                refine K2 (K3 (L8 (K1 ?_)))
                refine l_y rfl rfl (y_move rfl) ?_
                refine CK [.o s] hO rfl (fun k' hx hr hO' => aMark_spec (by omega) (hO := hO')) ?_
                rintro _ _ w ⟨rfl, rfl⟩ hO
                simp only [List.cons_append, List.nil_append] at hO
                refine K2 ?_
                first
                  | exact q_cut (x.2.1 ++ [markE]) ⟨rfl, rfl, rfl, rfl, rfl, rfl, rfl, rfl, trivial⟩ ⟨hO.only [.o a, .o s, .b b12, .b b14, .f], (hI.le hzF (Nat.le_refl _)).mark, by simp; omega⟩
                  | exact q_cut x.2.1 ⟨rfl, rfl, rfl, rfl, rfl, rfl, rfl, rfl, trivial⟩ ⟨hO.only [.o a, .o s, .b b12, .b b14, .f], hI.le hzF (Nat.le_refl _), by omega⟩
              · refine l_y rfl rfl (y_pick_t rfl rfl) ?_
                refine K2 (K3 (L9 (K5 ?_)))
                first
                  | exact q_cut (x.2.1 ++ [markE]) ⟨rfl, rfl, rfl, rfl, rfl, rfl, rfl, rfl, trivial⟩ ⟨hO.only [.o a, .o s, .b b12, .b b14, .f], (hI.le hzF (Nat.le_refl _)).mark, by simp; omega⟩
                  | exact q_cut x.2.1 ⟨rfl, rfl, rfl, rfl, rfl, rfl, rfl, rfl, trivial⟩ ⟨hO.only [.o a, .o s, .b b12, .b b14, .f], hI.le hzF (Nat.le_refl _), by omega⟩
            · refine l_y rfl rfl (y_move rfl) ?_
              repeat refine M2 ?_
              refine l_y rfl rfl (y_pick_f rfl rfl) ?_
              refine K2 (K3 (L9 (K5 ?_)))
              first
                | exact q_cut (x.2.1 ++ [markE]) ⟨rfl, rfl, rfl, rfl, rfl, rfl, rfl, rfl, trivial⟩ ⟨hO.only [.o a, .o s, .b b12, .b b14, .f], (hI.le hzF (Nat.le_refl _)).mark, by simp; omega⟩
                | exact q_cut x.2.1 ⟨rfl, rfl, rfl, rfl, rfl, rfl, rfl, rfl, trivial⟩ ⟨hO.only [.o a, .o s, .b b12, .b b14, .f], hI.le hzF (Nat.le_refl _), by omega⟩
          · rintro es1 w ⟨hO, hI1, hl1⟩
            refine K0 (K0 (K1 ?_))
            refine l_y rfl rfl (y_move rfl) ?_
            refine l_y rfl rfl (y_move rfl) ?_
            refine l_y rfl rfl (D8 (cs := [.int .i64 1, .string n1.Name, .string ⟨#[]⟩, .string ⟨#[]⟩, .int .i64 0, .bool false, .int .i32 0, .bool false, .slice z.1 z.2.1.length z.2.2.1]) hO rfl) ?_
            obtain ⟨hI3, hfi, hla, hl3⟩ := hI1.push (e := ⟨(x.1 : Int), tkA n1.Name (z.1, z.2.1, z.2.2.1)⟩) hz rfl hel hzx hzs
            have hf0 := hI1.fresh hel
            refine CK [.o a, .o s] hO rfl (fun k' hx hr hO' => aPush_spec (id := (x.1 : Int)) (tk := tkA n1.Name (z.1, z.2.1, z.2.2.1)) hn ha (by omega) (fun e he hne => elB_has ((hI1.ent e he).resolve_left hne).1) (fun e he => ⟨pool_roK (F := z.2.2.2) hr (hI1.att e he), (hI1.xs e he).len⟩) ⟨pool_roK (F := z.2.2.2) hr hzs, hzx.len⟩ (hO := hO')) ?_
            rintro _ _ w ⟨rfl, rfl⟩ hO
            simp only [List.cons_append, List.nil_append] at hO
            rw [hf0, if_pos rfl] at hO
            rw [hf0]
            obtain ⟨es3, he3⟩ : ∃ es3, es3 = pushE A es1 ⟨(x.1 : Int), tkA n1.Name (z.1, z.2.1, z.2.2.1)⟩ := ⟨_, rfl⟩
            rw [← he3] at hO hI3 hfi hla hl3
            rw [← enm] at hla
            obtain ⟨F3, hF3⟩ : ∃ F3, F3 = z.2.2.2 := ⟨_, rfl⟩
            rw [← hF3] at hO hI3
            refine N4 ?_
            refine l_y rfl rfl (y_move rfl) ?_
            refine l_y rfl rfl (y_move rfl) ?_
            refine l_y rfl rfl (y_move rfl) ?_
            refine CK [.o s] hO rfl (fun k' hx hr hO' => aFind_spec (by omega) (hO := hO')) ?_
            rintro _ _ w ⟨rfl, rfl⟩ hO
            simp only [List.cons_append, List.nil_append] at hO
            rw [hfi]
            refine l_y rfl rfl (y_move rfl) ?_
            refine CK [.o s] hO rfl (fun k' hx hr hO' => aLen_spec (hO := hO')) ?_
            rintro _ _ w ⟨rfl, rfl⟩ hO
            simp only [List.cons_append, List.nil_append] at hO
            refine l_y rfl rfl (D4) ?_
            refine N4 (hp := rfl) ?_
            refine l_y rfl rfl (y_pick_f rfl rfl) ?_
            refine l_y rfl rfl (y_move rfl) ?_
            refine l_y rfl rfl (y_move rfl) ?_
            refine l_y rfl rfl (y_fldb (o' := 2) rfl) ?_
            refine l_y rfl rfl (D5 hO rfl) ?_
            refine CK [.o a, .o s] hO rfl (fun k' hx hr hO' => aLast_spec hn ha (by omega) (fun e he hne => elB_has ((hI3.ent e he).resolve_left hne).1) (hO := hO')) ?_
            rintro _ _ w ⟨rfl, rfl⟩ hO
            simp only [List.cons_append, List.nil_append] at hO
            rw [hla]
            refine l_y rfl rfl (y_move rfl) ?_
            refine N4 (hp := rfl) ?_
            refine l_y rfl rfl (y_pick_f rfl rfl) ?_
            refine K2 (K3 (L9 (K5 (K3 (K0 (K1 ?_))))))
            refine l_y rfl rfl (y_assign rfl) ?_
            refine K2 (K3 (K0 (K0 (K1 ?_))))
            refine l_y rfl rfl (y_move rfl) ?_
            refine CK [.o s] hO rfl (fun k' hx hr hO' => aLen_spec (hO := hO')) ?_
            rintro _ _ w ⟨rfl, rfl⟩ hO
            simp only [List.cons_append, List.nil_append] at hO
            refine l_y rfl rfl (D4) ?_
            refine l_y rfl rfl (y_assign rfl) ?_
            refine K2 (K3 (K4 ?_))
            refine c_rounds (X := Nat × Int) (fun y => [(1, .slice mp ms.length mc), (2, .slice xp xs.length xc), (6, .bool false), (7, .pointer (some ⟨a, 0, none⟩)), (9, .pointer (some ⟨s, 0, none⟩)), (11, .int .i64 (x.1 : Int)), (12, .pointer (some ⟨b12, 0, none⟩)), (14, .pointer (some ⟨b14, 0, none⟩)), (15, .int .i64 y.2), (16, .int .i64 ((y.1 : Int) - 1))]) (fun y w => Own k w [arenaL a A, actL s a es3, blk b12 41 (Api_node.cells n1), blk b14 65 (Api_token.cells (tkA n1.Name (z.1, z.2.1, z.2.2.1))), pool F3] ∧ (y.1 ≤ es3.length) ∧ (0 ≤ y.2 ∧ y.2 + (((bk es3 y.1).countP (fun i => pT A n1.Name z.2.1.length (at_ es3 i)) : Nat) : Int) ≤ 3)) (fun y => y.1) ((es3.length, 0)) ⟨rfl, rfl, rfl, rfl, rfl, rfl, rfl, rfl, rfl, rfl, trivial⟩ ⟨hO.only [.o a, .o s, .b b12, .b b14, .f], Nat.le_refl _, ⟨Int.le_refl _, by dsimp only; rw [cn_bk]; have := hI3.cnt n1.Name z.2.1.length; omega⟩⟩ ?_
            rintro y w m hm ⟨hO, hy, hc⟩
            refine K0 (K0 (K1 ?_))
            refine l_y rfl rfl (y_move rfl) ?_
            refine Z0 (fun h19_1 => ?_) (fun h19_1 => ?_)
            · refine K2 (K3 (L8 (K5 (K3 (K0 (K4 (K0 (K1 ?_))))))))
              refine l_y rfl rfl (y_move rfl) ?_
              refine l_y rfl rfl (y_move rfl) ?_
              obtain ⟨g, hg⟩ : ∃ g, y.1 = g + 1 := ⟨y.1 - 1, by omega⟩
              have eg : (y.1 : Int) - 1 = (g : Int) := by omega
              refine CK [.o s] hO rfl (fun k' hx hr hO' => aAt_spec (by omega) (hO := hO')) ?_
              rintro _ _ w ⟨hv, rfl⟩ hO
              simp only [List.cons_append, List.nil_append] at hO
              obtain ⟨e4, he4⟩ : ∃ e4, at_ es3 g = e4 := ⟨_, rfl⟩
              rcases hv with ⟨hv, rfl⟩ | ⟨_, rfl⟩
              · omega
              rw [eg, show ((g : Nat) : Int).toNat = g from rfl, he4]
              refine l_y rfl rfl (y_move rfl) ?_
              refine l_y rfl rfl (y_extract rfl rfl) ?_
              refine l_y rfl rfl (y_extract rfl rfl) ?_
              refine s_alloc (vs := [.int .i64 0, .int .i64 0, .string ⟨#[]⟩, .string ⟨#[]⟩, .string ⟨#[]⟩, .int .i64 0, .bool false, .int .i32 0, .bool false, .slice none 0 0]) hO rfl rfl rfl fun b17 w hO => ?_
              refine Y3 hO rfl rfl (fun w hO => ?_)
              refine l_y rfl rfl (y_assign rfl) ?_
              refine K2 (K3 (K0 (K0 (K1 ?_))))
              refine l_y rfl rfl (y_fldb (o' := 0) rfl) ?_
              refine l_y rfl rfl (D5 hO rfl) ?_
              refine Z0 (fun h22_2 => ?_) (fun h22_2 => ?_)
              · refine K2 (K3 (L8 (K7 (L1 (L7 (L1 (L1 (L2 (K3 (K0 (K1 ?_)))))))))))
                refine l_y rfl rfl (y_move rfl) ?_
                refine N3 (hp := (by have := hc.1; have := hc.2; omega)) ?_
                refine K2 (K3 (L9 (K5 (K8 (K3 (K1 ?_))))))
                refine l_y rfl rfl (y_move rfl) ?_
                refine l_y rfl rfl (D4) ?_
                refine l_y rfl rfl (y_assign rfl) ?_
                refine K2 ?_
                exact q_next ((x.1 + 1, es3, F3)) ⟨rfl, rfl, rfl, rfl, rfl, rfl, trivial⟩ ⟨hO.only [.o a, .o s, .f], hI3, by dsimp only; omega, ⟨by dsimp only; omega, by dsimp only; omega⟩⟩ (by dsimp only; omega)
              · refine K2 (K3 (L9 (K5 (K3 (K0 (K1 ?_))))))
                refine l_y rfl rfl (y_move rfl) ?_
                refine l_y rfl rfl (y_fldb (o' := 0) rfl) ?_
                refine l_y rfl rfl (D5 hO rfl) ?_
                have hel4 : elB A e4.Node = true := by
                  rcases hI3.ent e4 (he4 ▸ at_mem (by omega)) with h | h
                  · exact absurd h h22_2
                  · exact h.1
                refine CK [.o a] hO rfl (fun k' hx hr hO' => NodeD_spec hn ha (hO := hO')) ?_
                rintro _ _ w ⟨n2, hn2, rfl, rfl⟩ hO
                simp only [List.cons_append, List.nil_append] at hO
                have e5 : n2.Name = (nodeA A e4.Node).Name := hn2.name (elB_has hel4)
                refine l_y rfl rfl (y_move rfl) ?_
                refine l_y rfl rfl (y_extract rfl rfl) ?_
                refine l_y rfl rfl (y_extract rfl rfl) ?_
                refine s_alloc (vs := [.int .i64 0, .int .i64 0, .string ⟨#[]⟩, .slice none 0 0, .string ⟨#[]⟩, .string ⟨#[]⟩, .int .i64 0, .int .i64 0, .int .i64 0, .int .i64 0, .int .i64 0, .int .i64 0]) hO rfl rfl rfl fun b19 w hO => ?_
                refine Y3 hO rfl rfl (fun w hO => ?_)
                refine l_y rfl rfl (y_assign rfl) ?_
                refine K2 (K3 (K0 (K1 ?_)))
                refine l_y rfl rfl (y_fldb (o' := 2) rfl) ?_
                refine l_y rfl rfl (D5 hO rfl) ?_
                refine l_y rfl rfl (y_fldb (o' := 2) rfl) ?_
                refine l_y rfl rfl (D5 hO rfl) ?_
                refine Z2 (fun h24_4 => ?_) (fun h24_4 => ?_)
                · refine l_y rfl rfl (y_move rfl) ?_
                  refine l_y rfl rfl (y_fldb (o' := 1) rfl) ?_
                  refine l_y rfl rfl (y_fldb (o' := 9) rfl) ?_
                  refine l_y rfl rfl (D5 hO rfl) ?_
                  refine l_y rfl rfl (y_lenL rfl) ?_
                  refine l_y rfl rfl (y_fldb (o' := 8) rfl) ?_
                  refine l_y rfl rfl (D5 hO rfl) ?_
                  refine l_y rfl rfl (y_lenL rfl) ?_
                  refine Z0 (fun h24_13 => ?_) (fun h24_13 => ?_)
                  · refine l_y rfl rfl (y_pick_t rfl rfl) ?_
                    refine K2 (K3 (L8 (K1 ?_)))
                    refine l_y rfl rfl (y_move rfl) ?_
                    refine l_y rfl rfl (D4) ?_
                    refine l_y rfl rfl (y_assign rfl) ?_
                    refine K2 (K8 (K3 (K1 ?_)))
                    refine l_y rfl rfl (y_move rfl) ?_
                    refine l_y rfl rfl (D4) ?_
                    refine l_y rfl rfl (y_assign rfl) ?_
                    refine K2 ?_
                    have hc2 : 0 ≤ (y.2 + 1) ∧ (y.2 + 1) + (((bk es3 g).countP (fun i => pT A n1.Name z.2.1.length (at_ es3 i)) : Nat) : Int) ≤ 3 := by
                      have h8 := hc.1
                      have h9 := hc.2
                      rw [hg, bk, he4, if_neg h22_2, List.countP_cons, he4] at h9
                      first
                        | (have h7 : (e4.Token.Attrs.length : Int) = (z.2.1.length : Int) := h24_13
                           have hl9 : e4.Token.Attrs.length = z.2.1.length := by omega
                           have hp : pT A n1.Name z.2.1.length e4 = true := by rw [pT, ← e5, decide_eq_true h24_4, decide_eq_true hl9]; rfl
                           rw [if_pos hp] at h9; omega)
                        | (split at h9 <;> omega)
                    exact q_next ((g, (y.2 + 1))) ⟨rfl, rfl, rfl, rfl, rfl, rfl, rfl, rfl, rfl, rfl, trivial⟩ ⟨hO.only [.o a, .o s, .b b12, .b b14, .f], by dsimp only; omega, hc2⟩ (by dsimp only; omega)
                  · refine l_y rfl rfl (y_pick_t rfl rfl) ?_
                    refine K2 (K3 (L9 (K5 (K8 (K3 (K1 ?_))))))
                    refine l_y rfl rfl (y_move rfl) ?_
                    refine l_y rfl rfl (D4) ?_
                    refine l_y rfl rfl (y_assign rfl) ?_
                    refine K2 ?_
                    have hc2 : 0 ≤ y.2 ∧ y.2 + (((bk es3 g).countP (fun i => pT A n1.Name z.2.1.length (at_ es3 i)) : Nat) : Int) ≤ 3 := by
                      have h8 := hc.1
                      have h9 := hc.2
                      rw [hg, bk, he4, if_neg h22_2, List.countP_cons, he4] at h9
                      first
                        | (have h7 : (e4.Token.Attrs.length : Int) = (z.2.1.length : Int) := h24_13
                           have hl9 : e4.Token.Attrs.length = z.2.1.length := by omega
                           have hp : pT A n1.Name z.2.1.length e4 = true := by rw [pT, ← e5, decide_eq_true h24_4, decide_eq_true hl9]; rfl
                           rw [if_pos hp] at h9; omega)
                        | (split at h9 <;> omega)
                    exact q_next ((g, y.2)) ⟨rfl, rfl, rfl, rfl, rfl, rfl, rfl, rfl, rfl, rfl, trivial⟩ ⟨hO.only [.o a, .o s, .b b12, .b b14, .f], by dsimp only; omega, hc2⟩ (by dsimp only; omega)
                · refine l_y rfl rfl (y_move rfl) ?_
                  repeat refine M2 ?_
                  refine l_y rfl rfl (y_pick_f rfl rfl) ?_
                  refine K2 (K3 (L9 (K5 (K8 (K3 (K1 ?_))))))
                  refine l_y rfl rfl (y_move rfl) ?_
                  refine l_y rfl rfl (D4) ?_
                  refine l_y rfl rfl (y_assign rfl) ?_
                  refine K2 ?_
                  have hc2 : 0 ≤ y.2 ∧ y.2 + (((bk es3 g).countP (fun i => pT A n1.Name z.2.1.length (at_ es3 i)) : Nat) : Int) ≤ 3 := by
                    have h8 := hc.1
                    have h9 := hc.2
                    rw [hg, bk, he4, if_neg h22_2, List.countP_cons, he4] at h9
                    first
                      | (have h7 : (e4.Token.Attrs.length : Int) = (z.2.1.length : Int) := h24_13
                         have hl9 : e4.Token.Attrs.length = z.2.1.length := by omega
                         have hp : pT A n1.Name z.2.1.length e4 = true := by rw [pT, ← e5, decide_eq_true h24_4, decide_eq_true hl9]; rfl
                         rw [if_pos hp] at h9; omega)
                      | (split at h9 <;> omega)
                  exact q_next ((g, y.2)) ⟨rfl, rfl, rfl, rfl, rfl, rfl, rfl, rfl, rfl, rfl, trivial⟩ ⟨hO.only [.o a, .o s, .b b12, .b b14, .f], by dsimp only; omega, hc2⟩ (by dsimp only; omega)
            · refine K2 (K3 (L9 (K7 (L1 (L1 (L2 (K3 (K0 (K1 ?_)))))))))
              refine l_y rfl rfl (y_move rfl) ?_
              refine N3 (hp := (by have := hc.1; have := hc.2; omega)) ?_
              refine K2 (K3 (L9 (K5 (K8 (K3 (K1 ?_))))))
              refine l_y rfl rfl (y_move rfl) ?_
              refine l_y rfl rfl (D4) ?_
              refine l_y rfl rfl (y_assign rfl) ?_
              refine K2 ?_
              exact q_next ((x.1 + 1, es3, F3)) ⟨rfl, rfl, rfl, rfl, rfl, rfl, trivial⟩ ⟨hO.only [.o a, .o s, .f], hI3, by dsimp only; omega, ⟨by dsimp only; omega, by dsimp only; omega⟩⟩ (by dsimp only; omega)
    · refine l_y rfl rfl (y_pick_t rfl rfl) ?_
      refine K2 (K3 (L9 (K7 (L1 (L1 (L2 (K3 (K0 (K1 ?_)))))))))
      refine CK [] hO rfl (fun k' hx hr hO' => awake13_spec (hO := hO')) ?_
      rintro _ _ w ⟨rfl, rfl⟩ hO
      simp only [List.cons_append, List.nil_append] at hO
      refine l_y rfl rfl (y_assign rfl) ?_
      refine K2 (K3 (K6 ?_))
      exact fin1 rfl rfl ⟨_, rfl, hO.only []⟩
  · refine l_y rfl rfl (y_move rfl) ?_
    repeat refine M2 ?_
    refine l_y rfl rfl (y_pick_f rfl rfl) ?_
    refine K2 (K3 (L9 (K7 (L1 (L1 (L2 (K3 (K0 (K1 ?_)))))))))
    refine CK [] hO rfl (fun k' hx hr hO' => awake13_spec (hO := hO')) ?_
    rintro _ _ w ⟨rfl, rfl⟩ hO
    simp only [List.cons_append, List.nil_append] at hO
    refine l_y rfl rfl (y_assign rfl) ?_
    refine K2 (K3 (K6 ?_))
    exact fin1 rfl rfl ⟨_, rfl, hO.only []⟩
end
end Go.Proofs.Ytbhicbpfdbnpfaa
