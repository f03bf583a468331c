/- The walk of the law NodeOrder. -/
import Derived.Test.YtnolpajggmfpdaaOrder1
set_option linter.unusedVariables false
set_option linter.unusedSimpArgs false
set_option maxRecDepth 100000
namespace Go.Proofs.Ytnolpajggmfpdaa
open Go Go.Hb Go.RowKit
theorem CommentE_spec {k : Ctx} {w : World} {a n : Nat} {A : List Node_one} (hl : A.length = n + 1) (hn : n ≤ 1000) (hO : Own k w [arenaL a A]) :
    Tri Try.prog 21 #[.pointer (some ⟨a, 0, none⟩), .string ⟨#[]⟩] k w fun v m => v = .tuple #[.int .i64 ((n : Int) + 1), .int .i64 0] ∧ m = [arenaL a (A ++ [blankN (commentN ⟨#[]⟩)])] := by
  refine (Comment_spec (by omega) (by omega) hO).mono ?_
  rintro v m ⟨rfl, rfl⟩
  have e : addL A (commentN ⟨#[]⟩) [⟨#[]⟩] = ((n : Int) + 1, 0, A ++ [blankN (commentN ⟨#[]⟩)]) := by
    rw [addL, if_neg (by decide), if_neg (by omega), hl]; rfl
  rw [e]; exact ⟨rfl, rfl⟩
theorem ElP_spec {k : Ctx} {w : World} {a n : Nat} {A : List Node_one} (hl : A.length = n + 1) (hn : n ≤ 1000) (hO : Own k w [arenaL a A]) :
    Tri Try.prog 12 #[.pointer (some ⟨a, 0, none⟩), .int .i64 0, .string pS, .slice none 0 0] k w fun v m => ∃ q d, v = .tuple #[.int .i64 ((n : Int) + 1), .int .i64 0] ∧ m = [arenaL a (A ++ [blankN (elementN q d 0 pS [])])] := by
  refine (Element_spec (xs := []) (by omega) (by omega) (Sli.nil rfl) hO).mono ?_
  rintro v m ⟨q, d, rfl, rfl⟩
  have hnt : ¬ tmpl 0 pS := fun h => absurd h.2 (by decide)
  have e : elementL A 0 pS [] q d = ((n : Int) + 1, 0, A ++ [blankN (elementN q d 0 pS [])]) := by
    rw [elementL, if_neg (by omega), if_neg (by simp), if_neg (fun h => hnt h.1), if_neg (by decide), if_neg (by omega), if_neg hnt, hl]; rfl
  rw [e]; exact ⟨q, d, rfl, rfl⟩
theorem KidsT_spec {k : Ctx} {w : World} {a : Nat} {A : List Node_one} {K : Int → List Int} {id : Int} (h : Tree A K) (hi : InA A id) (hl : A.length ≤ 32768) (hO : Own k w [arenaL a A]) :
    Tri Try.prog 22 #[.pointer (some ⟨a, 0, none⟩), .int .i64 id] k w fun v m => ∃ q d, v = .slice q (K id).length d ∧ m = [arenaL a A, sls q d 3 1 (eI .i64) (K id)] := by
  have h1 := h.len hi
  have h2 := hi.1
  have h3 := hi.2
  refine (Kids_spec (xs := K id) (by omega) (by omega) (fun _ => (h.lnk id hi).chain) hO).mono ?_
  rintro v m (⟨h, _⟩ | ⟨_, q, d, rfl, rfl⟩)
  · rw [hi.b] at h; simp at h
  · exact ⟨q, d, rfl, rfl⟩
set_option maxHeartbeats 4000000 in
theorem NodeOrder_spec {k : Ctx} {w : World} {a0 a1 : Int} {b : Bool} (h00 : 0 ≤ a0) (h01 : a0 ≤ 255) (h10 : 0 ≤ a1) (h11 : a1 ≤ 255) (hO : Own k w []) :
    Tri Try.prog 5 #[.int .u8 a0, .int .u8 a1, .bool b] k w fun v m => v = .bool true := by
  refine enter (args := [.int .u8 a0, .int .u8 a1, .bool b]) Try.func5 rfl rfl ?_
  obtain ⟨n, hn⟩ : ∃ n : Nat, a0 % 40 = n := ⟨(a0 % 40).toNat, by omega⟩
  have hn40 : n < 40 := by omega
  refine K0 (K1 ?_)
  refine l_y rfl rfl (y_assign rfl) ?_
  refine K2 (K3 (K0 (K1 ?_)))
  refine CK [] hO rfl (fun k' hx hr hO' => New_spec (hO := hO')) ?_
  rintro _ _ w ⟨a18, rfl, rfl⟩ hO
  simp only [List.cons_append, List.nil_append] at hO
  refine l_y rfl rfl (y_assign rfl) ?_
  refine K2 (K3 (K0 (K0 (K1 ?_))))
  refine l_y rfl rfl (y_move rfl) ?_
  refine l_y rfl rfl (y_eqPnil rfl rfl rfl) ?_
  refine K2 (K3 (L9 (K5 (K3 (K0 (K1 ?_))))))
  refine l_y rfl rfl (y_move rfl) ?_
  refine l_y (v := .int .u8 (n : Int)) rfl rfl (by rw [← hn]; exact y_remN rfl rfl (by omega) (by decide)) ?_
  refine l_y rfl rfl (D7) ?_
  refine l_y rfl rfl (y_assign rfl) ?_
  refine K2 (K3 (K0 (K0 (K1 ?_))))
  refine l_y rfl rfl (y_assign rfl) ?_
  refine K2 (K3 (K4 ?_))
  refine c_rounds (X := Nat × List Node_one × (Int → List Int)) (fun q => [(1, .int .u8 a1), (2, .bool b), (6, .bool false), (7, .pointer (some ⟨a18, 0, none⟩)), (8, .int .i64 (n : Int)), (9, .int .i64 (q.1 : Int))]) (fun q w => Own k w [arenaL a18 q.2.1] ∧ (OrdS q.2.1 q.2.2 q.1) ∧ (q.1 ≤ n)) (fun q => n - q.1) ((0, [docD], fun _ => [])) ⟨rfl, rfl, rfl, rfl, rfl, rfl, trivial⟩ ⟨hO.only [.o a18], OrdS.new, Nat.zero_le _⟩ ?_
  rintro q w m hm ⟨hO, hs, hq⟩
  refine K0 (K0 (K1 ?_))
  refine l_y rfl rfl (y_move rfl) ?_
  refine l_y rfl rfl (y_move rfl) ?_
  refine Z0 (fun h6_2 => ?_) (fun h6_2 => ?_)
  · refine K2 (K3 (L8 (K5 (K3 (K0 (K4 (K0 (K1 ?_))))))))
    refine l_y rfl rfl (y_move rfl) ?_
    refine CK [.o a18] hO rfl (fun k' hx hr hO' => CommentE_spec hs.len (by omega) (hO := hO')) ?_
    rintro _ _ w ⟨rfl, rfl⟩ hO
    refine l_y rfl rfl (y_move rfl) ?_
    refine l_y rfl rfl (y_extract rfl rfl) ?_
    refine l_y rfl rfl (y_extract rfl rfl) ?_
    refine l_y rfl rfl (y_assign rfl) ?_
    refine l_y rfl rfl (y_assign rfl) ?_
    refine K2 (K3 (K0 ?_))
    obtain ⟨h0, KA2, hs2⟩ := hs.step (o := commentN ⟨#[]⟩) ⟨by decide, by decide⟩ (Nat.zero_le _)
    have ht := (hs.more (o := commentN ⟨#[]⟩) (before := -1) ⟨by decide, by decide⟩ (Nat.zero_le _) (.inl rfl)).2.1
    refine K1 ?_
    refine l_y rfl rfl (y_move rfl) ?_
    refine l_y rfl rfl (y_move rfl) ?_
    refine CK [.o a18] hO rfl (fun k' hx hr hO' => LinkC_spec (by simp) ht.rank ht.links (hO := hO')) ?_
    rintro _ _ w ⟨rfl, rfl⟩ hO
    rw [h0]
    refine N4 ?_
    refine l_y rfl rfl (y_move rfl) ?_
    refine l_y rfl rfl (y_move rfl) ?_
    refine l_y rfl rfl (y_move rfl) ?_
    refine l_y rfl rfl (D4) ?_
    refine N4 ?_
    refine l_y rfl rfl (y_pick_f rfl rfl) ?_
    refine K2 (K3 (L9 (K5 (K8 (K3 (K1 ?_))))))
    refine l_y rfl rfl (y_move rfl) ?_
    refine l_y rfl rfl (D4) ?_
    refine l_y rfl rfl (y_assign rfl) ?_
    refine K2 ?_
    exact q_next ((q.1 + 1, _, KA2)) ⟨rfl, rfl, rfl, rfl, rfl, rfl, trivial⟩ ⟨hO.only [.o a18], hs2, by dsimp only; omega⟩ (by dsimp only; omega)
  · refine K2 (K3 (L9 (K7 (L1 (L1 (L2 (K3 (K0 ?_))))))))
    have hqn : q.1 = n := by omega
    refine K1 ?_
    refine l_y rfl rfl (y_move rfl) ?_
    refine CK [.o a18] hO rfl (fun k' hx hr hO' => ElP_spec hs.len (by omega) (hO := hO')) ?_
    rintro _ _ w ⟨q1, d1, rfl, rfl⟩ hO
    refine l_y rfl rfl (y_move rfl) ?_
    refine l_y rfl rfl (y_extract rfl rfl) ?_
    refine l_y rfl rfl (y_extract rfl rfl) ?_
    refine l_y rfl rfl (y_assign rfl) ?_
    refine l_y rfl rfl (y_assign rfl) ?_
    refine K2 (K3 (K0 (K1 ?_)))
    refine l_y rfl rfl (y_assign rfl) ?_
    refine K2 (K3 (K0 (K1 ?_)))
    refine l_y rfl rfl (y_move rfl) ?_
    refine l_y rfl rfl (y_assign rfl) ?_
    refine K2 (K3 (K0 (K0 (K1 ?_))))
    refine l_y rfl rfl (y_move rfl) ?_
    refine Z0 (fun h14_1 => ?_) (fun h14_1 => ?_)
    · refine l_y rfl rfl (y_move rfl) ?_
      refine l_y rfl rfl (y_move rfl) ?_
      refine l_y rfl rfl (y_not rfl rfl) ?_
      refine l_y rfl rfl (y_pick_t rfl rfl) ?_
      refine K2 (K3 ?_)
      refine c_split rfl (fun hc55 => ?_) (fun hc55 => ?_)
      · simp only [Bool.not_eq_true', Bool.not_eq_false'] at hc55
        refine K0 ?_
        have hm0 := Int.emod_nonneg a1 (b := (n : Int)) (by omega)
        have hm1 := Int.emod_lt_of_pos a1 (b := (n : Int)) (by omega)
        refine K1 ?_
        refine l_y rfl rfl (y_move rfl) ?_
        refine l_y rfl rfl (D7) ?_
        refine l_y rfl rfl (y_move rfl) ?_
        refine l_y rfl rfl (y_remN rfl rfl (by omega) (by omega)) ?_
        refine l_y rfl rfl (y_assign rfl) ?_
        refine K2 (K3 (K1 ?_))
        refine l_y rfl rfl (y_move rfl) ?_
        refine l_y rfl rfl (D4) ?_
        refine l_y rfl rfl (y_assign rfl) ?_
        refine K2 (K3 (K0 (K0 ?_)))
        obtain ⟨h0, KA3, KA4, ht3, hl3, hat3, u0, ht4, hk4, u5⟩ := hs.once (o := elementN q1 d1 0 pS []) (before := ((a1 % (n : Int)) + 1)) (place := (a1 % (n : Int))) ⟨show (1 : Int) ≠ 0 by decide, show (1 : Int) ≠ 5 by decide⟩ (Nat.zero_le _) (by omega)
        have ht := (hs.more (o := elementN q1 d1 0 pS []) (before := ((a1 % (n : Int)) + 1)) ⟨show (1 : Int) ≠ 0 by decide, show (1 : Int) ≠ 5 by decide⟩ (Nat.zero_le _) (by omega)).2.1
        have hsl := hs.len
        have hpl0 : 0 ≤ (a1 % (n : Int)) ∧ (a1 % (n : Int)) ≤ n := by omega
        have hA3 : ∀ z, InA (linkL (q.2.1 ++ [blankN (elementN q1 d1 0 pS [])]) 0 ((q.1 : Int) + 1) z).2 0 := fun z => ⟨by decide, by simp only [linkL_len, List.length_append, List.length_cons, List.length_nil]; omega⟩
        refine K1 ?_
        refine l_y rfl rfl (y_move rfl) ?_
        refine l_y rfl rfl (y_move rfl) ?_
        refine l_y rfl rfl (y_move rfl) ?_
        refine CK [.o a18] hO rfl (fun k' hx hr hO' => LinkC_spec (by simp) ht.rank ht.links (hO := hO')) ?_
        rintro _ _ w ⟨rfl, rfl⟩ hO
        rw [h0]
        refine N4 ?_
        refine K2 (K3 (L9 (K5 (K3 (K0 (K1 ?_))))))
        refine l_y rfl rfl (y_move rfl) ?_
        refine CK [.o a18] hO rfl (fun k' hx hr hO' => KidsT_spec ht3 (hA3 _) (by simp only [linkL_len, List.length_append, List.length_cons, List.length_nil]; omega) (hO := hO')) ?_
        rintro _ _ w ⟨q3, d3, rfl, rfl⟩ hO
        simp only [List.cons_append, List.nil_append] at hO
        have hg3 := (sls_fct (p := q3) (hO.ks [.p q3])).2
        refine l_y rfl rfl (y_assign rfl) ?_
        refine K2 (K3 (K0 (K0 (K1 ?_))))
        refine l_y rfl rfl (y_move rfl) ?_
        refine l_y rfl rfl (y_lenL rfl) ?_
        refine l_y rfl rfl (y_move rfl) ?_
        refine l_y rfl rfl (D4) ?_
        refine N4 ?_
        refine l_y rfl rfl (y_move rfl) ?_
        refine l_y rfl rfl (y_move rfl) ?_
        refine l_y rfl rfl (y_move rfl) ?_
        refine l_y rfl rfl (y_idx rfl rfl) ?_
        refine l_y rfl rfl (y_e1 (x0 := 0) hO rfl) ?_
        refine l_y rfl rfl (y_move rfl) ?_
        refine N4 (hp := hat3) ?_
        refine l_y rfl rfl (y_pick_f rfl rfl) ?_
        refine l_y rfl rfl (y_move rfl) ?_
        refine l_y rfl rfl (y_move rfl) ?_
        refine l_y rfl rfl (y_move rfl) ?_
        refine CK [.o a18] hO rfl (fun k' hx hr hO' => UnlinkC_spec (by rw [linkL_len]; simp) ht3.links (hO := hO')) ?_
        rintro _ _ w ⟨rfl, rfl⟩ hO
        rw [u0]
        refine N4 ?_
        refine l_y rfl rfl (y_pick_f rfl rfl) ?_
        refine l_y rfl rfl (y_move rfl) ?_
        refine l_y rfl rfl (y_move rfl) ?_
        refine l_y rfl rfl (y_move rfl) ?_
        refine CK [.o a18] hO rfl (fun k' hx hr hO' => UnlinkC_spec (by rw [unlinkL_len, linkL_len]; simp) ht4.links (hO := hO')) ?_
        rintro _ _ w ⟨rfl, rfl⟩ hO
        rw [u5] at hO ⊢
        refine N4 ?_
        refine l_y rfl rfl (y_pick_f rfl rfl) ?_
        refine K2 (K3 (L9 (K5 (K3 (K0 (K1 ?_))))))
        refine l_y rfl rfl (y_move rfl) ?_
        refine CK [.o a18] hO rfl (fun k' hx hr hO' => KidsT_spec ht4 ((hA3 _).len unlinkL_len) (by simp only [unlinkL_len, linkL_len, List.length_append, List.length_cons, List.length_nil]; omega) (hO := hO')) ?_
        rintro _ _ w ⟨q4, d4, rfl, rfl⟩ hO
        rw [hk4] at hO ⊢
        simp only [List.cons_append, List.nil_append] at hO
        have hg4 := (sls_fct (p := q4) (hO.ks [.p q4])).2
        have hrl : (rowN q.1).length = q.1 := rowN_len
        refine l_y rfl rfl (y_assign rfl) ?_
        refine K2 (K3 (K0 (K0 (K1 ?_))))
        refine l_y rfl rfl (y_assign rfl) ?_
        refine K2 (K3 (K4 ?_))
        refine c_rounds (X := Nat) (fun i => [(6, .bool false), (8, .int .i64 (n : Int)), (16, .slice q4 (rowN q.1).length d4), (17, .int .i64 (i : Int))]) (fun i w => Own k w [sls q4 d4 3 1 (eI .i64) (rowN q.1)] ∧ (True)) (fun i => (rowN q.1).length - i) (0) ⟨rfl, rfl, rfl, rfl, trivial⟩ ⟨hO.only [.p q4], trivial⟩ ?_
        rintro i w m hm ⟨hO, hT0⟩
        refine K0 (K0 (K1 ?_))
        refine l_y rfl rfl (y_move rfl) ?_
        refine l_y rfl rfl (y_move rfl) ?_
        refine l_y rfl rfl (y_lenL rfl) ?_
        refine Z0 (fun h24_3 => ?_) (fun h24_3 => ?_)
        · refine K2 (K3 (L8 (K5 (K3 (K0 (K4 (K0 (K1 ?_))))))))
          refine l_y rfl rfl (y_move rfl) ?_
          refine l_y rfl rfl (y_move rfl) ?_
          refine l_y rfl rfl (y_idx rfl rfl) ?_
          refine l_y rfl rfl (y_e1 (x0 := 0) hO rfl) ?_
          refine l_y rfl rfl (y_move rfl) ?_
          refine l_y rfl rfl (D4) ?_
          refine N4 (hp := (rowN_at (by omega))) ?_
          refine K2 (K3 (L9 (K5 (K8 (K3 (K1 ?_))))))
          refine l_y rfl rfl (y_move rfl) ?_
          refine l_y rfl rfl (D4) ?_
          refine l_y rfl rfl (y_assign rfl) ?_
          refine K2 ?_
          exact q_next (i + 1) ⟨rfl, rfl, rfl, rfl, trivial⟩ ⟨hO.only [.p q4], trivial⟩ (by omega)
        · refine K2 (K3 (L9 (K7 (L1 (L1 (L2 (K3 (K0 (K1 ?_)))))))))
          refine l_y rfl rfl (y_move rfl) ?_
          refine l_y rfl rfl (y_lenL rfl) ?_
          refine l_y rfl rfl (y_move rfl) ?_
          refine N2 ?_
          refine l_y rfl rfl (y_assign rfl) ?_
          refine K2 (K3 (K6 ?_))
          exact fin1 rfl rfl ⟨_, rfl, hO⟩
      · simp only [Bool.not_eq_true', Bool.not_eq_false'] at hc55
        refine K5 (K3 (K0 (K0 ?_)))
        obtain ⟨h0, KA3, KA4, ht3, hl3, hat3, u0, ht4, hk4, u5⟩ := hs.once (o := elementN q1 d1 0 pS []) (before := (-1)) (place := (n : Int)) ⟨show (1 : Int) ≠ 0 by decide, show (1 : Int) ≠ 5 by decide⟩ (Nat.zero_le _) (by omega)
        have ht := (hs.more (o := elementN q1 d1 0 pS []) (before := (-1)) ⟨show (1 : Int) ≠ 0 by decide, show (1 : Int) ≠ 5 by decide⟩ (Nat.zero_le _) (by omega)).2.1
        have hsl := hs.len
        have hpl0 : 0 ≤ (n : Int) ∧ (n : Int) ≤ n := by omega
        have hA3 : ∀ z, InA (linkL (q.2.1 ++ [blankN (elementN q1 d1 0 pS [])]) 0 ((q.1 : Int) + 1) z).2 0 := fun z => ⟨by decide, by simp only [linkL_len, List.length_append, List.length_cons, List.length_nil]; omega⟩
        refine K1 ?_
        refine l_y rfl rfl (y_move rfl) ?_
        refine l_y rfl rfl (y_move rfl) ?_
        refine l_y rfl rfl (y_move rfl) ?_
        refine CK [.o a18] hO rfl (fun k' hx hr hO' => LinkC_spec (by simp) ht.rank ht.links (hO := hO')) ?_
        rintro _ _ w ⟨rfl, rfl⟩ hO
        rw [h0]
        refine N4 ?_
        refine K2 (K3 (L9 (K5 (K3 (K0 (K1 ?_))))))
        refine l_y rfl rfl (y_move rfl) ?_
        refine CK [.o a18] hO rfl (fun k' hx hr hO' => KidsT_spec ht3 (hA3 _) (by simp only [linkL_len, List.length_append, List.length_cons, List.length_nil]; omega) (hO := hO')) ?_
        rintro _ _ w ⟨q3, d3, rfl, rfl⟩ hO
        simp only [List.cons_append, List.nil_append] at hO
        have hg3 := (sls_fct (p := q3) (hO.ks [.p q3])).2
        refine l_y rfl rfl (y_assign rfl) ?_
        refine K2 (K3 (K0 (K0 (K1 ?_))))
        refine l_y rfl rfl (y_move rfl) ?_
        refine l_y rfl rfl (y_lenL rfl) ?_
        refine l_y rfl rfl (y_move rfl) ?_
        refine l_y rfl rfl (D4) ?_
        refine N4 ?_
        refine l_y rfl rfl (y_move rfl) ?_
        refine l_y rfl rfl (y_move rfl) ?_
        refine l_y rfl rfl (y_move rfl) ?_
        refine l_y rfl rfl (y_idx rfl rfl) ?_
        refine l_y rfl rfl (y_e1 (x0 := 0) hO rfl) ?_
        refine l_y rfl rfl (y_move rfl) ?_
        refine N4 (hp := hat3) ?_
        refine l_y rfl rfl (y_pick_f rfl rfl) ?_
        refine l_y rfl rfl (y_move rfl) ?_
        refine l_y rfl rfl (y_move rfl) ?_
        refine l_y rfl rfl (y_move rfl) ?_
        refine CK [.o a18] hO rfl (fun k' hx hr hO' => UnlinkC_spec (by rw [linkL_len]; simp) ht3.links (hO := hO')) ?_
        rintro _ _ w ⟨rfl, rfl⟩ hO
        rw [u0]
        refine N4 ?_
        refine l_y rfl rfl (y_pick_f rfl rfl) ?_
        refine l_y rfl rfl (y_move rfl) ?_
        refine l_y rfl rfl (y_move rfl) ?_
        refine l_y rfl rfl (y_move rfl) ?_
        refine CK [.o a18] hO rfl (fun k' hx hr hO' => UnlinkC_spec (by rw [unlinkL_len, linkL_len]; simp) ht4.links (hO := hO')) ?_
        rintro _ _ w ⟨rfl, rfl⟩ hO
        rw [u5] at hO ⊢
        refine N4 ?_
        refine l_y rfl rfl (y_pick_f rfl rfl) ?_
        refine K2 (K3 (L9 (K5 (K3 (K0 (K1 ?_))))))
        refine l_y rfl rfl (y_move rfl) ?_
        refine CK [.o a18] hO rfl (fun k' hx hr hO' => KidsT_spec ht4 ((hA3 _).len unlinkL_len) (by simp only [unlinkL_len, linkL_len, List.length_append, List.length_cons, List.length_nil]; omega) (hO := hO')) ?_
        rintro _ _ w ⟨q4, d4, rfl, rfl⟩ hO
        rw [hk4] at hO ⊢
        simp only [List.cons_append, List.nil_append] at hO
        have hg4 := (sls_fct (p := q4) (hO.ks [.p q4])).2
        have hrl : (rowN q.1).length = q.1 := rowN_len
        refine l_y rfl rfl (y_assign rfl) ?_
        refine K2 (K3 (K0 (K0 (K1 ?_))))
        refine l_y rfl rfl (y_assign rfl) ?_
        refine K2 (K3 (K4 ?_))
        refine c_rounds (X := Nat) (fun i => [(6, .bool false), (8, .int .i64 (n : Int)), (16, .slice q4 (rowN q.1).length d4), (17, .int .i64 (i : Int))]) (fun i w => Own k w [sls q4 d4 3 1 (eI .i64) (rowN q.1)] ∧ (True)) (fun i => (rowN q.1).length - i) (0) ⟨rfl, rfl, rfl, rfl, trivial⟩ ⟨hO.only [.p q4], trivial⟩ ?_
        rintro i w m hm ⟨hO, hT0⟩
        refine K0 (K0 (K1 ?_))
        refine l_y rfl rfl (y_move rfl) ?_
        refine l_y rfl rfl (y_move rfl) ?_
        refine l_y rfl rfl (y_lenL rfl) ?_
        refine Z0 (fun h24_3 => ?_) (fun h24_3 => ?_)
        · refine K2 (K3 (L8 (K5 (K3 (K0 (K4 (K0 (K1 ?_))))))))
          refine l_y rfl rfl (y_move rfl) ?_
          refine l_y rfl rfl (y_move rfl) ?_
          refine l_y rfl rfl (y_idx rfl rfl) ?_
          refine l_y rfl rfl (y_e1 (x0 := 0) hO rfl) ?_
          refine l_y rfl rfl (y_move rfl) ?_
          refine l_y rfl rfl (D4) ?_
          refine N4 (hp := (rowN_at (by omega))) ?_
          refine K2 (K3 (L9 (K5 (K8 (K3 (K1 ?_))))))
          refine l_y rfl rfl (y_move rfl) ?_
          refine l_y rfl rfl (D4) ?_
          refine l_y rfl rfl (y_assign rfl) ?_
          refine K2 ?_
          exact q_next (i + 1) ⟨rfl, rfl, rfl, rfl, trivial⟩ ⟨hO.only [.p q4], trivial⟩ (by omega)
        · refine K2 (K3 (L9 (K7 (L1 (L1 (L2 (K3 (K0 (K1 ?_)))))))))
          refine l_y rfl rfl (y_move rfl) ?_
          refine l_y rfl rfl (y_lenL rfl) ?_
          refine l_y rfl rfl (y_move rfl) ?_
          refine N2 ?_
          refine l_y rfl rfl (y_assign rfl) ?_
          refine K2 (K3 (K6 ?_))
          exact fin1 rfl rfl ⟨_, rfl, hO⟩
    · refine l_y rfl rfl (y_move rfl) ?_
      repeat refine M2 ?_
      refine l_y rfl rfl (y_pick_f rfl rfl) ?_
      refine K2 (K3 (L9 (K5 (K3 (K0 (K0 ?_))))))
      obtain ⟨h0, KA3, KA4, ht3, hl3, hat3, u0, ht4, hk4, u5⟩ := hs.once (o := elementN q1 d1 0 pS []) (before := (-1)) (place := (n : Int)) ⟨show (1 : Int) ≠ 0 by decide, show (1 : Int) ≠ 5 by decide⟩ (Nat.zero_le _) (by omega)
      have ht := (hs.more (o := elementN q1 d1 0 pS []) (before := (-1)) ⟨show (1 : Int) ≠ 0 by decide, show (1 : Int) ≠ 5 by decide⟩ (Nat.zero_le _) (by omega)).2.1
      have hsl := hs.len
      have hpl0 : 0 ≤ (n : Int) ∧ (n : Int) ≤ n := by omega
      have hA3 : ∀ z, InA (linkL (q.2.1 ++ [blankN (elementN q1 d1 0 pS [])]) 0 ((q.1 : Int) + 1) z).2 0 := fun z => ⟨by decide, by simp only [linkL_len, List.length_append, List.length_cons, List.length_nil]; omega⟩
      refine K1 ?_
      refine l_y rfl rfl (y_move rfl) ?_
      refine l_y rfl rfl (y_move rfl) ?_
      refine l_y rfl rfl (y_move rfl) ?_
      refine CK [.o a18] hO rfl (fun k' hx hr hO' => LinkC_spec (by simp) ht.rank ht.links (hO := hO')) ?_
      rintro _ _ w ⟨rfl, rfl⟩ hO
      rw [h0]
      refine N4 ?_
      refine K2 (K3 (L9 (K5 (K3 (K0 (K1 ?_))))))
      refine l_y rfl rfl (y_move rfl) ?_
      refine CK [.o a18] hO rfl (fun k' hx hr hO' => KidsT_spec ht3 (hA3 _) (by simp only [linkL_len, List.length_append, List.length_cons, List.length_nil]; omega) (hO := hO')) ?_
      rintro _ _ w ⟨q3, d3, rfl, rfl⟩ hO
      simp only [List.cons_append, List.nil_append] at hO
      have hg3 := (sls_fct (p := q3) (hO.ks [.p q3])).2
      refine l_y rfl rfl (y_assign rfl) ?_
      refine K2 (K3 (K0 (K0 (K1 ?_))))
      refine l_y rfl rfl (y_move rfl) ?_
      refine l_y rfl rfl (y_lenL rfl) ?_
      refine l_y rfl rfl (y_move rfl) ?_
      refine l_y rfl rfl (D4) ?_
      refine N4 ?_
      refine l_y rfl rfl (y_move rfl) ?_
      refine l_y rfl rfl (y_move rfl) ?_
      refine l_y rfl rfl (y_move rfl) ?_
      refine l_y rfl rfl (y_idx rfl rfl) ?_
      refine l_y rfl rfl (y_e1 (x0 := 0) hO rfl) ?_
      refine l_y rfl rfl (y_move rfl) ?_
      refine N4 (hp := hat3) ?_
      refine l_y rfl rfl (y_pick_f rfl rfl) ?_
      refine l_y rfl rfl (y_move rfl) ?_
      refine l_y rfl rfl (y_move rfl) ?_
      refine l_y rfl rfl (y_move rfl) ?_
      refine CK [.o a18] hO rfl (fun k' hx hr hO' => UnlinkC_spec (by rw [linkL_len]; simp) ht3.links (hO := hO')) ?_
      rintro _ _ w ⟨rfl, rfl⟩ hO
      rw [u0]
      refine N4 ?_
      refine l_y rfl rfl (y_pick_f rfl rfl) ?_
      refine l_y rfl rfl (y_move rfl) ?_
      refine l_y rfl rfl (y_move rfl) ?_
      refine l_y rfl rfl (y_move rfl) ?_
      refine CK [.o a18] hO rfl (fun k' hx hr hO' => UnlinkC_spec (by rw [unlinkL_len, linkL_len]; simp) ht4.links (hO := hO')) ?_
      rintro _ _ w ⟨rfl, rfl⟩ hO
      rw [u5] at hO ⊢
      refine N4 ?_
      refine l_y rfl rfl (y_pick_f rfl rfl) ?_
      refine K2 (K3 (L9 (K5 (K3 (K0 (K1 ?_))))))
      refine l_y rfl rfl (y_move rfl) ?_
      refine CK [.o a18] hO rfl (fun k' hx hr hO' => KidsT_spec ht4 ((hA3 _).len unlinkL_len) (by simp only [unlinkL_len, linkL_len, List.length_append, List.length_cons, List.length_nil]; omega) (hO := hO')) ?_
      rintro _ _ w ⟨q4, d4, rfl, rfl⟩ hO
      rw [hk4] at hO ⊢
      simp only [List.cons_append, List.nil_append] at hO
      have hg4 := (sls_fct (p := q4) (hO.ks [.p q4])).2
      have hrl : (rowN q.1).length = q.1 := rowN_len
      refine l_y rfl rfl (y_assign rfl) ?_
      refine K2 (K3 (K0 (K0 (K1 ?_))))
      refine l_y rfl rfl (y_assign rfl) ?_
      refine K2 (K3 (K4 ?_))
      refine c_rounds (X := Nat) (fun i => [(6, .bool false), (8, .int .i64 (n : Int)), (16, .slice q4 (rowN q.1).length d4), (17, .int .i64 (i : Int))]) (fun i w => Own k w [sls q4 d4 3 1 (eI .i64) (rowN q.1)] ∧ (True)) (fun i => (rowN q.1).length - i) (0) ⟨rfl, rfl, rfl, rfl, trivial⟩ ⟨hO.only [.p q4], trivial⟩ ?_
      rintro i w m hm ⟨hO, hT0⟩
      refine K0 (K0 (K1 ?_))
      refine l_y rfl rfl (y_move rfl) ?_
      refine l_y rfl rfl (y_move rfl) ?_
      refine l_y rfl rfl (y_lenL rfl) ?_
      refine Z0 (fun h24_3 => ?_) (fun h24_3 => ?_)
      · refine K2 (K3 (L8 (K5 (K3 (K0 (K4 (K0 (K1 ?_))))))))
        refine l_y rfl rfl (y_move rfl) ?_
        refine l_y rfl rfl (y_move rfl) ?_
        refine l_y rfl rfl (y_idx rfl rfl) ?_
        refine l_y rfl rfl (y_e1 (x0 := 0) hO rfl) ?_
        refine l_y rfl rfl (y_move rfl) ?_
        refine l_y rfl rfl (D4) ?_
        refine N4 (hp := (rowN_at (by omega))) ?_
        refine K2 (K3 (L9 (K5 (K8 (K3 (K1 ?_))))))
        refine l_y rfl rfl (y_move rfl) ?_
        refine l_y rfl rfl (D4) ?_
        refine l_y rfl rfl (y_assign rfl) ?_
        refine K2 ?_
        exact q_next (i + 1) ⟨rfl, rfl, rfl, rfl, trivial⟩ ⟨hO.only [.p q4], trivial⟩ (by omega)
      · refine K2 (K3 (L9 (K7 (L1 (L1 (L2 (K3 (K0 (K1 ?_)))))))))
        refine l_y rfl rfl (y_move rfl) ?_
        refine l_y rfl rfl (y_lenL rfl) ?_
        refine l_y rfl rfl (y_move rfl) ?_
        refine N2 ?_
        refine l_y rfl rfl (y_assign rfl) ?_
        refine K2 (K3 (K6 ?_))
        exact fin1 rfl rfl ⟨_, rfl, hO⟩
end Go.Proofs.Ytnolpajggmfpdaa
