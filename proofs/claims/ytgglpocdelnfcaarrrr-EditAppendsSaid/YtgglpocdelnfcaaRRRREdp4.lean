/- The walk of the law EditAppends; no condition. -/
import Derived.Test.YtgglpocdelnfcaaRRRREdp3
set_option linter.unusedVariables false
set_option linter.unusedSimpArgs false
set_option maxRecDepth 100000
namespace Go.Proofs.YtgglpocdelnfcaaRRRR
open Go Go.Hb Go.RowKit
def nmL : List ByteArray := [⟨#[100, 105, 118]⟩, ⟨#[66]⟩, ⟨#[]⟩, ⟨#[120, 49]⟩, ⟨#[83, 112, 97, 110]⟩, ⟨#[]⟩]
def nmAt (z : Int) : ByteArray := at_ nmL (z % 6).toNat
def nsF (xs : List Int) (i : Nat) : List ByteArray := (xs.take i).map nmAt
theorem first_ok {s : ByteArray} (h : (((tl (smallT s))[0]?).isSome && (decide (97 ≤ (((tl (smallT s))[0]?).getD 0).toNat) && decide ((((tl (smallT s))[0]?).getD 0).toNat ≤ 122))) = true) : ∃ c, (tl (smallT s))[0]? = some c ∧ 97 ≤ c.toNat ∧ c.toNat ≤ 122 := by
  rw [Bool.and_eq_true, Bool.and_eq_true] at h
  obtain ⟨h1, h2, h3⟩ := h
  obtain ⟨c, hc⟩ := Option.isSome_iff_exists.1 h1
  rw [hc] at h2 h3
  exact ⟨c, hc, of_decide_eq_true h2, of_decide_eq_true h3⟩
theorem tag_html : TagOk ⟨#[72, 84, 77, 76]⟩ := ⟨by decide, first_ok (by decide), by decide, by decide⟩
theorem tag_nm {nm : ByteArray} (h : nm ∈ nmL) (h0 : ¬ nm = ⟨#[]⟩) : TagOk nm := by
  simp only [nmL, List.mem_cons, List.not_mem_nil, or_false] at h
  rcases h with rfl | rfl | rfl | rfl | rfl | rfl
  · exact ⟨by decide, first_ok (by decide), by decide, by decide⟩
  · exact ⟨by decide, first_ok (by decide), by decide, by decide⟩
  · exact absurd rfl h0
  · exact ⟨by decide, first_ok (by decide), by decide, by decide⟩
  · exact ⟨by decide, first_ok (by decide), by decide, by decide⟩
  · exact absurd rfl h0
def OkN (n : Api_node) (nm : ByteArray) : Prop := (nm = ⟨#[]⟩ → n.Data = ⟨#[116]⟩) ∧ (¬ nm = ⟨#[]⟩ → n.Kind = 1 ∧ n.Name = smallT nm)
def idsF (n : Nat) : List Int := (List.range n).map fun (i : Nat) => ((i : Nat) : Int) + 2
theorem idsF_len (n : Nat) : (idsF n).length = n := by simp [idsF]
theorem idsF_at {n i : Nat} (h : i < n) : at_ (idsF n) i = (i : Int) + 2 := at_eq (by simp [idsF, h])
theorem core_name2 {o p : Node_one} (h : coreN o = coreN p) : o.Node.Name = p.Node.Name := by
  have := congrArg (fun z : Node_one => z.Node.Name) h; simpa [coreN] using this
theorem core_data2 {o p : Node_one} (h : coreN o = coreN p) : o.Node.Data = p.Node.Data := by
  have := congrArg (fun z : Node_one => z.Node.Data) h; simpa [coreN] using this
structure AppS (A : List Node_one) (K : Int → List Int) (ns : List ByteArray) : Prop where
  tree : Tree A K
  len : A.length = ns.length + 2
  kid : K 1 = idsF ns.length
  root : (nodeA A 1).Kind = 1
  el : ∀ j : Nat, j < ns.length → OkN (nodeA A ((j : Int) + 2)) (at_ ns j)
theorem AppS.new (q : Option Addr) (d : Nat) (nm : ByteArray) : AppS (linkL ([docD] ++ [blankN (elementN q d 0 nm [])]) 0 (([docD] : List Node_one).length : Int) (-1)).2 (linkK (addK [docD] fun _ => []) 0 (([docD] : List Node_one).length : Int) (-1)) [] := by
  obtain ⟨_, h⟩ := behind_go (up := 0) Tree.new (n := elementN q d 0 nm []) ⟨by show (1 : Int) ≠ 0; decide, by show (1 : Int) ≠ 5; decide⟩ (Nat.zero_le _) ⟨by decide, by simp⟩ rfl
  refine ⟨h.tree, h.len, ?_, ?_, fun j hj => by simp at hj⟩
  · rw [linkK, if_neg (by decide)]; simp [addK, idsF]
  · have := core_kind h.node; exact this
theorem AppS.step {A : List Node_one} {K : Int → List Int} {ns : List ByteArray} (s : AppS A K ns) {n : Api_node} {nm : ByteArray} (hk : n.Kind ≠ 0 ∧ n.Kind ≠ 5) (ha : n.Attrs.length ≤ 1024) (hn : OkN n nm) :
    AppS (linkL (A ++ [blankN n]) 1 A.length (-1)).2 (linkK (addK A K) 1 A.length (-1)) (ns ++ [nm]) := by
  have hl := s.len
  have i1 : InA A 1 := ⟨by decide, by omega⟩
  obtain ⟨_, h⟩ := behind_go s.tree hk ha i1 (by rw [s.root]; rfl)
  refine ⟨h.tree, by rw [h.len, hl]; simp, ?_, ?_, ?_⟩
  · rw [h.kid, s.kid, hl]
    simp [idsF, List.range_succ]
  · exact (core_kind (h.same 1 i1)).trans s.root
  · intro j hj
    simp only [List.length_append, List.length_cons, List.length_nil] at hj
    by_cases c : j = ns.length
    · have e : (j : Int) + 2 = (A.length : Int) := by rw [hl, c]; omega
      rw [e, c, at_app_new]
      have := h.node
      exact ⟨fun h0 => (core_data2 this).trans (hn.1 h0), fun h0 => ⟨(core_kind this).trans (hn.2 h0).1, (core_name2 this).trans (hn.2 h0).2⟩⟩
    · have hi : InA A ((j : Int) + 2) := ⟨by omega, by omega⟩
      have := h.same _ hi
      have g := s.el j (by omega)
      rw [at_app_l (by omega)]
      exact ⟨fun h0 => (core_data2 this).trans (g.1 h0), fun h0 => ⟨(core_kind this).trans (g.2 h0).1, (core_name2 this).trans (g.2 h0).2⟩⟩
section
variable {k : Ctx} {w : World}
set_option maxHeartbeats 2000000 in
theorem EditAppends_spec {p : Option Addr} {c : Nat} {xs : List Int} (hs : Sli (Ro k) (.slice p xs.length c) (xs.map (eI .u8))) (hb : ∀ x ∈ xs, 0 ≤ x ∧ x ≤ 255) (hO : Own k w []) :
    Tri Try.prog 4 #[.slice p xs.length c] k w fun v m => v = .bool true := by
  refine enter (args := [.slice p xs.length c]) Try.func4 rfl rfl ?_
  have hgs := sli_gs hs
  refine K0 (K1 ?_)
  refine l_y rfl rfl (y_assign rfl) ?_
  refine K2 (K3 (K0 (K1 ?_)))
  refine CK [] hO rfl (fun k' hx hr hO' => New_spec (hO := hO')) ?_
  rintro _ _ w ⟨a15, rfl, rfl⟩ hO
  simp only [List.cons_append, List.nil_append] at hO
  refine l_y rfl rfl (y_assign rfl) ?_
  refine K2 (K3 (K0 (K0 (K1 ?_))))
  refine l_y rfl rfl (y_move rfl) ?_
  refine l_y rfl rfl (y_eqPnil rfl rfl rfl) ?_
  refine K2 (K3 (L9 (K5 (K3 (K0 (K1 ?_))))))
  refine l_y rfl rfl (y_move rfl) ?_
  refine CK [.o a15] hO rfl (fun k' hx hr hO' => AddElement_spec (A := [docD]) (K := fun _ => []) Tree.new (by simp) ⟨by decide, by simp⟩ ⟨by decide, by simp⟩ (.inr ⟨rfl, rfl⟩) tag_html (hO := hO')) ?_
  rintro _ _ w ⟨rfl, q0, d0, rfl⟩ hO
  simp only [List.cons_append, List.nil_append] at hO
  have t0 := AppS.new q0 d0 (smallT ⟨#[72, 84, 77, 76]⟩)
  refine l_y rfl rfl (y_move rfl) ?_
  refine l_y rfl rfl (y_extract rfl rfl) ?_
  refine l_y rfl rfl (y_extract rfl rfl) ?_
  refine l_y rfl rfl (y_assign rfl) ?_
  refine l_y rfl rfl (y_assign rfl) ?_
  refine K2 (K3 (K0 (K0 (K1 ?_))))
  refine l_y rfl rfl (y_move rfl) ?_
  refine N4 (hp := rfl) ?_
  refine K2 (K3 (L9 (K5 (K3 (K0 (K1 ?_))))))
  refine s_lit (parts := [(0, .const (.string ⟨#[100, 105, 118]⟩)), (1, .const (.string ⟨#[66]⟩)), (2, .const (.string ⟨#[]⟩)), (3, .const (.string ⟨#[120, 49]⟩)), (4, .const (.string ⟨#[83, 112, 97, 110]⟩)), (5, .const (.string ⟨#[]⟩))]) (enc := eS) [⟨#[100, 105, 118]⟩, ⟨#[66]⟩, ⟨#[]⟩, ⟨#[120, 49]⟩, ⟨#[83, 112, 97, 110]⟩, ⟨#[]⟩] [.string ⟨#[100, 105, 118]⟩, .string ⟨#[66]⟩, .string ⟨#[]⟩, .string ⟨#[120, 49]⟩, .string ⟨#[83, 112, 97, 110]⟩, .string ⟨#[]⟩] hO rfl (fun b25 w hO => ?_)
  refine l_y rfl rfl (y_assign rfl) ?_
  refine K2 (K3 (K0 (K1 ?_)))
  refine l_y rfl rfl (y_move rfl) ?_
  refine l_y rfl rfl (y_lenL rfl) ?_
  refine l_y rfl rfl (y_min rfl rfl) ?_
  refine l_y rfl rfl (y_assign rfl) ?_
  refine K2 (K3 (K0 (K0 (K1 ?_))))
  refine l_y rfl rfl (y_assign rfl) ?_
  refine K2 (K3 (K4 ?_))
  refine c_rounds (X := Nat × List Node_one × (Int → List Int)) (fun x => [(0, .slice p xs.length c), (2, .bool false), (3, .pointer (some ⟨a15, 0, none⟩)), (4, .int .i64 1), (6, .slice (some ⟨b25, 0, none⟩) 6 6), (7, .int .i64 (min (((xs.length : Nat) : Int)) (100))), (8, .int .i64 (x.1 : Int))]) (fun x w => Own k w [arenaL a15 x.2.1, sls (some ⟨b25, 0, none⟩) 6 9 1 eS nmL] ∧ (x.1 ≤ xs.length ∧ x.1 ≤ 100) ∧ (AppS x.2.1 x.2.2 (nsF xs x.1))) (fun x => 100 - x.1) ((0, _, _)) ⟨rfl, rfl, rfl, rfl, rfl, rfl, rfl, trivial⟩ ⟨hO.only [.o a15, .p (some ⟨b25, 0, none⟩)], ⟨Nat.zero_le _, Nat.zero_le _⟩, t0⟩ ?_
  rintro x w m hm ⟨hO, hi, t⟩
  refine K0 (K0 (K1 ?_))
  refine l_y rfl rfl (y_move rfl) ?_
  refine l_y rfl rfl (y_move rfl) ?_
  refine Z0 (fun h10_2 => ?_) (fun h10_2 => ?_)
  · refine K2 (K3 (L8 (K5 (K3 (K0 (K4 (K0 ?_)))))))
    have htl := t.len
    have hnl : (nsF xs x.1).length = x.1 := by simp [nsF]; omega
    obtain ⟨z, hz⟩ : ∃ z, z = at_ xs ((x.1 : Int)).toNat := ⟨_, rfl⟩
    have hzb : 0 ≤ z ∧ z ≤ 255 := by rw [hz]; exact hb _ (at_mem (by omega))
    obtain ⟨m0, hm0⟩ : ∃ m0 : Nat, z % 6 = (m0 : Int) := ⟨(z % 6).toNat, by omega⟩
    have hm6 : m0 < 6 := by omega
    obtain ⟨nm, hnm⟩ : ∃ nm, nm = at_ nmL ((m0 : Int)).toNat := ⟨_, rfl⟩
    have hnl2 : nm ∈ nmL := by rw [hnm]; exact at_mem (by show m0 < 6; exact hm6)
    have hnA : nmAt z = nm := by rw [nmAt, hm0, hnm]
    have hns : nsF xs (x.1 + 1) = nsF xs x.1 ++ [nm] := by
      rw [nsF, take_succ_at (by omega), List.map_append, ← hnA, hz]; rfl
    have hlg : Gs (some ⟨b25, 0, none⟩) 6 := Gs.some _ _ _
    have i0 : InA x.2.1 0 := ⟨by decide, by omega⟩
    have i1 : InA x.2.1 1 := ⟨by decide, by omega⟩
    refine K1 ?_
    refine l_y rfl rfl (y_move rfl) ?_
    refine l_y rfl rfl (y_move rfl) ?_
    refine l_y rfl rfl (y_move rfl) ?_
    refine l_y rfl rfl (y_idx rfl rfl) ?_
    refine l_y rfl rfl (y_r1 (x0 := 0) (enc := (eI .u8)) (xs := xs) hO rfl) ?_
    rw [← hz]
    refine l_y rfl rfl (D7) ?_
    refine l_y rfl rfl (y_remN rfl rfl hzb.1 (by decide)) ?_
    rw [hm0]
    refine l_y rfl rfl (y_idx rfl rfl) ?_
    refine l_y rfl rfl (y_e1 (x0 := 0) hO rfl (hi := by show m0 < 6; exact hm6)) ?_
    rw [← hnm]
    refine l_y rfl rfl (y_assign rfl) ?_
    refine K2 (K3 (K0 (K0 (K1 ?_))))
    refine l_y rfl rfl (y_move rfl) ?_
    refine Z2 (fun h13_1 => ?_) (fun h13_1 => ?_)
    · refine K2 (K3 (L8 (K1 ?_)))
      refine l_y rfl rfl (y_move rfl) ?_
      refine l_y rfl rfl (y_move rfl) ?_
      refine CK [.o a15] hO rfl (fun k' hx hr hO' => AddText_spec t.tree (by omega) i1 t.root (by decide) (hO := hO')) ?_
      rintro _ _ w ⟨rfl, rfl⟩ hO
      simp only [List.cons_append, List.nil_append] at hO
      have t9 := t.step (n := textN ⟨#[116]⟩) (nm := nm) ⟨by show (2 : Int) ≠ 0; decide, by show (2 : Int) ≠ 5; decide⟩ (Nat.zero_le _) ⟨fun _ => rfl, fun h => absurd h13_1 h⟩
      rw [← hns] at t9
      refine l_y rfl rfl (y_move rfl) ?_
      refine l_y rfl rfl (y_extract rfl rfl) ?_
      refine l_y rfl rfl (y_extract rfl rfl) ?_
      refine l_y rfl rfl (y_assign rfl) ?_
      refine K2 (K3 (K0 (K1 ?_)))
      refine l_y rfl rfl (y_move rfl) ?_
      refine N4 (hp := rfl) ?_
      refine K2 (K3 (L9 (K5 (K8 (K3 (K1 ?_))))))
      refine l_y rfl rfl (y_move rfl) ?_
      refine l_y rfl rfl (D4) ?_
      refine l_y rfl rfl (y_assign rfl) ?_
      refine K2 ?_
      exact q_next (x.1 + 1, _, _) ⟨rfl, rfl, rfl, rfl, rfl, rfl, rfl, trivial⟩ ⟨hO.only [.o a15, .p (some ⟨b25, 0, none⟩)], by constructor <;> dsimp only <;> omega, t9⟩ (by dsimp only; omega)
    · refine K2 (K3 (L9 (K1 ?_)))
      refine l_y rfl rfl (y_move rfl) ?_
      refine l_y rfl rfl (y_move rfl) ?_
      refine l_y rfl rfl (y_move rfl) ?_
      refine CK [.o a15] hO rfl (fun k' hx hr hO' => AddElement_spec t.tree (by omega) i0 i1 (.inl t.root) (tag_nm hnl2 h13_1) (hO := hO')) ?_
      rintro _ _ w ⟨rfl, q1, d1, rfl⟩ hO
      simp only [List.cons_append, List.nil_append] at hO
      have t9 := t.step (n := elementN q1 d1 0 (smallT nm) []) (nm := nm) ⟨by show (1 : Int) ≠ 0; decide, by show (1 : Int) ≠ 5; decide⟩ (Nat.zero_le _) ⟨fun h => absurd h h13_1, fun _ => ⟨rfl, rfl⟩⟩
      rw [← hns] at t9
      refine l_y rfl rfl (y_move rfl) ?_
      refine l_y rfl rfl (y_extract rfl rfl) ?_
      refine l_y rfl rfl (y_extract rfl rfl) ?_
      refine l_y rfl rfl (y_assign rfl) ?_
      refine K2 (K3 (K0 (K1 ?_)))
      refine l_y rfl rfl (y_move rfl) ?_
      refine N4 (hp := rfl) ?_
      refine K2 (K3 (L9 (K5 (K8 (K3 (K1 ?_))))))
      refine l_y rfl rfl (y_move rfl) ?_
      refine l_y rfl rfl (D4) ?_
      refine l_y rfl rfl (y_assign rfl) ?_
      refine K2 ?_
      exact q_next (x.1 + 1, _, _) ⟨rfl, rfl, rfl, rfl, rfl, rfl, rfl, trivial⟩ ⟨hO.only [.o a15, .p (some ⟨b25, 0, none⟩)], by constructor <;> dsimp only <;> omega, t9⟩ (by dsimp only; omega)
  · refine K2 (K3 (L9 (K7 (L1 (L1 (L2 (K3 (K0 ?_))))))))
    have htl := t.len
    have hnl : (nsF xs x.1).length = x.1 := by simp [nsF]; omega
    have hkl : (x.2.2 1).length = x.1 := by rw [t.kid, idsF_len, hnl]
    refine K1 ?_
    refine l_y rfl rfl (y_move rfl) ?_
    refine l_y rfl rfl (y_move rfl) ?_
    refine CK [.o a15] hO rfl (fun k' hx hr hO' => KidsT_spec t.tree (id := 1) ⟨by decide, by omega⟩ (by omega) (hO := hO')) ?_
    rintro _ _ w ⟨q3, d3, rfl, rfl⟩ hO
    simp only [List.cons_append, List.nil_append] at hO
    have hg3 := (sls_fct (p := q3) hO).2
    refine l_y rfl rfl (y_assign rfl) ?_
    refine K2 (K3 (K0 (K0 (K1 ?_))))
    refine l_y rfl rfl (y_move rfl) ?_
    refine l_y rfl rfl (y_lenL rfl) ?_
    refine l_y rfl rfl (y_move rfl) ?_
    refine N4 (hp := (by omega)) ?_
    refine K2 (K3 (L9 (K5 (K3 (K0 (K0 (K1 ?_)))))))
    refine l_y rfl rfl (y_assign rfl) ?_
    refine K2 (K3 (K4 ?_))
    refine c_rounds (X := Nat) (fun i => [(0, .slice p xs.length c), (2, .bool false), (3, .pointer (some ⟨a15, 0, none⟩)), (6, .slice (some ⟨b25, 0, none⟩) 6 6), (7, .int .i64 (min (((xs.length : Nat) : Int)) (100))), (10, .slice q3 (x.2.2 1).length d3), (11, .int .i64 (i : Int))]) (fun i w => Own k w [arenaL a15 x.2.1, sls (some ⟨b25, 0, none⟩) 6 9 1 eS nmL, sls q3 d3 3 1 (eI .i64) (x.2.2 1)] ∧ (i ≤ x.1)) (fun i => x.1 - i) (0) ⟨rfl, rfl, rfl, rfl, rfl, rfl, rfl, trivial⟩ ⟨hO.only [.o a15, .p (some ⟨b25, 0, none⟩), .p q3], Nat.zero_le _⟩ ?_
    rintro i w m hm ⟨hO, hj⟩
    refine K0 (K0 (K1 ?_))
    refine l_y rfl rfl (y_move rfl) ?_
    refine l_y rfl rfl (y_move rfl) ?_
    refine Z0 (fun h22_2 => ?_) (fun h22_2 => ?_)
    · refine K2 (K3 (L8 (K5 (K3 (K0 (K4 (K0 ?_)))))))
      have hid : at_ (x.2.2 1) ((i : Int)).toNat = (i : Int) + 2 := by rw [t.kid, hnl, Int.toNat_natCast]; exact idsF_at (by omega)
      obtain ⟨z, hz⟩ : ∃ z, z = at_ xs ((i : Int)).toNat := ⟨_, rfl⟩
      have hzb : 0 ≤ z ∧ z ≤ 255 := by rw [hz]; exact hb _ (at_mem (by omega))
      obtain ⟨m0, hm0⟩ : ∃ m0 : Nat, z % 6 = (m0 : Int) := ⟨(z % 6).toNat, by omega⟩
      have hm6 : m0 < 6 := by omega
      obtain ⟨nm, hnm⟩ : ∃ nm, nm = at_ nmL ((m0 : Int)).toNat := ⟨_, rfl⟩
      have hnA : nmAt z = nm := by rw [nmAt, hm0, hnm]
      have hnsz : nm.size ≤ 100 := by
        have : nm ∈ nmL := by rw [hnm]; exact at_mem (by show m0 < 6; exact hm6)
        simp only [nmL, List.mem_cons, List.not_mem_nil, or_false] at this
        rcases this with h | h | h | h | h | h <;> rw [h] <;> decide
      have hok : OkN (nodeA x.2.1 ((i : Int) + 2)) nm := by
        have h := t.el i (by omega)
        rw [show at_ (nsF xs x.1) i = nm by rw [nsF, ← hnA, hz]; exact at_eq (by rw [List.getElem?_map, List.getElem?_take_of_lt (by omega), at_get (by omega)]; rfl)] at h
        exact h
      have hlg : Gs (some ⟨b25, 0, none⟩) 6 := Gs.some _ _ _
      refine K1 ?_
      refine l_y rfl rfl (y_move rfl) ?_
      refine l_y rfl rfl (y_move rfl) ?_
      refine l_y rfl rfl (y_move rfl) ?_
      refine l_y rfl rfl (y_idx rfl rfl) ?_
      refine l_y rfl rfl (y_e1 (x0 := 0) hO rfl) ?_
      rw [hid]
      refine CK [.o a15] hO rfl (fun k' hx hr hO' => NodeI_spec (id := (i : Int) + 2) ⟨by omega, by omega⟩ t.tree.attrs (hO := hO')) ?_
      rintro _ _ w ⟨n, hN, rfl, rfl⟩ hO
      simp only [List.cons_append, List.nil_append] at hO
      have hok2 : OkN n nm := ⟨fun h => hN.data.trans (hok.1 h), fun h => ⟨hN.kind.trans (hok.2 h).1, hN.name.trans (hok.2 h).2⟩⟩
      refine l_y rfl rfl (y_move rfl) ?_
      refine l_y rfl rfl (y_extract rfl rfl) ?_
      refine l_y rfl rfl (y_extract rfl rfl) ?_
      refine s_alloc (vs := [.int .i64 0, .int .i64 0, .string ⟨#[]⟩, .slice none 0 0, .string ⟨#[]⟩, .string ⟨#[]⟩, .int .i64 0, .int .i64 0, .int .i64 0, .int .i64 0, .int .i64 0, .int .i64 0]) hO rfl rfl rfl fun b12 w hO => ?_
      refine Y3 hO rfl rfl (fun w hO => ?_)
      refine l_y rfl rfl (y_assign rfl) ?_
      refine K2 (K3 (K0 (K1 ?_)))
      refine l_y rfl rfl (y_move rfl) ?_
      refine l_y rfl rfl (y_move rfl) ?_
      refine l_y rfl rfl (y_move rfl) ?_
      refine l_y rfl rfl (y_idx rfl rfl) ?_
      refine l_y rfl rfl (y_r1 (x0 := 0) (enc := (eI .u8)) (xs := xs) hO rfl) ?_
      rw [← hz]
      refine l_y rfl rfl (D7) ?_
      refine l_y rfl rfl (y_remN rfl rfl hzb.1 (by decide)) ?_
      rw [hm0]
      refine l_y rfl rfl (y_idx rfl rfl) ?_
      refine l_y rfl rfl (y_e1 (x0 := 0) hO rfl (hi := by show m0 < 6; exact hm6)) ?_
      rw [← hnm]
      refine l_y rfl rfl (y_assign rfl) ?_
      refine K2 (K3 (K0 ?_))
      refine da_region (by intro c a d v w h; cases d <;> exact h) ?_
      have hO := hO.drew
      refine da_phase _ [] (SO.ks [.b b12] hO) ?_
      refine dx_u 0 (by kernel_rfl) rfl rfl rfl (fun w => y_move rfl) ?_
      refine dx_u 1 (by kernel_rfl) rfl rfl rfl (fun w => y_eqS rfl rfl rfl) ?_
      refine dx_u 2 (by kernel_rfl) rfl rfl rfl (fun w => y_move rfl) ?_
      refine dx_split 92 rfl (fun hg92 => ?_) (fun hg92 => ?_)
      · have h26_1 := of_decide_eq_true hg92
        refine dx_u 3 (by kernel_rfl) rfl rfl rfl (fun w => y_fldb (o' := 4) rfl) ?_
        refine dx_y 4 (by kernel_rfl) rfl rfl rfl (fun w ⟨m, hw⟩ => D5 hw rfl) ?_
        refine dx_u 5 (by kernel_rfl) rfl rfl rfl (fun w => y_neS rfl rfl rfl) ?_
        refine dx_u 6 (by kernel_rfl) rfl rfl rfl (fun w => y_pick_t rfl rfl) ?_
        refine dx_u 7 (by kernel_rfl) rfl rfl rfl (fun w => y_move rfl) ?_
        refine dx_split 97 rfl (fun hg97 => ?_) (fun hg97 => ?_)
        · refine dx_pass 8 (by kernel_rfl) rfl rfl rfl ?_
          refine dx_pass 9 (by kernel_rfl) rfl rfl rfl ?_
          refine dx_pass 10 (by kernel_rfl) rfl rfl rfl ?_
          refine dx_pass 11 (by kernel_rfl) rfl rfl rfl ?_
          refine dx_pass 12 (by kernel_rfl) rfl rfl rfl ?_
          refine dx_pass 13 (by kernel_rfl) rfl rfl rfl ?_
          refine dx_pass 14 (by kernel_rfl) rfl rfl rfl ?_
          refine dx_pass 15 (by kernel_rfl) rfl rfl rfl ?_
          refine dx_pass 16 (by kernel_rfl) rfl rfl rfl ?_
          refine dx_pass 17 (by kernel_rfl) rfl rfl rfl ?_
          refine dx_pass 18 (by kernel_rfl) rfl rfl rfl ?_
          refine dx_pass 19 (by kernel_rfl) rfl rfl rfl ?_
          refine dx_pass 20 (by kernel_rfl) rfl rfl rfl ?_
          refine dx_pass 21 (by kernel_rfl) rfl rfl rfl ?_
          refine dx_u 22 (by kernel_rfl) rfl rfl rfl (fun w => y_pick_t rfl rfl) ?_
          refine dx_end (by kernel_rfl) ?_
          refine K3 (L8 (K0 (K1 ?_)))
          refine l_y rfl rfl (y_assign rfl) ?_
          refine K2 (K3 (K6 (L0 (K9 (K9 (L0 (K9 ?_)))))))
          exfalso
          simp_all [OkN]
        · refine dx_u 8 (by kernel_rfl) rfl rfl rfl (fun w => y_move rfl) ?_
          refine dx_u 9 (by kernel_rfl) rfl rfl rfl (fun w => y_neS rfl rfl rfl) ?_
          refine dx_u 10 (by kernel_rfl) rfl rfl rfl (fun w => y_move rfl) ?_
          refine dx_split 100 rfl (fun hg100 => ?_) (fun hg100 => ?_)
          · have h26_9 := ndt hg100
            refine dx_u 11 (by kernel_rfl) rfl rfl rfl (fun w => y_fldb (o' := 0) rfl) ?_
            refine dx_y 12 (by kernel_rfl) rfl rfl rfl (fun w ⟨m, hw⟩ => D5 hw rfl) ?_
            refine dx_u 13 (by kernel_rfl) rfl rfl rfl (fun w => y_cmpI rfl rfl rfl) ?_
            refine dx_u 14 (by kernel_rfl) rfl rfl rfl (fun w => y_move rfl) ?_
            refine dx_split 104 rfl (fun hg104 => ?_) (fun hg104 => ?_)
            · have h26_13 := ndt hg104
              refine dx_pass 15 (by kernel_rfl) rfl rfl rfl ?_
              refine dx_pass 16 (by kernel_rfl) rfl rfl rfl ?_
              refine dx_pass 17 (by kernel_rfl) rfl rfl rfl ?_
              refine dx_pass 18 (by kernel_rfl) rfl rfl rfl ?_
              refine dx_pass 19 (by kernel_rfl) rfl rfl rfl ?_
              refine dx_u 20 (by kernel_rfl) rfl rfl rfl (fun w => y_pick_t rfl rfl) ?_
              refine dx_u 21 (by kernel_rfl) rfl rfl rfl (fun w => y_pick_t rfl rfl) ?_
              refine dx_u 22 (by kernel_rfl) rfl rfl rfl (fun w => y_pick_f rfl rfl) ?_
              refine dx_end (by kernel_rfl) ?_
              refine K3 (L8 (K0 (K1 ?_)))
              refine l_y rfl rfl (y_assign rfl) ?_
              refine K2 (K3 (K6 (L0 (K9 (K9 (L0 (K9 ?_)))))))
              exfalso
              simp_all [OkN]
            · have h26_13 := ndf hg104
              refine dx_u 15 (by kernel_rfl) rfl rfl rfl (fun w => y_fldb (o' := 2) rfl) ?_
              refine dx_y 16 (by kernel_rfl) rfl rfl rfl (fun w ⟨m, hw⟩ => D5 hw rfl) ?_
              refine dx_u 17 (by kernel_rfl) rfl rfl rfl (fun w => y_move rfl) ?_
              refine dx_only 18 (by kernel_rfl) rfl rfl ?_
              refine CK [] hO rfl (fun k' hx hr hO' => SmallR_spec (s := nm) (by omega) (hO := hO')) ?_
              rintro _ _ w ⟨rfl, rfl⟩ hO
              refine o_done ?_
              refine ⟨SO.ks [.b b12] hO, ?_⟩
              refine dx_u 19 (by kernel_rfl) rfl rfl rfl (fun w => y_neS rfl rfl rfl) ?_
              refine dx_u 20 (by kernel_rfl) rfl rfl rfl (fun w => y_pick_f rfl rfl) ?_
              refine dx_u 21 (by kernel_rfl) rfl rfl rfl (fun w => y_pick_t rfl rfl) ?_
              refine dx_u 22 (by kernel_rfl) rfl rfl rfl (fun w => y_pick_f rfl rfl) ?_
              refine dx_end (by kernel_rfl) ?_
              refine K3 ?_
              refine c_split rfl (fun hc112 => ?_) (fun hc112 => ?_)
              · refine K0 (K1 ?_)
                refine l_y rfl rfl (y_assign rfl) ?_
                refine K2 (K3 (K6 (L0 (K9 (K9 (L0 (K9 ?_)))))))
                exfalso
                simp_all [OkN]
              · refine K5 (K8 (K3 (K1 ?_)))
                refine l_y rfl rfl (y_move rfl) ?_
                refine l_y rfl rfl (D4) ?_
                refine l_y rfl rfl (y_assign rfl) ?_
                refine K2 ?_
                exact q_next (i + 1) ⟨rfl, rfl, rfl, rfl, rfl, rfl, rfl, trivial⟩ ⟨hO.only [.o a15, .p (some ⟨b25, 0, none⟩), .p q3], by omega⟩ (by omega)
          · have h26_9 := ndf hg100
            refine dx_pass 11 (by kernel_rfl) rfl rfl rfl ?_
            refine dx_pass 12 (by kernel_rfl) rfl rfl rfl ?_
            refine dx_pass 13 (by kernel_rfl) rfl rfl rfl ?_
            refine dx_pass 14 (by kernel_rfl) rfl rfl rfl ?_
            refine dx_pass 15 (by kernel_rfl) rfl rfl rfl ?_
            refine dx_pass 16 (by kernel_rfl) rfl rfl rfl ?_
            refine dx_pass 17 (by kernel_rfl) rfl rfl rfl ?_
            refine dx_pass 18 (by kernel_rfl) rfl rfl rfl ?_
            refine dx_pass 19 (by kernel_rfl) rfl rfl rfl ?_
            refine dx_pass 20 (by kernel_rfl) rfl rfl rfl ?_
            refine dx_u 21 (by kernel_rfl) rfl rfl rfl (fun w => y_pick_f rfl rfl) ?_
            refine dx_u 22 (by kernel_rfl) rfl rfl rfl (fun w => y_pick_f rfl rfl) ?_
            refine dx_end (by kernel_rfl) ?_
            refine K3 (L9 (K5 (K8 (K3 (K1 ?_)))))
            refine l_y rfl rfl (y_move rfl) ?_
            refine l_y rfl rfl (D4) ?_
            refine l_y rfl rfl (y_assign rfl) ?_
            refine K2 ?_
            exact q_next (i + 1) ⟨rfl, rfl, rfl, rfl, rfl, rfl, rfl, trivial⟩ ⟨hO.only [.o a15, .p (some ⟨b25, 0, none⟩), .p q3], by omega⟩ (by omega)
      · have h26_1 := of_decide_eq_false hg92
        refine dx_pass 3 (by kernel_rfl) rfl rfl rfl ?_
        refine dx_pass 4 (by kernel_rfl) rfl rfl rfl ?_
        refine dx_pass 5 (by kernel_rfl) rfl rfl rfl ?_
        refine dx_u 6 (by kernel_rfl) rfl rfl rfl (fun w => y_pick_f rfl rfl) ?_
        refine dx_u 7 (by kernel_rfl) rfl rfl rfl (fun w => y_move rfl) ?_
        refine dx_u 8 (by kernel_rfl) rfl rfl rfl (fun w => y_move rfl) ?_
        refine dx_u 9 (by kernel_rfl) rfl rfl rfl (fun w => y_neS rfl rfl rfl) ?_
        refine dx_u 10 (by kernel_rfl) rfl rfl rfl (fun w => y_move rfl) ?_
        refine dx_split 100 rfl (fun hg100 => ?_) (fun hg100 => ?_)
        · have h26_9 := ndt hg100
          refine dx_u 11 (by kernel_rfl) rfl rfl rfl (fun w => y_fldb (o' := 0) rfl) ?_
          refine dx_y 12 (by kernel_rfl) rfl rfl rfl (fun w ⟨m, hw⟩ => D5 hw rfl) ?_
          refine dx_u 13 (by kernel_rfl) rfl rfl rfl (fun w => y_cmpI rfl rfl rfl) ?_
          refine dx_u 14 (by kernel_rfl) rfl rfl rfl (fun w => y_move rfl) ?_
          refine dx_split 104 rfl (fun hg104 => ?_) (fun hg104 => ?_)
          · have h26_13 := ndt hg104
            refine dx_pass 15 (by kernel_rfl) rfl rfl rfl ?_
            refine dx_pass 16 (by kernel_rfl) rfl rfl rfl ?_
            refine dx_pass 17 (by kernel_rfl) rfl rfl rfl ?_
            refine dx_pass 18 (by kernel_rfl) rfl rfl rfl ?_
            refine dx_pass 19 (by kernel_rfl) rfl rfl rfl ?_
            refine dx_u 20 (by kernel_rfl) rfl rfl rfl (fun w => y_pick_t rfl rfl) ?_
            refine dx_u 21 (by kernel_rfl) rfl rfl rfl (fun w => y_pick_t rfl rfl) ?_
            refine dx_u 22 (by kernel_rfl) rfl rfl rfl (fun w => y_pick_f rfl rfl) ?_
            refine dx_end (by kernel_rfl) ?_
            refine K3 (L8 (K0 (K1 ?_)))
            refine l_y rfl rfl (y_assign rfl) ?_
            refine K2 (K3 (K6 (L0 (K9 (K9 (L0 (K9 ?_)))))))
            exfalso
            simp_all [OkN]
          · have h26_13 := ndf hg104
            refine dx_u 15 (by kernel_rfl) rfl rfl rfl (fun w => y_fldb (o' := 2) rfl) ?_
            refine dx_y 16 (by kernel_rfl) rfl rfl rfl (fun w ⟨m, hw⟩ => D5 hw rfl) ?_
            refine dx_u 17 (by kernel_rfl) rfl rfl rfl (fun w => y_move rfl) ?_
            refine dx_only 18 (by kernel_rfl) rfl rfl ?_
            refine CK [] hO rfl (fun k' hx hr hO' => SmallR_spec (s := nm) (by omega) (hO := hO')) ?_
            rintro _ _ w ⟨rfl, rfl⟩ hO
            refine o_done ?_
            refine ⟨SO.ks [.b b12] hO, ?_⟩
            refine dx_u 19 (by kernel_rfl) rfl rfl rfl (fun w => y_neS rfl rfl rfl) ?_
            refine dx_u 20 (by kernel_rfl) rfl rfl rfl (fun w => y_pick_f rfl rfl) ?_
            refine dx_u 21 (by kernel_rfl) rfl rfl rfl (fun w => y_pick_t rfl rfl) ?_
            refine dx_u 22 (by kernel_rfl) rfl rfl rfl (fun w => y_pick_f rfl rfl) ?_
            refine dx_end (by kernel_rfl) ?_
            refine K3 ?_
            refine c_split rfl (fun hc112 => ?_) (fun hc112 => ?_)
            · refine K0 (K1 ?_)
              refine l_y rfl rfl (y_assign rfl) ?_
              refine K2 (K3 (K6 (L0 (K9 (K9 (L0 (K9 ?_)))))))
              exfalso
              simp_all [OkN]
            · refine K5 (K8 (K3 (K1 ?_)))
              refine l_y rfl rfl (y_move rfl) ?_
              refine l_y rfl rfl (D4) ?_
              refine l_y rfl rfl (y_assign rfl) ?_
              refine K2 ?_
              exact q_next (i + 1) ⟨rfl, rfl, rfl, rfl, rfl, rfl, rfl, trivial⟩ ⟨hO.only [.o a15, .p (some ⟨b25, 0, none⟩), .p q3], by omega⟩ (by omega)
        · have h26_9 := ndf hg100
          refine dx_pass 11 (by kernel_rfl) rfl rfl rfl ?_
          refine dx_pass 12 (by kernel_rfl) rfl rfl rfl ?_
          refine dx_pass 13 (by kernel_rfl) rfl rfl rfl ?_
          refine dx_pass 14 (by kernel_rfl) rfl rfl rfl ?_
          refine dx_pass 15 (by kernel_rfl) rfl rfl rfl ?_
          refine dx_pass 16 (by kernel_rfl) rfl rfl rfl ?_
          refine dx_pass 17 (by kernel_rfl) rfl rfl rfl ?_
          refine dx_pass 18 (by kernel_rfl) rfl rfl rfl ?_
          refine dx_pass 19 (by kernel_rfl) rfl rfl rfl ?_
          refine dx_pass 20 (by kernel_rfl) rfl rfl rfl ?_
          refine dx_u 21 (by kernel_rfl) rfl rfl rfl (fun w => y_pick_f rfl rfl) ?_
          refine dx_u 22 (by kernel_rfl) rfl rfl rfl (fun w => y_pick_f rfl rfl) ?_
          refine dx_end (by kernel_rfl) ?_
          refine K3 (L9 (K5 (K8 (K3 (K1 ?_)))))
          refine l_y rfl rfl (y_move rfl) ?_
          refine l_y rfl rfl (D4) ?_
          refine l_y rfl rfl (y_assign rfl) ?_
          refine K2 ?_
          exact q_next (i + 1) ⟨rfl, rfl, rfl, rfl, rfl, rfl, rfl, trivial⟩ ⟨hO.only [.o a15, .p (some ⟨b25, 0, none⟩), .p q3], by omega⟩ (by omega)
    · refine K2 (K3 (L9 (K7 (L1 (L1 (L2 (K3 (K0 (K1 ?_)))))))))
      refine l_y rfl rfl (y_assign rfl) ?_
      refine K2 (K3 (K6 ?_))
      exact fin1 rfl rfl ⟨_, rfl, hO⟩
end
end Go.Proofs.YtgglpocdelnfcaaRRRR
