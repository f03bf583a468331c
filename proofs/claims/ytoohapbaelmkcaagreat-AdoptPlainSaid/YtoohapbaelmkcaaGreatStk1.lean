/- The stack of open elements as it lies in memory, and the walks of its inner functions; no condition. -/
import Derived.Test.YtoohapbaelmkcaaGreatNode9
set_option linter.unusedVariables false
set_option linter.unusedSimpArgs false
set_option maxRecDepth 100000
namespace Go.Proofs.YtoohapbaelmkcaaGreat
open Go Go.Hb Go.RowKit
/-! what Node tells, both ways -/
def NV (A : List Node_one) (id : Int) (n : Api_node) : Prop := (hasB A id = false ∧ n = default) ∨ (hasB A id = true ∧ ∃ q d, n = ownN (at_ A id.toNat).Node q d)
def errN (A : List Node_one) (id : Int) : Int := if hasB A id = true then 0 else 6
theorem NodeU_spec {k : Ctx} {w : World} {a : Nat} {A : List Node_one} {id : Int} (hn : 0 < A.length) (ha : AttrsOk A) (hO : Own k w [arenaL a A]) :
    Tri Tryz.prog 14 #[.pointer (some ⟨a, 0, none⟩), .int .i64 id] k w fun v m => ∃ n, NV A id n ∧ v = .tuple #[.agg (Api_node.cells n).toArray, .int .i64 (errN A id)] ∧ m = [arenaL a A, sls n.AttrsP n.AttrsC 115 4 Api_attr.cells n.Attrs] := by
  refine Ret.mono (Node_spec hn ha hO) ?_
  rintro v w' ⟨m, (⟨h, rfl, rfl⟩ | ⟨h, q, d, rfl, rfl⟩), hO⟩
  · refine ⟨_, ⟨default, .inl ⟨h, rfl⟩, by rw [errN, h]; rfl, rfl⟩, ?_⟩
    exact (sl_nil 115 4 hO).swap
  · exact ⟨_, ⟨_, .inr ⟨h, q, d, rfl⟩, by rw [errN, h]; rfl, rfl⟩, hO⟩
theorem NodeD_spec {k : Ctx} {w : World} {a : Nat} {A : List Node_one} {id : Int} (hn : 0 < A.length) (ha : AttrsOk A) (hO : Own k w [arenaL a A]) :
    Tri Tryz.prog 14 #[.pointer (some ⟨a, 0, none⟩), .int .i64 id] k w fun v m => ∃ n, NV A id n ∧ v = .tuple #[.agg (Api_node.cells n).toArray, .int .i64 (errN A id)] ∧ m = [arenaL a A] := by
  refine Ret.mono (NodeU_spec hn ha hO) ?_
  rintro v w' ⟨m, ⟨n, h, rfl, rfl⟩, hO⟩
  exact ⟨_, ⟨n, h, rfl, rfl⟩, hO.swap.drop⟩
def elB (A : List Node_one) (id : Int) : Bool := hasB A id && decide ((at_ A id.toNat).Node.Kind = 1)
theorem elB_has {A : List Node_one} {id : Int} (h : elB A id = true) : hasB A id = true := by rw [elB, Bool.and_eq_true] at h; exact h.1
theorem NV.el {A : List Node_one} {id : Int} {n : Api_node} (h : NV A id n) : elB A id = (decide (errN A id = 0) && decide (n.Kind = 1)) := by
  rcases h with ⟨h, rfl⟩ | ⟨h, q, d, rfl⟩
  · simp [elB, errN, h]
  · rw [elB, errN, h]; rfl
theorem NV.kind {A : List Node_one} {id : Int} {n : Api_node} (h : NV A id n) (hb : hasB A id = true) : n.Kind = (at_ A id.toNat).Node.Kind := by
  rcases h with ⟨h, _⟩ | ⟨_, q, d, rfl⟩
  · rw [hb] at h; cases h
  · rfl
theorem NV.space {A : List Node_one} {id : Int} {n : Api_node} (h : NV A id n) (hb : hasB A id = true) : n.Space = (at_ A id.toNat).Node.Space := by
  rcases h with ⟨h, _⟩ | ⟨_, q, d, rfl⟩
  · rw [hb] at h; cases h
  · rfl
theorem NV.name {A : List Node_one} {id : Int} {n : Api_node} (h : NV A id n) (hb : hasB A id = true) : n.Name = (at_ A id.toNat).Node.Name := by
  rcases h with ⟨h, _⟩ | ⟨_, q, d, rfl⟩
  · rw [hb] at h; cases h
  · rfl
/-! the stack -/
abbrev sB (s a : Nat) (p : Option Addr) (n c : Nat) : HP := blk s 107 [.pointer (some ⟨a, 0, none⟩), .slice p n c]
abbrev sI (p : Option Addr) (c : Nat) (l : List Int) : HP := sls p c 3 1 (eI .i64) l
def stkL (s a : Nat) (l : List Int) : HP := fun h => ∃ x : Option Addr × Nat, sep [sB s a x.1 l.length x.2, sI x.1 x.2 l] h
theorem stkL_open {k : Ctx} {w : World} {L : List HP} {s a : Nat} {l : List Int} (hO : Own k w (stkL s a l :: L)) : ∃ p c, Gs p l.length ∧ l.length ≤ c ∧ Own k w (sB s a p l.length c :: sI p c l :: L) := by
  obtain ⟨⟨p, c⟩, hO⟩ := Own.ex (A := fun (x : Option Addr × Nat) => sep [sB s a x.1 l.length x.2, sI x.1 x.2 l]) hO
  have hO := Own.open hO
  simp only [List.cons_append, List.nil_append] at hO
  exact ⟨p, c, (sls_fct (p := p) hO).2, (sls_fct (p := p) hO).1, hO⟩
theorem stkL_shut {k : Ctx} {w : World} {L : List HP} {s a n : Nat} {l : List Int} {p : Option Addr} {c : Nat} (hO : Own k w (sB s a p n c :: sI p c l :: L)) (hn : n = l.length := by first | rfl | simp) : Own k w (stkL s a l :: L) := by
  subst hn
  exact (Own.shut (l := [sB s a p l.length c, sI p c l]) hO).tell fun h hA => ⟨(p, c), hA⟩
instance (priority := high) AtK.hstk (s a : Nat) (l : List Int) (L : List HP) : AtK (stkL s a l :: L) (.o s) (stkL s a l) L := ⟨.hd _ L⟩
theorem snone_spec {k : Ctx} {w : World} {s a n c : Nat} {p : Option Addr} (hO : Own k w [sB s a p n c]) :
    Tri Tryz.prog 47 #[.pointer (some ⟨s, 0, none⟩)] k w fun v m => v = .bool false ∧ m = [sB s a p n c] := by
  refine enter (args := [.pointer (some ⟨s, 0, none⟩)]) Tryz.func47 rfl rfl ?_
  refine K0 (K1 ?_)
  refine l_y rfl rfl (y_assign rfl) ?_
  refine K2 (K3 (K0 (K1 ?_)))
  refine l_y rfl rfl (y_move rfl) ?_
  refine l_y rfl rfl (y_eqPnil rfl rfl rfl) ?_
  refine l_y rfl rfl (y_move rfl) ?_
  refine l_y rfl rfl (y_move rfl) ?_
  refine l_y rfl rfl (y_nilCheck rfl rfl) ?_
  refine l_y rfl rfl (y_fldb (o' := 0) rfl) ?_
  refine l_y rfl rfl (D5 hO rfl) ?_
  refine l_y rfl rfl (y_eqPnil rfl rfl rfl) ?_
  refine l_y rfl rfl (y_pick_f rfl rfl) ?_
  refine l_y rfl rfl (y_assign rfl) ?_
  refine K2 (K3 (K6 ?_))
  exact fin1 rfl rfl ⟨_, ⟨rfl, rfl⟩, hO⟩
theorem sLen_spec {k : Ctx} {w : World} {s a n c : Nat} {p : Option Addr} (hO : Own k w [sB s a p n c]) :
    Tri Tryz.prog 13 #[.pointer (some ⟨s, 0, none⟩)] k w fun v m => v = .int .i64 ((n : Nat) : Int) ∧ m = [sB s a p n c] := by
  refine enter (args := [.pointer (some ⟨s, 0, none⟩)]) Tryz.func13 rfl rfl ?_
  refine K0 (K1 ?_)
  refine l_y rfl rfl (y_assign rfl) ?_
  refine K2 (K3 (K0 (K0 (K1 ?_))))
  refine l_y rfl rfl (y_move rfl) ?_
  refine CK [.b s] hO rfl (fun k' hx hr hO' => snone_spec (hO := hO')) ?_
  rintro _ _ w ⟨rfl, rfl⟩ hO
  simp only [List.cons_append, List.nil_append] at hO
  refine K2 (K3 (L9 (K5 (K3 (K0 (K1 ?_))))))
  refine l_y rfl rfl (y_move rfl) ?_
  refine l_y rfl rfl (y_nilCheck rfl rfl) ?_
  refine l_y rfl rfl (y_fldb (o' := 1) rfl) ?_
  refine l_y rfl rfl (y_fldb (o' := 1) rfl) ?_
  refine l_y rfl rfl (D5 hO rfl) ?_
  refine l_y rfl rfl (y_lenL rfl) ?_
  refine l_y rfl rfl (y_assign rfl) ?_
  refine K2 (K3 (K6 ?_))
  exact fin1 rfl rfl ⟨_, ⟨rfl, rfl⟩, hO⟩
def atI (l : List Int) (i : Int) : Int := if i < 0 ∨ (l.length : Int) ≤ i then -1 else at_ l i.toNat
theorem sAt_spec {k : Ctx} {w : World} {s a c : Nat} {p : Option Addr} {l : List Int} {i : Int} (hg : Gs p l.length) (hO : Own k w [sB s a p l.length c, sI p c l]) :
    Tri Tryz.prog 15 #[.pointer (some ⟨s, 0, none⟩), .int .i64 i] k w fun v m => v = .int .i64 (atI l i) ∧ m = [sB s a p l.length c, sI p c l] := by
  refine enter (args := [.pointer (some ⟨s, 0, none⟩), .int .i64 i]) Tryz.func15 rfl rfl ?_
  refine K0 (K1 ?_)
  refine l_y rfl rfl (y_assign rfl) ?_
  refine K2 (K3 (K0 (K0 (K1 ?_))))
  refine l_y rfl rfl (y_move rfl) ?_
  refine Z0 (fun h1_1 => ?_) (fun h1_1 => ?_)
  · refine l_y rfl rfl (y_move rfl) ?_
    repeat refine M2 ?_
    refine l_y rfl rfl (y_pick_t rfl rfl) ?_
    refine K2 (K3 (L8 (K0 (K1 ?_))))
    refine l_y rfl rfl (y_assign rfl) ?_
    refine K2 (K3 (K6 (K9 ?_)))
    exact fin1 rfl rfl ⟨_, ⟨by rw [atI, if_pos (by omega)], rfl⟩, hO.only [.b s, .p p]⟩
  · refine l_y rfl rfl (y_move rfl) ?_
    refine l_y rfl rfl (y_move rfl) ?_
    refine l_y rfl rfl (y_move rfl) ?_
    refine CK [.b s] hO rfl (fun k' hx hr hO' => sLen_spec (hO := hO')) ?_
    rintro _ _ w ⟨rfl, rfl⟩ hO
    simp only [List.cons_append, List.nil_append] at hO
    refine Z0 (fun h1_6 => ?_) (fun h1_6 => ?_)
    · refine l_y rfl rfl (y_pick_f rfl rfl) ?_
      refine K2 (K3 (L8 (K0 (K1 ?_))))
      refine l_y rfl rfl (y_assign rfl) ?_
      refine K2 (K3 (K6 (K9 ?_)))
      exact fin1 rfl rfl ⟨_, ⟨by rw [atI, if_pos (by omega)], rfl⟩, hO.only [.b s, .p p]⟩
    · refine l_y rfl rfl (y_pick_f rfl rfl) ?_
      refine K2 (K3 (L9 (K5 (K3 (K0 (K1 ?_))))))
      refine l_y rfl rfl (y_move rfl) ?_
      refine l_y rfl rfl (y_nilCheck rfl rfl) ?_
      refine l_y rfl rfl (y_fldb (o' := 1) rfl) ?_
      refine l_y rfl rfl (y_fldb (o' := 1) rfl) ?_
      refine l_y rfl rfl (D5 hO rfl) ?_
      refine l_y rfl rfl (y_move rfl) ?_
      refine l_y rfl rfl (y_idx rfl rfl) ?_
      refine l_y rfl rfl (y_e1 (x0 := 0) hO rfl) ?_
      refine l_y rfl rfl (y_assign rfl) ?_
      refine K2 (K3 (K6 ?_))
      exact fin1 rfl rfl ⟨_, ⟨by rw [atI, if_neg (by omega)], rfl⟩, hO.only [.b s, .p p]⟩
def topI (l : List Int) : Int := atI l ((l.length : Int) - 1)
theorem sTop_spec {k : Ctx} {w : World} {s a c : Nat} {p : Option Addr} {l : List Int} (hg : Gs p l.length) (hl : l.length ≤ 1000000) (hO : Own k w [sB s a p l.length c, sI p c l]) :
    Tri Tryz.prog 35 #[.pointer (some ⟨s, 0, none⟩)] k w fun v m => v = .int .i64 (topI l) ∧ m = [sB s a p l.length c, sI p c l] := by
  refine enter (args := [.pointer (some ⟨s, 0, none⟩)]) Tryz.func35 rfl rfl ?_
  refine K0 (K1 ?_)
  refine l_y rfl rfl (y_assign rfl) ?_
  refine K2 (K3 (K0 (K1 ?_)))
  refine l_y rfl rfl (y_move rfl) ?_
  refine l_y rfl rfl (y_move rfl) ?_
  refine CK [.b s] hO rfl (fun k' hx hr hO' => sLen_spec (hO := hO')) ?_
  rintro _ _ w ⟨rfl, rfl⟩ hO
  simp only [List.cons_append, List.nil_append] at hO
  refine l_y rfl rfl (D4) ?_
  refine CK [.b s, .p p] hO rfl (fun k' hx hr hO' => sAt_spec hg (hO := hO')) ?_
  rintro _ _ w ⟨rfl, rfl⟩ hO
  simp only [List.cons_append, List.nil_append] at hO
  refine l_y rfl rfl (y_assign rfl) ?_
  refine K2 (K3 (K6 ?_))
  exact fin1 rfl rfl ⟨_, ⟨rfl, rfl⟩, hO⟩
def findI (l : List Int) (x : Int) : Int := idx (fun y => decide (y = x)) l
theorem srow_find_spec {k : Ctx} {w : World} {s a c : Nat} {p : Option Addr} {l : List Int} {x : Int} (hg : Gs p l.length) (hl : l.length ≤ 1000000) (hO : Own k w [sB s a p l.length c, sI p c l]) :
    Tri Tryz.prog 93 #[.pointer (some ⟨s, 1, none⟩), .int .i64 x] k w fun v m => v = .int .i64 (findI l x) ∧ m = [sB s a p l.length c, sI p c l] := by
  refine enter (args := [.pointer (some ⟨s, 1, none⟩), .int .i64 x]) Tryz.func93 rfl rfl ?_
  refine K0 (K1 ?_)
  refine l_y rfl rfl (y_assign rfl) ?_
  refine K2 (K3 (K0 (K0 (K1 ?_))))
  refine l_y rfl rfl (y_move rfl) ?_
  refine l_y rfl rfl (y_nilCheck rfl rfl) ?_
  refine l_y rfl rfl (y_fldb (o' := 1) rfl) ?_
  refine l_y rfl rfl (D5 hO rfl) ?_
  refine l_y rfl rfl (y_lenL rfl) ?_
  refine l_y rfl rfl (y_move rfl) ?_
  refine K2 (K3 (K4 ?_))
  refine c_rounds (X := Nat) (fun i => [(1, .int .i64 x), (4, .int .i64 0), (10, .slice p l.length c), (11, .int .i64 ((l.length : Nat) : Int)), (12, .int .i64 (i : Int))]) (fun i w => Own k w [sB s a p l.length c, sI p c l] ∧ (i ≤ l.length) ∧ (∀ j, j < i → decide (at_ l j = x) = false)) (fun i => l.length - i) (0) ⟨rfl, rfl, rfl, rfl, rfl, trivial⟩ ⟨hO.only [.b s, .p p], Nat.zero_le _, fun j hj => absurd hj (Nat.not_lt_zero j)⟩ ?_
  rintro i w m hm ⟨hO, hi, hn⟩
  refine K0 (K1 ?_)
  refine Z0 (fun h2_0 => ?_) (fun h2_0 => ?_)
  · refine K2 (K3 (K0 (L8 (K5 (K3 (K0 (K4 (K0 (K1 ?_)))))))))
    refine l_y rfl rfl (y_move rfl) ?_
    refine l_y rfl rfl (y_idx rfl rfl) ?_
    refine l_y rfl rfl (y_e1 (x0 := 0) hO rfl) ?_
    refine l_y rfl rfl (y_assign rfl) ?_
    refine l_y rfl rfl (y_assign rfl) ?_
    refine K2 (K3 (K0 (K1 ?_)))
    refine l_y rfl rfl (y_move rfl) ?_
    refine l_y rfl rfl (y_move rfl) ?_
    refine Z0 (fun h4_2 => ?_) (fun h4_2 => ?_)
    · refine K2 (K3 (L8 (K0 (K1 ?_))))
      refine l_y rfl rfl (y_move rfl) ?_
      refine l_y rfl rfl (y_assign rfl) ?_
      refine K2 (K3 (K6 (L0 (K9 (K9 (L0 (K9 ?_)))))))
      rw [show findI l x = i from idx_at (i := i) (by omega) (decide_eq_true h4_2.symm) hn]
      exact fin1 rfl rfl ⟨_, ⟨rfl, rfl⟩, hO.only [.b s, .p p]⟩
    · refine K2 (K3 (L9 (K5 (K8 (K3 (K1 ?_))))))
      refine l_y rfl rfl (D4) ?_
      refine l_y rfl rfl (y_move rfl) ?_
      refine K2 ?_
      exact q_next (i + 1) ⟨rfl, rfl, rfl, rfl, rfl, trivial⟩ ⟨hO.only [.b s, .p p], by omega, fun j hj => (by by_cases e : j = i; (subst e; exact decide_eq_false (fun h => h4_2 h.symm)); exact hn j (by omega))⟩ (by omega)
  · refine K2 (K3 (K0 (L9 (K7 (L1 (L1 (L2 (K3 (K0 (K1 ?_))))))))))
    refine l_y rfl rfl (y_assign rfl) ?_
    refine K2 (K3 (K6 ?_))
    rw [show findI l x = -1 from idx_none (fun j hj => hn j (by omega))]
    exact fin1 rfl rfl ⟨_, ⟨rfl, rfl⟩, hO.only [.b s, .p p]⟩
theorem sFind_spec {k : Ctx} {w : World} {s a c : Nat} {p : Option Addr} {l : List Int} {x : Int} (hg : Gs p l.length) (hl : l.length ≤ 1000000) (hO : Own k w [sB s a p l.length c, sI p c l]) :
    Tri Tryz.prog 74 #[.pointer (some ⟨s, 0, none⟩), .int .i64 x] k w fun v m => v = .int .i64 (findI l x) ∧ m = [sB s a p l.length c, sI p c l] := by
  refine enter (args := [.pointer (some ⟨s, 0, none⟩), .int .i64 x]) Tryz.func74 rfl rfl ?_
  refine K0 (K1 ?_)
  refine l_y rfl rfl (y_assign rfl) ?_
  refine K2 (K3 (K0 (K0 (K1 ?_))))
  refine l_y rfl rfl (y_move rfl) ?_
  refine CK [.b s] hO rfl (fun k' hx hr hO' => snone_spec (hO := hO')) ?_
  rintro _ _ w ⟨rfl, rfl⟩ hO
  simp only [List.cons_append, List.nil_append] at hO
  refine K2 (K3 (L9 (K5 (K3 (K0 (K1 ?_))))))
  refine l_y rfl rfl (y_move rfl) ?_
  refine l_y rfl rfl (y_nilCheck rfl rfl) ?_
  refine l_y rfl rfl (y_fldb (o' := 1) rfl) ?_
  refine l_y rfl rfl (y_move rfl) ?_
  refine CK [.b s, .p p] hO rfl (fun k' hx hr hO' => srow_find_spec hg hl (hO := hO')) ?_
  rintro _ _ w ⟨rfl, rfl⟩ hO
  simp only [List.cons_append, List.nil_append] at hO
  refine l_y rfl rfl (y_assign rfl) ?_
  refine K2 (K3 (K6 ?_))
  exact fin1 rfl rfl ⟨_, ⟨rfl, rfl⟩, hO.only [.b s, .p p]⟩
theorem look_spec {k : Ctx} {w : World} {s a n c : Nat} {p : Option Addr} {A : List Node_one} {id : Int} (hn : 0 < A.length) (ha : AttrsOk A) (hO : Own k w [arenaL a A, sB s a p n c]) :
    Tri Tryz.prog 92 #[.pointer (some ⟨s, 0, none⟩), .int .i64 id] k w fun v m => ∃ x, NV A id x ∧ v = .tuple #[.agg (Api_node.cells x).toArray, .bool (elB A id)] ∧ m = [arenaL a A, sB s a p n c] := by
  refine enter (args := [.pointer (some ⟨s, 0, none⟩), .int .i64 id]) Tryz.func92 rfl rfl ?_
  refine K0 (K1 ?_)
  refine s_alloc (vs := [.int .i64 0, .int .i64 0, .string ⟨#[]⟩, .slice none 0 0, .string ⟨#[]⟩, .string ⟨#[]⟩, .int .i64 0, .int .i64 0, .int .i64 0, .int .i64 0, .int .i64 0, .int .i64 0]) hO rfl rfl rfl fun b4 w hO => ?_
  refine l_y rfl rfl (y_assign rfl) ?_
  refine K2 (K3 (K0 (K1 ?_)))
  refine l_y rfl rfl (y_move rfl) ?_
  refine l_y rfl rfl (y_nilCheck rfl rfl) ?_
  refine l_y rfl rfl (y_fldb (o' := 0) rfl) ?_
  refine l_y rfl rfl (D5 hO rfl) ?_
  refine l_y rfl rfl (y_move rfl) ?_
  refine CK [.o a] hO rfl (fun k' hx hr hO' => NodeD_spec hn ha (hO := hO')) ?_
  rintro _ _ w ⟨x, hx, rfl, rfl⟩ hO
  simp only [List.cons_append, List.nil_append] at hO
  have hel := hx.el
  refine l_y rfl rfl (y_move rfl) ?_
  refine l_y rfl rfl (y_extract rfl rfl) ?_
  refine l_y rfl rfl (y_extract rfl rfl) ?_
  refine s_alloc (vs := [.int .i64 0, .int .i64 0, .string ⟨#[]⟩, .slice none 0 0, .string ⟨#[]⟩, .string ⟨#[]⟩, .int .i64 0, .int .i64 0, .int .i64 0, .int .i64 0, .int .i64 0, .int .i64 0]) hO rfl rfl rfl fun b6 w hO => ?_
  refine Y3 hO rfl rfl (fun w hO => ?_)
  refine l_y rfl rfl (y_assign rfl) ?_
  refine K2 (K3 (K0 ?_))
  refine da_region (by intro c a d v w h; cases d <;> exact h) ?_
  have hO := hO.drew
  refine da_phase _ [] (SO.ks [.b b6] hO) ?_
  refine dx_y 0 (by kernel_rfl) rfl rfl rfl (fun w ⟨m, hw⟩ => D8 (cs := [.int .i64 x.Kind, .int .i64 x.Space, .string x.Name, .slice x.AttrsP x.Attrs.length x.AttrsC, .string x.Data, .string x.System, .int .i64 x.Parent, .int .i64 x.First, .int .i64 x.Last, .int .i64 x.Prev, .int .i64 x.Next, .int .i64 x.Inner]) hw rfl) ?_
  refine dx_u 1 (by kernel_rfl) rfl rfl rfl (fun w => y_move rfl) ?_
  refine dx_u 2 (by kernel_rfl) rfl rfl rfl (fun w => y_cmpI rfl rfl rfl) ?_
  refine dx_u 3 (by kernel_rfl) rfl rfl rfl (fun w => y_move rfl) ?_
  refine dx_split 20 rfl (fun hg20 => ?_) (fun hg20 => ?_)
  · have h2_2 := of_decide_eq_true hg20
    refine dx_u 4 (by kernel_rfl) rfl rfl rfl (fun w => y_fldb (o' := 0) rfl) ?_
    refine dx_y 5 (by kernel_rfl) rfl rfl rfl (fun w ⟨m, hw⟩ => D5 hw rfl) ?_
    refine dx_u 6 (by kernel_rfl) rfl rfl rfl (fun w => y_cmpI rfl rfl rfl) ?_
    refine dx_u 7 (by kernel_rfl) rfl rfl rfl (fun w => y_pick_t rfl rfl) ?_
    refine dx_only 8 (by kernel_rfl) rfl rfl ?_
    refine Y3 hO rfl rfl (fun w hO => ?_)
    refine o_done ?_
    refine ⟨SO.ks [.b b6] hO, ?_⟩
    refine dx_u 9 (by kernel_rfl) rfl rfl rfl (fun w => y_assign rfl) ?_
    refine dx_end (by kernel_rfl) ?_
    refine K3 (K6 ?_)
    refine finC1 hO rfl rfl rfl ⟨_, ⟨x, hx, ?_, rfl⟩, hO.only [.o a, .b s]⟩
    rw [hel]
    first | (simp [*]; done) | (simp [*]; rfl)
  · have h2_2 := of_decide_eq_false hg20
    refine dx_pass 4 (by kernel_rfl) rfl rfl rfl ?_
    refine dx_pass 5 (by kernel_rfl) rfl rfl rfl ?_
    refine dx_pass 6 (by kernel_rfl) rfl rfl rfl ?_
    refine dx_u 7 (by kernel_rfl) rfl rfl rfl (fun w => y_pick_f rfl rfl) ?_
    refine dx_only 8 (by kernel_rfl) rfl rfl ?_
    refine Y3 hO rfl rfl (fun w hO => ?_)
    refine o_done ?_
    refine ⟨SO.ks [.b b6] hO, ?_⟩
    refine dx_u 9 (by kernel_rfl) rfl rfl rfl (fun w => y_assign rfl) ?_
    refine dx_end (by kernel_rfl) ?_
    refine K3 (K6 ?_)
    refine finC1 hO rfl rfl rfl ⟨_, ⟨x, hx, ?_, rfl⟩, hO.only [.o a, .b s]⟩
    rw [hel]
    first | (simp [*]; done) | (simp [*]; rfl)
end Go.Proofs.YtoohapbaelmkcaaGreat
