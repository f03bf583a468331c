/- The walks of piles: push, pop. -/
import Derived.Test.YthkmnohghpdjhaaNode9
set_option linter.unusedVariables false
set_option linter.unusedSimpArgs false
set_option maxRecDepth 100000
namespace Go.Proofs.Ythkmnohghpdjhaa
open Go Go.Hb Go.RowKit
section
variable {k : Ctx} {w : World}
/-- a pile in memory -/
def pileitem (b : Nat) (xs : List Show_item) : HP := fun h => ∃ x : Option Addr × Nat, sep [blk b 102 [.slice x.1 xs.length x.2], sls x.1 x.2 106 3 Show_item.cells xs] h
theorem pileitem_open {l : List HP} {b : Nat} {xs : List Show_item} (hO : Own k w (pileitem b xs :: l)) : ∃ p c, Gs p xs.length ∧ xs.length ≤ c ∧ Own k w (blk b 102 [.slice p xs.length c] :: sls p c 106 3 Show_item.cells xs :: l) := by
  obtain ⟨⟨p, c⟩, hO⟩ := Own.ex (A := fun x : Option Addr × Nat => sep [blk b 102 [.slice x.1 xs.length x.2], sls x.1 x.2 106 3 Show_item.cells xs]) hO
  have hO := Own.open hO
  simp only [List.cons_append, List.nil_append] at hO
  exact ⟨p, c, (sls_fct (p := p) hO).2, (sls_fct (p := p) hO).1, hO⟩
theorem pileitem_shut {l : List HP} {b n : Nat} {xs : List Show_item} {p : Option Addr} {c : Nat} (hO : Own k w (blk b 102 [.slice p n c] :: sls p c 106 3 Show_item.cells xs :: l)) (hn : n = xs.length := by first | rfl | simp) : Own k w (pileitem b xs :: l) := by
  subst hn
  exact (Own.shut (l := [blk b 102 [.slice p xs.length c], sls p c 106 3 Show_item.cells xs]) hO).tell fun h hA => ⟨(p, c), hA⟩
instance (priority := high) AtK.hpileitem (b : Nat) (xs : List Show_item) (l : List HP) : AtK (pileitem b xs :: l) (.o b) (pileitem b xs) l := ⟨.hd _ l⟩
theorem pushitem_spec {b : Nat} {xs ys : List Show_item} {q : Option Addr} {d : Nat} (hs : Sli (Ro k) (.slice q ys.length d) (ys.map Show_item.cells)) (hl : xs.length + ys.length ≤ 1000000000) (hO : Own k w [pileitem b xs]) :
    Tri Try.prog 55 #[.pointer (some ⟨b, 0, none⟩), .slice q ys.length d] k w fun v m => m = [pileitem b (xs ++ ys)] := by
  refine enter (args := [.pointer (some ⟨b, 0, none⟩), .slice q ys.length d]) Try.func55 rfl rfl ?_
  obtain ⟨p, c, hg, hc, hO⟩ := pileitem_open hO
  have hgq := sli_gs hs
  refine K1 ?_
  refine l_y rfl rfl (y_move rfl) ?_
  refine l_y rfl rfl (y_move rfl) ?_
  refine l_y rfl rfl (y_nilCheck rfl rfl) ?_
  refine l_y rfl rfl (y_fldb (o' := 0) rfl) ?_
  refine l_y rfl rfl (D5 hO rfl) ?_
  refine l_y rfl rfl (y_move rfl) ?_
  refine s_app hO rfl rfl (src_ro hO (by assumption)) (fun p10 c10 w hO gs10 => ?_) (h63 := by omega) (hb := by omega)
  refine l_y rfl rfl (y_nilCheck rfl rfl) ?_
  refine l_y rfl rfl (y_fldb (o' := 0) rfl) ?_
  refine Y1 hO rfl rfl (fun w hO => ?_)
  simp only [List.set_cons_zero, List.set_cons_succ] at hO
  refine K2 ?_
  exact fin0 rfl ⟨_, rfl, (pileitem_shut (hO.ks [.b b, .p p10])).one⟩
theorem popNitem_spec {b : Nat} (hO : Own k w [pileitem b []]) :
    Tri Try.prog 56 #[.pointer (some ⟨b, 0, none⟩)] k w fun v m => v = .tuple #[.agg (Show_item.cells default).toArray, .bool false] ∧ m = [pileitem b []] := by
  refine enter (args := [.pointer (some ⟨b, 0, none⟩)]) Try.func56 rfl rfl ?_
  obtain ⟨p, c, hg, hc, hO⟩ := pileitem_open hO
  refine K0 (K1 ?_)
  refine s_alloc (vs := [.int .i64 0, .int .i64 0, .string ⟨#[]⟩]) hO rfl rfl rfl fun b2 w hO => ?_
  refine l_y rfl rfl (y_assign rfl) ?_
  refine K2 (K3 (K0 (K1 ?_)))
  refine s_alloc (vs := [.int .i64 0, .int .i64 0, .string ⟨#[]⟩]) hO rfl rfl rfl fun b4 w hO => ?_
  refine K2 (K3 (K0 (K1 ?_)))
  refine l_y rfl rfl (y_move rfl) ?_
  refine l_y rfl rfl (y_nilCheck rfl rfl) ?_
  refine l_y rfl rfl (y_fldb (o' := 0) rfl) ?_
  refine l_y rfl rfl (D5 hO rfl) ?_
  refine l_y rfl rfl (y_lenL rfl) ?_
  refine l_y rfl rfl (y_assign rfl) ?_
  refine K2 (K3 (K0 (K0 (K1 ?_))))
  refine l_y rfl rfl (y_move rfl) ?_
  refine N2 (hp := rfl) ?_
  refine K2 (K3 (L8 (K0 (K1 ?_))))
  refine l_y rfl rfl (D8 (cs := [.int .i64 0, .int .i64 0, .string ⟨#[]⟩]) hO rfl) ?_
  refine Y3 hO rfl rfl (fun w hO => ?_)
  refine l_y rfl rfl (y_assign rfl) ?_
  refine K2 (K3 (K6 (K9 ?_)))
  exact finC1 hO rfl rfl rfl ⟨_, ⟨rfl, rfl⟩, (pileitem_shut (hO.ks [.b b, .p p])).one⟩
theorem popitem_spec {b : Nat} {xs : List Show_item} {x : Show_item} (hl : xs.length ≤ 1000000000) (hO : Own k w [pileitem b (xs ++ [x])]) :
    Tri Try.prog 56 #[.pointer (some ⟨b, 0, none⟩)] k w fun v m => v = .tuple #[.agg (Show_item.cells x).toArray, .bool true] ∧ m = [pileitem b xs] := by
  refine enter (args := [.pointer (some ⟨b, 0, none⟩)]) Try.func56 rfl rfl ?_
  obtain ⟨p, c, hg, hc, hO⟩ := pileitem_open hO
  obtain ⟨ys, hy⟩ : ∃ ys, ys = xs ++ [x] := ⟨_, rfl⟩
  have hyl : ys.length = xs.length + 1 := by rw [hy]; simp
  have hya : at_ ys xs.length = x := by rw [hy, at_app_new]
  rw [← hy] at hO hg hc
  refine K0 (K1 ?_)
  refine s_alloc (vs := [.int .i64 0, .int .i64 0, .string ⟨#[]⟩]) hO rfl rfl rfl fun b2 w hO => ?_
  refine l_y rfl rfl (y_assign rfl) ?_
  refine K2 (K3 (K0 (K1 ?_)))
  refine s_alloc (vs := [.int .i64 0, .int .i64 0, .string ⟨#[]⟩]) hO rfl rfl rfl fun b4 w hO => ?_
  refine K2 (K3 (K0 (K1 ?_)))
  refine l_y rfl rfl (y_move rfl) ?_
  refine l_y rfl rfl (y_nilCheck rfl rfl) ?_
  refine l_y rfl rfl (y_fldb (o' := 0) rfl) ?_
  refine l_y rfl rfl (D5 hO rfl) ?_
  refine l_y rfl rfl (y_lenL rfl) ?_
  refine l_y rfl rfl (y_assign rfl) ?_
  refine K2 (K3 (K0 (K0 (K1 ?_))))
  refine l_y rfl rfl (y_move rfl) ?_
  refine N3 ?_
  refine K2 (K3 (L9 (K5 (K3 (K0 ?_)))))
  refine da_region (by intro c a d v w h; cases d <;> exact h) ?_
  have hO := hO.drew
  refine da_phase _ [19] (SO.ks [.b b, .p p] hO) ?_
  refine dx_u 0 (by kernel_rfl) rfl rfl rfl (fun w => y_move rfl) ?_
  refine dx_u 1 (by kernel_rfl) rfl rfl rfl (fun w => y_move rfl) ?_
  refine dx_u 2 (by kernel_rfl) rfl rfl rfl (fun w => y_nilCheck rfl rfl) ?_
  refine dx_u 3 (by kernel_rfl) rfl rfl rfl (fun w => y_fldb (o' := 0) rfl) ?_
  refine dx_y 4 (by kernel_rfl) rfl rfl rfl (fun w ⟨m, hw⟩ => D5 hw rfl) ?_
  refine dx_u 5 (by kernel_rfl) rfl rfl rfl (fun w => y_move rfl) ?_
  refine dx_u 6 (by kernel_rfl) rfl rfl rfl (fun w => D4) ?_
  refine dx_u 7 (by kernel_rfl) rfl rfl rfl (fun w => y_idx rfl rfl) ?_
  refine dx_y 8 (by kernel_rfl) rfl rfl rfl (fun w ⟨m, hw⟩ => y_eA (x0 := 0) (cs := [.int .i64 (at_ ys ((((ys.length : Nat) : Int) - 1) : Int).toNat).id, .int .i64 (at_ ys ((((ys.length : Nat) : Int) - 1) : Int).toNat).depth, .string (at_ ys ((((ys.length : Nat) : Int) - 1) : Int).toNat).line]) hw rfl) ?_
  refine dx_u 9 (by kernel_rfl) rfl rfl rfl (fun w => y_move rfl) ?_
  refine dx_u 10 (by kernel_rfl) rfl rfl rfl (fun w => y_nilCheck rfl rfl) ?_
  refine dx_u 11 (by kernel_rfl) rfl rfl rfl (fun w => y_fldb (o' := 0) rfl) ?_
  refine dx_y 12 (by kernel_rfl) rfl rfl rfl (fun w ⟨m, hw⟩ => D5 hw rfl) ?_
  refine dx_u 13 (by kernel_rfl) rfl rfl rfl (fun w => y_move rfl) ?_
  refine dx_u 14 (by kernel_rfl) rfl rfl rfl (fun w => D4) ?_
  refine dx_u 15 (by kernel_rfl) rfl rfl rfl (fun w => y_hd ((((ys.length : Nat) : Int) - 1) : Int).toNat rfl rfl) ?_
  refine dx_only 16 (by kernel_rfl) rfl rfl ?_
  refine Y3 hO rfl rfl (fun w hO => ?_)
  refine o_done ?_
  refine ⟨SO.ks [.b b, .p p] hO, ?_⟩
  refine dx_u 17 (by kernel_rfl) rfl rfl rfl (fun w => y_nilCheck rfl rfl) ?_
  refine dx_u 18 (by kernel_rfl) rfl rfl rfl (fun w => y_fldb (o' := 0) rfl) ?_
  refine dx_close 19 (by kernel_rfl) rfl rfl ?_
  refine Y1 hO rfl rfl (fun w hO => ?_)
  simp only [List.set_cons_zero, List.set_cons_succ] at hO
  refine o_done ?_
  refine da_end (by kernel_rfl) ?_
  refine K3 (K0 (K1 ?_))
  refine l_y rfl rfl (D8 (cs := [.int .i64 (at_ ys ((((ys.length : Nat) : Int) - 1) : Int).toNat).id, .int .i64 (at_ ys ((((ys.length : Nat) : Int) - 1) : Int).toNat).depth, .string (at_ ys ((((ys.length : Nat) : Int) - 1) : Int).toNat).line]) hO rfl) ?_
  refine Y3 hO rfl rfl (fun w hO => ?_)
  refine l_y rfl rfl (y_assign rfl) ?_
  refine K2 (K3 (K6 ?_))
  have e1 : ((ys.length : Int) - 1).toNat = xs.length := by omega
  simp only [e1, hya] at hO
  have hO := sls_cut (hO.ks [.p p]) xs.length c (by omega) (by omega) (Nat.le_refl _)
  rw [show ys.take xs.length = xs by rw [hy]; simp] at hO
  exact finC1 hO rfl rfl rfl ⟨_, ⟨rfl, rfl⟩, (pileitem_shut (hO.ks [.b b, .p p])).one⟩
/-- a pile in memory -/
def piletwin (b : Nat) (xs : List Show_twin) : HP := fun h => ∃ x : Option Addr × Nat, sep [blk b 121 [.slice x.1 xs.length x.2], sls x.1 x.2 124 2 Show_twin.cells xs] h
theorem piletwin_open {l : List HP} {b : Nat} {xs : List Show_twin} (hO : Own k w (piletwin b xs :: l)) : ∃ p c, Gs p xs.length ∧ xs.length ≤ c ∧ Own k w (blk b 121 [.slice p xs.length c] :: sls p c 124 2 Show_twin.cells xs :: l) := by
  obtain ⟨⟨p, c⟩, hO⟩ := Own.ex (A := fun x : Option Addr × Nat => sep [blk b 121 [.slice x.1 xs.length x.2], sls x.1 x.2 124 2 Show_twin.cells xs]) hO
  have hO := Own.open hO
  simp only [List.cons_append, List.nil_append] at hO
  exact ⟨p, c, (sls_fct (p := p) hO).2, (sls_fct (p := p) hO).1, hO⟩
theorem piletwin_shut {l : List HP} {b n : Nat} {xs : List Show_twin} {p : Option Addr} {c : Nat} (hO : Own k w (blk b 121 [.slice p n c] :: sls p c 124 2 Show_twin.cells xs :: l)) (hn : n = xs.length := by first | rfl | simp) : Own k w (piletwin b xs :: l) := by
  subst hn
  exact (Own.shut (l := [blk b 121 [.slice p xs.length c], sls p c 124 2 Show_twin.cells xs]) hO).tell fun h hA => ⟨(p, c), hA⟩
instance (priority := high) AtK.hpiletwin (b : Nat) (xs : List Show_twin) (l : List HP) : AtK (piletwin b xs :: l) (.o b) (piletwin b xs) l := ⟨.hd _ l⟩
theorem pushtwin_spec {b : Nat} {xs ys : List Show_twin} {q : Option Addr} {d : Nat} (hs : Sli (Ro k) (.slice q ys.length d) (ys.map Show_twin.cells)) (hl : xs.length + ys.length ≤ 1000000000) (hO : Own k w [piletwin b xs]) :
    Tri Try.prog 64 #[.pointer (some ⟨b, 0, none⟩), .slice q ys.length d] k w fun v m => m = [piletwin b (xs ++ ys)] := by
  refine enter (args := [.pointer (some ⟨b, 0, none⟩), .slice q ys.length d]) Try.func64 rfl rfl ?_
  obtain ⟨p, c, hg, hc, hO⟩ := piletwin_open hO
  have hgq := sli_gs hs
  refine K1 ?_
  refine l_y rfl rfl (y_move rfl) ?_
  refine l_y rfl rfl (y_move rfl) ?_
  refine l_y rfl rfl (y_nilCheck rfl rfl) ?_
  refine l_y rfl rfl (y_fldb (o' := 0) rfl) ?_
  refine l_y rfl rfl (D5 hO rfl) ?_
  refine l_y rfl rfl (y_move rfl) ?_
  refine s_app hO rfl rfl (src_ro hO (by assumption)) (fun p10 c10 w hO gs10 => ?_) (h63 := by omega) (hb := by omega)
  refine l_y rfl rfl (y_nilCheck rfl rfl) ?_
  refine l_y rfl rfl (y_fldb (o' := 0) rfl) ?_
  refine Y1 hO rfl rfl (fun w hO => ?_)
  simp only [List.set_cons_zero, List.set_cons_succ] at hO
  refine K2 ?_
  exact fin0 rfl ⟨_, rfl, (piletwin_shut (hO.ks [.b b, .p p10])).one⟩
theorem popNtwin_spec {b : Nat} (hO : Own k w [piletwin b []]) :
    Tri Try.prog 65 #[.pointer (some ⟨b, 0, none⟩)] k w fun v m => v = .tuple #[.agg (Show_twin.cells default).toArray, .bool false] ∧ m = [piletwin b []] := by
  refine enter (args := [.pointer (some ⟨b, 0, none⟩)]) Try.func65 rfl rfl ?_
  obtain ⟨p, c, hg, hc, hO⟩ := piletwin_open hO
  refine K0 (K1 ?_)
  refine s_alloc (vs := [.int .i64 0, .int .i64 0]) hO rfl rfl rfl fun b2 w hO => ?_
  refine l_y rfl rfl (y_assign rfl) ?_
  refine K2 (K3 (K0 (K1 ?_)))
  refine s_alloc (vs := [.int .i64 0, .int .i64 0]) hO rfl rfl rfl fun b4 w hO => ?_
  refine K2 (K3 (K0 (K1 ?_)))
  refine l_y rfl rfl (y_move rfl) ?_
  refine l_y rfl rfl (y_nilCheck rfl rfl) ?_
  refine l_y rfl rfl (y_fldb (o' := 0) rfl) ?_
  refine l_y rfl rfl (D5 hO rfl) ?_
  refine l_y rfl rfl (y_lenL rfl) ?_
  refine l_y rfl rfl (y_assign rfl) ?_
  refine K2 (K3 (K0 (K0 (K1 ?_))))
  refine l_y rfl rfl (y_move rfl) ?_
  refine N2 (hp := rfl) ?_
  refine K2 (K3 (L8 (K0 (K1 ?_))))
  refine l_y rfl rfl (D8 (cs := [.int .i64 0, .int .i64 0]) hO rfl) ?_
  refine Y3 hO rfl rfl (fun w hO => ?_)
  refine l_y rfl rfl (y_assign rfl) ?_
  refine K2 (K3 (K6 (K9 ?_)))
  exact finC1 hO rfl rfl rfl ⟨_, ⟨rfl, rfl⟩, (piletwin_shut (hO.ks [.b b, .p p])).one⟩
theorem poptwin_spec {b : Nat} {xs : List Show_twin} {x : Show_twin} (hl : xs.length ≤ 1000000000) (hO : Own k w [piletwin b (xs ++ [x])]) :
    Tri Try.prog 65 #[.pointer (some ⟨b, 0, none⟩)] k w fun v m => v = .tuple #[.agg (Show_twin.cells x).toArray, .bool true] ∧ m = [piletwin b xs] := by
  refine enter (args := [.pointer (some ⟨b, 0, none⟩)]) Try.func65 rfl rfl ?_
  obtain ⟨p, c, hg, hc, hO⟩ := piletwin_open hO
  obtain ⟨ys, hy⟩ : ∃ ys, ys = xs ++ [x] := ⟨_, rfl⟩
  have hyl : ys.length = xs.length + 1 := by rw [hy]; simp
  have hya : at_ ys xs.length = x := by rw [hy, at_app_new]
  rw [← hy] at hO hg hc
  refine K0 (K1 ?_)
  refine s_alloc (vs := [.int .i64 0, .int .i64 0]) hO rfl rfl rfl fun b2 w hO => ?_
  refine l_y rfl rfl (y_assign rfl) ?_
  refine K2 (K3 (K0 (K1 ?_)))
  refine s_alloc (vs := [.int .i64 0, .int .i64 0]) hO rfl rfl rfl fun b4 w hO => ?_
  refine K2 (K3 (K0 (K1 ?_)))
  refine l_y rfl rfl (y_move rfl) ?_
  refine l_y rfl rfl (y_nilCheck rfl rfl) ?_
  refine l_y rfl rfl (y_fldb (o' := 0) rfl) ?_
  refine l_y rfl rfl (D5 hO rfl) ?_
  refine l_y rfl rfl (y_lenL rfl) ?_
  refine l_y rfl rfl (y_assign rfl) ?_
  refine K2 (K3 (K0 (K0 (K1 ?_))))
  refine l_y rfl rfl (y_move rfl) ?_
  refine N3 ?_
  refine K2 (K3 (L9 (K5 (K3 (K0 ?_)))))
  refine da_region (by intro c a d v w h; cases d <;> exact h) ?_
  have hO := hO.drew
  refine da_phase _ [19] (SO.ks [.b b, .p p] hO) ?_
  refine dx_u 0 (by kernel_rfl) rfl rfl rfl (fun w => y_move rfl) ?_
  refine dx_u 1 (by kernel_rfl) rfl rfl rfl (fun w => y_move rfl) ?_
  refine dx_u 2 (by kernel_rfl) rfl rfl rfl (fun w => y_nilCheck rfl rfl) ?_
  refine dx_u 3 (by kernel_rfl) rfl rfl rfl (fun w => y_fldb (o' := 0) rfl) ?_
  refine dx_y 4 (by kernel_rfl) rfl rfl rfl (fun w ⟨m, hw⟩ => D5 hw rfl) ?_
  refine dx_u 5 (by kernel_rfl) rfl rfl rfl (fun w => y_move rfl) ?_
  refine dx_u 6 (by kernel_rfl) rfl rfl rfl (fun w => D4) ?_
  refine dx_u 7 (by kernel_rfl) rfl rfl rfl (fun w => y_idx rfl rfl) ?_
  refine dx_y 8 (by kernel_rfl) rfl rfl rfl (fun w ⟨m, hw⟩ => y_eA (x0 := 0) (cs := [.int .i64 (at_ ys ((((ys.length : Nat) : Int) - 1) : Int).toNat).x, .int .i64 (at_ ys ((((ys.length : Nat) : Int) - 1) : Int).toNat).y]) hw rfl) ?_
  refine dx_u 9 (by kernel_rfl) rfl rfl rfl (fun w => y_move rfl) ?_
  refine dx_u 10 (by kernel_rfl) rfl rfl rfl (fun w => y_nilCheck rfl rfl) ?_
  refine dx_u 11 (by kernel_rfl) rfl rfl rfl (fun w => y_fldb (o' := 0) rfl) ?_
  refine dx_y 12 (by kernel_rfl) rfl rfl rfl (fun w ⟨m, hw⟩ => D5 hw rfl) ?_
  refine dx_u 13 (by kernel_rfl) rfl rfl rfl (fun w => y_move rfl) ?_
  refine dx_u 14 (by kernel_rfl) rfl rfl rfl (fun w => D4) ?_
  refine dx_u 15 (by kernel_rfl) rfl rfl rfl (fun w => y_hd ((((ys.length : Nat) : Int) - 1) : Int).toNat rfl rfl) ?_
  refine dx_only 16 (by kernel_rfl) rfl rfl ?_
  refine Y3 hO rfl rfl (fun w hO => ?_)
  refine o_done ?_
  refine ⟨SO.ks [.b b, .p p] hO, ?_⟩
  refine dx_u 17 (by kernel_rfl) rfl rfl rfl (fun w => y_nilCheck rfl rfl) ?_
  refine dx_u 18 (by kernel_rfl) rfl rfl rfl (fun w => y_fldb (o' := 0) rfl) ?_
  refine dx_close 19 (by kernel_rfl) rfl rfl ?_
  refine Y1 hO rfl rfl (fun w hO => ?_)
  simp only [List.set_cons_zero, List.set_cons_succ] at hO
  refine o_done ?_
  refine da_end (by kernel_rfl) ?_
  refine K3 (K0 (K1 ?_))
  refine l_y rfl rfl (D8 (cs := [.int .i64 (at_ ys ((((ys.length : Nat) : Int) - 1) : Int).toNat).x, .int .i64 (at_ ys ((((ys.length : Nat) : Int) - 1) : Int).toNat).y]) hO rfl) ?_
  refine Y3 hO rfl rfl (fun w hO => ?_)
  refine l_y rfl rfl (y_assign rfl) ?_
  refine K2 (K3 (K6 ?_))
  have e1 : ((ys.length : Int) - 1).toNat = xs.length := by omega
  simp only [e1, hya] at hO
  have hO := sls_cut (hO.ks [.p p]) xs.length c (by omega) (by omega) (Nat.le_refl _)
  rw [show ys.take xs.length = xs by rw [hy]; simp] at hO
  exact finC1 hO rfl rfl rfl ⟨_, ⟨rfl, rfl⟩, (piletwin_shut (hO.ks [.b b, .p p])).one⟩
end
end Go.Proofs.Ythkmnohghpdjhaa
