/- The walks of the answer's list: what it finds, marks and clears. -/
import Derived.Test.YtbhicbpfdbnpfaaAct7
import Derived.Test.YtbhicbpfdbnpfaaAct5
set_option linter.unusedVariables false
set_option linter.unusedSimpArgs false
set_option maxRecDepth 100000
namespace Go.Proofs.Ytbhicbpfdbnpfaa
open Go Go.Hb Go.RowKit
abbrev zB (z r : Nat) (q : Option Addr) (n d : Nat) : HP := blk z 82 [.pointer (some ⟨r, 0, none⟩), .slice q n d]
def ralL (z r : Nat) (l : List Api_entry) : HP := fun h => ∃ x : Option Addr × Nat, sep [zB z r x.1 l.length x.2, aI x.1 x.2 l] h
theorem ralL_open {k : Ctx} {w : World} {M : List HP} {z r : Nat} {L : List Api_entry} (hO : Own k w (ralL z r L :: M)) : ∃ q d, Gs q L.length ∧ L.length ≤ d ∧ Own k w (zB z r q L.length d :: aI q d L :: M) := by
  obtain ⟨⟨q, d⟩, hO⟩ := Own.ex (A := fun (x : Option Addr × Nat) => sep [zB z r x.1 L.length x.2, aI x.1 x.2 L]) hO
  have hO := Own.open hO
  simp only [List.cons_append, List.nil_append] at hO
  exact ⟨q, d, (sls_fct (p := q) hO).2, (sls_fct (p := q) hO).1, hO⟩
theorem ralL_shut {k : Ctx} {w : World} {M : List HP} {z r n : Nat} {L : List Api_entry} {q : Option Addr} {d : Nat} (hO : Own k w (zB z r q n d :: aI q d L :: M)) (hn : n = L.length := by first | rfl | simp) : Own k w (ralL z r L :: M) := by
  subst hn
  exact (Own.shut (l := [zB z r q L.length d, aI q d L]) hO).tell fun h hA => ⟨(q, d), hA⟩
instance (priority := high) AtK.hral (z r : Nat) (l : List Api_entry) (M : List HP) : AtK (ralL z r l :: M) (.o z) (ralL z r l) M := ⟨.hd _ M⟩
/-- but for markers no two entries are of one node -/
def DistN (L : List Api_entry) : Prop := ∀ i j, i < j → j < L.length → (at_ L i).Node = (at_ L j).Node → (at_ L j).Node = -1
section
variable {k : Ctx} {w : World} {z r d : Nat} {q : Option Addr} {L : List Api_entry}
theorem zNew_spec {p : Option Addr} (hO : Own k w []) :
    Tri Try.prog 45 #[.pointer (some ⟨r, 0, none⟩)] k w fun v m => ∃ z, v = .pointer (some ⟨z, 0, none⟩) ∧ m = [ralL z r []] := by
  refine enter (args := [.pointer (some ⟨r, 0, none⟩)]) Try.func45 rfl rfl ?_
  refine K0 (K1 ?_)
  refine l_y rfl rfl (y_assign rfl) ?_
  refine K2 (K3 (K0 (K1 ?_)))
  refine l_y rfl rfl (y_move rfl) ?_
  refine s_build (parts := [(0, .tmp 3)]) (cs := [.pointer (some ⟨r, 0, none⟩), .slice none 0 0]) rfl rfl (fun a ha => partsOf_sound ha _ _ rfl) (by kernel_rfl) ?_
  refine s_box (vs := [.pointer (some ⟨r, 0, none⟩), .slice none 0 0]) hO rfl rfl rfl (by rfl) fun b5 w hO => ?_
  refine l_y rfl rfl (y_assign rfl) ?_
  refine K2 (K3 (K6 ?_))
  have hO : Own k w (aI none 0 [] :: _) := sl_nil 70 10 hO
  exact fin1 rfl rfl ⟨_, ⟨_, rfl, rfl⟩, (ralL_shut (L := []) (hO.ks [.b b5, .p none]) rfl).one⟩
theorem zFindB_spec {x : Int} (hD : DistN L) (hg : Gs q L.length) (hl : L.length ≤ 2000000) (hO : Own k w [zB z r q L.length d, aI q d L]) :
    Tri Try.prog 47 #[.pointer (some ⟨z, 0, none⟩), .int .i64 x] k w fun v m => v = .int .i64 (findE L x) ∧ m = [zB z r q L.length d, aI q d L] := by
  refine enter (args := [.pointer (some ⟨z, 0, none⟩), .int .i64 x]) Try.func47 rfl rfl ?_
  refine K0 (K1 ?_)
  refine l_y rfl rfl (y_assign rfl) ?_
  refine K2 (K3 (K0 (K0 (K1 ?_))))
  refine l_y rfl rfl (y_move rfl) ?_
  refine l_y rfl rfl (y_nilCheck rfl rfl) ?_
  refine l_y rfl rfl (y_fldb (o' := 1) rfl) ?_
  refine l_y rfl rfl (D5 hO rfl) ?_
  refine l_y rfl rfl (y_lenL rfl) ?_
  refine l_y rfl rfl (D4) ?_
  refine l_y rfl rfl (y_assign rfl) ?_
  refine K2 (K3 (K4 ?_))
  refine c_rounds (X := Nat) (fun i => [(0, .pointer (some ⟨z, 0, none⟩)), (1, .int .i64 x), (4, .int .i64 0), (5, .int .i64 ((i : Int) - 1))]) (fun i w => Own k w [zB z r q L.length d, aI q d L] ∧ (i ≤ L.length) ∧ (∀ j, i ≤ j → j < L.length → (at_ L j).Node ≠ x)) (fun i => i) (L.length) ⟨rfl, rfl, rfl, rfl, trivial⟩ ⟨hO.only [.b z, .p q], Nat.le_refl _, fun j h1 h2 => absurd h2 (by omega)⟩ ?_
  rintro i w m hm ⟨hO, hi, hn⟩
  refine K0 (K0 (K1 ?_))
  refine l_y rfl rfl (y_move rfl) ?_
  refine Z0 (fun h2_1 => ?_) (fun h2_1 => ?_)
  · refine l_y rfl rfl (y_move rfl) ?_
    refine l_y rfl rfl (y_move rfl) ?_
    refine Z1 (fun h2_4 => ?_) (fun h2_4 => ?_)
    · refine l_y rfl rfl (y_pick_t rfl rfl) ?_
      refine K2 (K3 (L8 (K5 (K3 (K0 (K4 (K0 ?_)))))))
      obtain ⟨y, hy⟩ : ∃ y, i = y + 1 := ⟨i - 1, by omega⟩
      have ey : (i : Int) - 1 = (y : Int) := by omega
      rw [ey]
      refine K1 ?_
      refine l_y rfl rfl (y_move rfl) ?_
      refine l_y rfl rfl (y_nilCheck rfl rfl) ?_
      refine l_y rfl rfl (y_fldb (o' := 1) rfl) ?_
      refine l_y rfl rfl (D5 hO rfl) ?_
      refine l_y rfl rfl (y_move rfl) ?_
      refine l_y rfl rfl (y_idx rfl rfl) ?_
      refine l_y rfl rfl (y_fld (j' := 0) rfl) ?_
      refine l_y rfl rfl (y_e1 (x0 := 0) hO rfl) ?_
      refine l_y rfl rfl (y_move rfl) ?_
      refine Z0 (fun h4_9 => ?_) (fun h4_9 => ?_)
      · refine K2 (K3 (L8 (K0 (K1 ?_))))
        refine l_y rfl rfl (y_move rfl) ?_
        refine l_y rfl rfl (y_assign rfl) ?_
        refine K2 (K3 (K6 (L0 (K9 (K9 (L0 (K9 ?_)))))))
        rw [show findE L x = y by rw [findE, if_neg h2_4]; exact idx_at (p := fun e : Api_entry => decide (e.Node = x)) (i := y) (by omega) (decide_eq_true h4_9) (fun j hj => decide_eq_false (fun h => h2_4 (by have := hD j y hj (by omega) (h.trans h4_9.symm); rw [← this]; exact h4_9.symm)))]
        exact fin1 rfl rfl ⟨_, ⟨rfl, rfl⟩, hO.only [.b z, .p q]⟩
      · refine K2 (K3 (L9 (K5 (K8 (K3 (K1 ?_))))))
        refine l_y rfl rfl (y_move rfl) ?_
        refine l_y rfl rfl (D4) ?_
        refine l_y rfl rfl (y_assign rfl) ?_
        refine K2 ?_
        exact q_next (y) ⟨rfl, rfl, rfl, rfl, trivial⟩ ⟨hO.only [.b z, .p q], by omega, fun j h1 h2 => (by by_cases e : j = y; (subst e; exact h4_9); exact hn j (by omega) h2)⟩ (by omega)
    · refine l_y rfl rfl (y_pick_t rfl rfl) ?_
      refine K2 (K3 (L9 (K7 (L1 (L1 (L2 (K3 (K0 (K1 ?_)))))))))
      refine l_y rfl rfl (y_assign rfl) ?_
      refine K2 (K3 (K6 ?_))
      have e : findE L x = -1 := by
        first
          | exact findE_none (fun e he => by obtain ⟨j, hj, rfl⟩ := mem_at he; exact hn j (by omega) hj)
          | (rw [findE, if_pos]; first | assumption | (simpa using h2_4))
      rw [e]
      exact fin1 rfl rfl ⟨_, ⟨rfl, rfl⟩, hO.only [.b z, .p q]⟩
  · refine l_y rfl rfl (y_move rfl) ?_
    repeat refine M2 ?_
    refine l_y rfl rfl (y_pick_f rfl rfl) ?_
    refine K2 (K3 (L9 (K7 (L1 (L1 (L2 (K3 (K0 (K1 ?_)))))))))
    refine l_y rfl rfl (y_assign rfl) ?_
    refine K2 (K3 (K6 ?_))
    have e : findE L x = -1 := by
      first
        | exact findE_none (fun e he => by obtain ⟨j, hj, rfl⟩ := mem_at he; exact hn j (by omega) hj)
        | (rw [findE, if_pos]; first | assumption | (simpa using h2_4))
    rw [e]
    exact fin1 rfl rfl ⟨_, ⟨rfl, rfl⟩, hO.only [.b z, .p q]⟩
theorem zFind_spec {x : Int} (hD : DistN L) (hl : L.length ≤ 2000000) (hO : Own k w [ralL z r L]) :
    Tri Try.prog 47 #[.pointer (some ⟨z, 0, none⟩), .int .i64 x] k w fun v m => v = .int .i64 (findE L x) ∧ m = [ralL z r L] := by
  obtain ⟨q, d, hg, hlc, hO⟩ := ralL_open hO
  refine Ret.mono (zFindB_spec hD hg hl hO) ?_
  rintro v w' ⟨m, ⟨rfl, rfl⟩, hO⟩
  exact ⟨_, ⟨rfl, rfl⟩, ralL_shut hO⟩
theorem zMark_spec (hl : L.length ≤ 2000000) (hO : Own k w [ralL z r L]) :
    Tri Try.prog 112 #[.pointer (some ⟨z, 0, none⟩)] k w fun v m => v = .tuple #[] ∧ m = [ralL z r (L ++ [markE])] := by
  refine enter (args := [.pointer (some ⟨z, 0, none⟩)]) Try.func112 rfl rfl ?_
  obtain ⟨q, d, hg, hlc, hO⟩ := ralL_open hO
  refine K1 ?_
  refine l_y rfl rfl (y_move rfl) ?_
  refine l_y rfl rfl (y_move rfl) ?_
  refine l_y rfl rfl (y_nilCheck rfl rfl) ?_
  refine l_y rfl rfl (y_fldb (o' := 1) rfl) ?_
  refine l_y rfl rfl (D5 hO rfl) ?_
  refine s_build (parts := [(0, .const (.int .i64 (-1)))]) (cs := [.int .i64 (-1), .int .i64 0, .string ⟨#[]⟩, .string ⟨#[]⟩, .string ⟨#[]⟩, .int .i64 0, .bool false, .int .i32 0, .bool false, .slice none 0 0]) rfl rfl (fun a ha => partsOf_sound ha _ _ rfl) (by kernel_rfl) ?_
  refine s_lit (parts := [(0, .tmp 7)]) (enc := Api_entry.cells) [⟨(-1), ⟨0, ⟨#[]⟩, ⟨#[]⟩, ⟨#[]⟩, 0, false, 0, false, none, [], 0⟩⟩] [.agg [.int .i64 (-1), .int .i64 0, .string ⟨#[]⟩, .string ⟨#[]⟩, .string ⟨#[]⟩, .int .i64 0, .bool false, .int .i32 0, .bool false, .slice none 0 0].toArray] hO rfl (fun b8 w hO => ?_)
  refine s_app hO rfl rfl (src_own hO) (fun p9 c9 w hO gs9 => ?_)
  refine l_y rfl rfl (y_nilCheck rfl rfl) ?_
  refine l_y rfl rfl (y_fldb (o' := 1) rfl) ?_
  refine Y1 hO rfl rfl (fun w hO => ?_)
  simp only [List.set_cons_zero, List.set_cons_succ] at hO
  refine K2 ?_
  exact fin0 rfl ⟨_, ⟨rfl, rfl⟩, (ralL_shut (hO.ks [.b z, .p p9]) rfl).one⟩
theorem zAt_spec {i : Int} (hl : L.length ≤ 2000000) (hO : Own k w [ralL z r L]) :
    Tri Try.prog 48 #[.pointer (some ⟨z, 0, none⟩), .int .i64 i] k w fun v m => (((i < 0 ∨ (L.length : Int) ≤ i) ∧ v = .tuple #[.agg (Api_entry.cells default).toArray, .int .i64 1]) ∨ ((0 ≤ i ∧ i < L.length) ∧ v = .tuple #[.agg (Api_entry.cells (at_ L i.toNat)).toArray, .int .i64 0])) ∧ m = [ralL z r L] := by
  refine enter (args := [.pointer (some ⟨z, 0, none⟩), .int .i64 i]) Try.func48 rfl rfl ?_
  obtain ⟨q, d, hg, hlc, hO⟩ := ralL_open hO
  refine K0 (K1 ?_)
  refine s_alloc (vs := [.int .i64 0, .int .i64 0, .string ⟨#[]⟩, .string ⟨#[]⟩, .string ⟨#[]⟩, .int .i64 0, .bool false, .int .i32 0, .bool false, .slice none 0 0]) hO rfl rfl rfl fun b4 w hO => ?_
  refine l_y rfl rfl (y_assign rfl) ?_
  refine K2 (K3 (K0 (K0 (K1 ?_))))
  refine l_y rfl rfl (y_move rfl) ?_
  refine Z0 (fun h1_1 => ?_) (fun h1_1 => ?_)
  · refine l_y rfl rfl (y_move rfl) ?_
    repeat refine M2 ?_
    refine l_y rfl rfl (y_pick_t rfl rfl) ?_
    refine K2 (K3 (L8 (K0 (K1 ?_))))
    refine s_build (parts := []) (cs := [.int .i64 0, .int .i64 0, .string ⟨#[]⟩, .string ⟨#[]⟩, .string ⟨#[]⟩, .int .i64 0, .bool false, .int .i32 0, .bool false, .slice none 0 0]) rfl rfl (fun a ha => partsOf_sound ha _ _ rfl) (by kernel_rfl) ?_
    refine Y3 hO rfl rfl (fun w hO => ?_)
    refine l_y rfl rfl (y_assign rfl) ?_
    refine K2 (K3 (K6 (K9 ?_)))
    exact finC1 hO rfl rfl rfl ⟨_, ⟨.inl ⟨by omega, rfl⟩, rfl⟩, (ralL_shut (hO.ks [.b z, .p q])).one⟩
  · refine l_y rfl rfl (y_move rfl) ?_
    refine l_y rfl rfl (y_move rfl) ?_
    refine l_y rfl rfl (y_move rfl) ?_
    refine l_y rfl rfl (y_nilCheck rfl rfl) ?_
    refine l_y rfl rfl (y_fldb (o' := 1) rfl) ?_
    refine l_y rfl rfl (D5 hO rfl) ?_
    refine l_y rfl rfl (y_lenL rfl) ?_
    refine Z0 (fun h1_9 => ?_) (fun h1_9 => ?_)
    · refine l_y rfl rfl (y_pick_f rfl rfl) ?_
      refine K2 (K3 (L8 (K0 (K1 ?_))))
      refine s_build (parts := []) (cs := [.int .i64 0, .int .i64 0, .string ⟨#[]⟩, .string ⟨#[]⟩, .string ⟨#[]⟩, .int .i64 0, .bool false, .int .i32 0, .bool false, .slice none 0 0]) rfl rfl (fun a ha => partsOf_sound ha _ _ rfl) (by kernel_rfl) ?_
      refine Y3 hO rfl rfl (fun w hO => ?_)
      refine l_y rfl rfl (y_assign rfl) ?_
      refine K2 (K3 (K6 (K9 ?_)))
      exact finC1 hO rfl rfl rfl ⟨_, ⟨.inl ⟨by omega, rfl⟩, rfl⟩, (ralL_shut (hO.ks [.b z, .p q])).one⟩
    · refine l_y rfl rfl (y_pick_f rfl rfl) ?_
      refine K2 (K3 (L9 (K5 (K3 (K0 (K1 ?_))))))
      refine l_y rfl rfl (y_move rfl) ?_
      refine l_y rfl rfl (y_nilCheck rfl rfl) ?_
      refine l_y rfl rfl (y_fldb (o' := 1) rfl) ?_
      refine l_y rfl rfl (D5 hO rfl) ?_
      refine l_y rfl rfl (y_move rfl) ?_
      refine l_y rfl rfl (y_idx rfl rfl) ?_
      refine l_y rfl rfl (y_eA (x0 := 0) (cs := [.int .i64 (at_ L (i : Int).toNat).Node, .int .i64 (at_ L (i : Int).toNat).Token.Kind, .string (at_ L (i : Int).toNat).Token.Name, .string (at_ L (i : Int).toNat).Token.Data, .string (at_ L (i : Int).toNat).Token.System, .int .i64 (at_ L (i : Int).toNat).Token.Has, .bool (at_ L (i : Int).toNat).Token.Quirks, .int .i32 (at_ L (i : Int).toNat).Token.Char, .bool (at_ L (i : Int).toNat).Token.Self, .slice (at_ L (i : Int).toNat).Token.AttrsP (at_ L (i : Int).toNat).Token.Attrs.length (at_ L (i : Int).toNat).Token.AttrsC]) hO rfl) ?_
      refine Y3 hO rfl rfl (fun w hO => ?_)
      refine l_y rfl rfl (y_assign rfl) ?_
      refine K2 (K3 (K6 ?_))
      exact finC1 hO rfl rfl rfl ⟨_, ⟨.inr ⟨by omega, rfl⟩, rfl⟩, (ralL_shut (hO.ks [.b z, .p q])).one⟩
end
end Go.Proofs.Ytbhicbpfdbnpfaa
