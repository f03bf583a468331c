/- What the row of this folder leans on, part 3: the walks of the functions and the laws of what they compute; no condition. -/
import Derived.Test.YtoohapbaelmkcaaGreatBnd2
section
set_option linter.unusedVariables false
set_option linter.unusedSimpArgs false
namespace Go.Proofs.YtoohapbaelmkcaaGreat
open Go Go.Hb Go.RowKit
theorem unlink_fail {A : List Node_one} {id : Int} (h : (unlinkL A id).1 ≠ 0) : (unlinkL A id).2 = A := by
  revert h
  unfold unlinkL
  repeat' split
  all_goals simp
theorem unlink_core {A : List Node_one} {K : Int → List Int} (t : Tree A K) (id : Int) : ∀ y : Int, 0 ≤ y → coreN (at_ (unlinkL A id).2 y.toNat) = coreN (at_ A y.toNat) := fun y hy => by
  by_cases h0 : (unlinkL A id).1 = 0
  · obtain ⟨l1, l2, g⟩ := unlink_ok t h0
    have h1 := t.prevIn g.hid
    have h2 := t.nextIn g.hid
    rw [g.prev] at h1
    rw [g.next] at h2
    rw [g.res]
    exact (gone_at g.hid g.hup h1 h2 hy).core
  · rw [unlink_fail h0]
end Go.Proofs.YtoohapbaelmkcaaGreat
end
section
set_option linter.unusedVariables false
set_option linter.unusedSimpArgs false
set_option maxRecDepth 100000
namespace Go.Proofs.YtoohapbaelmkcaaGreat
open Go Go.Hb Go.RowKit
section
variable {P : Program} {ops : Array Oper} {Q : Exit → Act → World → Prop} {n : Nat} {ds : List Deferred} {E : Env} {w : World} {k : Ctx} {l : List HP}
variable {rest : List Oper} {d : Option Tmp} {ty : TypeId} {pos : String} {aft : Array Edge} {g : Option (Nat × Bool)}
/-- copy(x[i:], x[i+1:]) of one's own x -/
theorem s_cpTail {t u T : TypeId} {agg : Bool} {sz : Nat} [hu : Und P t (.slice T)] [hl : Lay P T agg sz] {x y : Operand} {p : Option Addr} {c i : Nat} {α : Type} {enc : α → List Value} {xs : List α} {rl : List HP} (hO : Own k w l) (hx : ev E x = some (.slice (subp p c i sz) (xs.length - i) (c - i))) (hy : ev E y = some (.slice (subp p c (i + 1) sz) (xs.length - (i + 1)) (c - (i + 1)))) {sz' : Nat} [hp : PkP l p T α c sz' enc xs rl] [ho : OneC enc sz] (hi : i < xs.length)
    (h : ∀ w', Own k w' (sls p c T sz enc (xs.take i ++ xs.drop (i + 1) ++ xs.drop (xs.length - 1)) :: rl) → LW P ops Q n ds rest (E.put d (.int .i64 ((xs.length - (i + 1) : Nat) : Int))) w') (hsz : sz' = sz := by rfl) (hg : gd ops E g = some true := by rfl) (hd : dok n d = true := by rfl) : LW P ops Q n ds (⟨d, .call ⟨.builtin .copy, #[x, y], #[t, u]⟩, ty, pos, aft, g⟩ :: rest) E w := by
  subst hsz
  have hO1 := hO.pull hp.pull
  have hv := sls_sli (p := p) hO1
  have hf := sls_fct (p := p) hO1
  obtain ⟨b, o, rfl⟩ := hf.2 (by omega)
  have hv2 := sli_tl (cuts_holds w) hv (i + 1) (by omega)
  have hO2 := arr_sls hO1 rfl
  have hlen : (xs.drop (i + 1)).length = xs.length - (i + 1) := by simp
  have hs : Src P w sz' (.slice (subp (some ⟨b, o, none⟩) c (i + 1) sz') (xs.length - (i + 1)) (c - (i + 1))) ((xs.drop (i + 1)).map enc).length ((xs.drop (i + 1)).map enc).flatten := by
    rw [List.length_map]
    rw [← hlen] at hv2 ⊢
    exact src_sli hv2
  refine s_copy (i := i) (news := (xs.drop (i + 1)).map enc) hO2 (.hd _ _) hg hd hx hy hs (OneC.rows _) (by simp; omega) (by simp; omega) (fun _ => ?_) fun w' hO3 => ?_
  · rw [subp, if_neg (by have := hf.1; omega)]; simp only [Option.map_some, Addr.add_lit]
  · rw [List.length_map, hlen] at hO3 ⊢
    refine h w' ?_
    have e : (xs.map enc).take i ++ (xs.drop (i + 1)).map enc ++ (xs.map enc).drop (i + (xs.length - (i + 1))) = (xs.take i ++ xs.drop (i + 1) ++ xs.drop (xs.length - 1)).map enc := by
      rw [show i + (xs.length - (i + 1)) = xs.length - 1 by omega]; simp
    rw [e] at hO3
    refine sls_mk (sl_shut hO3 rfl) ?_ rfl
    simp
end
section
variable {k : Ctx} {w : World} {s a c : Nat} {p : Option Addr} {L : List Api_entry} {A : List Node_one}
abbrev aB (s a : Nat) (p : Option Addr) (n c : Nat) : HP := blk s 113 [.pointer (some ⟨a, 0, none⟩), .slice p n c]
abbrev aI (p : Option Addr) (c : Nat) (l : List Api_entry) : HP := sls p c 55 10 Api_entry.cells l
def actL (s a : Nat) (l : List Api_entry) : HP := fun h => ∃ x : Option Addr × Nat, sep [aB s a x.1 l.length x.2, aI x.1 x.2 l] h
theorem actL_open {M : List HP} (hO : Own k w (actL s a L :: M)) : ∃ p c, Gs p L.length ∧ L.length ≤ c ∧ Own k w (aB s a p L.length c :: aI p c L :: M) := by
  obtain ⟨⟨p, c⟩, hO⟩ := Own.ex (A := fun (x : Option Addr × Nat) => sep [aB s a x.1 L.length x.2, aI x.1 x.2 L]) hO
  have hO := Own.open hO
  simp only [List.cons_append, List.nil_append] at hO
  exact ⟨p, c, (sls_fct (p := p) hO).2, (sls_fct (p := p) hO).1, hO⟩
theorem actL_shut {M : List HP} {n : Nat} (hO : Own k w (aB s a p n c :: aI p c L :: M)) (hn : n = L.length := by first | rfl | simp) : Own k w (actL s a L :: M) := by
  subst hn
  exact (Own.shut (l := [aB s a p L.length c, aI p c L]) hO).tell fun h hA => ⟨(p, c), hA⟩
instance (priority := high) AtK.hact (s a : Nat) (l : List Api_entry) (M : List HP) : AtK (actL s a l :: M) (.o s) (actL s a l) M := ⟨.hd _ M⟩
theorem aNew_spec {a : Nat} (hn : 0 < A.length) (hO : Own k w [arenaL a A]) :
    Tri Tryz.prog 24 #[.pointer (some ⟨a, 0, none⟩)] k w fun v m => ∃ s, v = .tuple #[.pointer (some ⟨s, 0, none⟩), .int .i64 0] ∧ m = [arenaL a A, actL s a []] := by
  refine enter (args := [.pointer (some ⟨a, 0, none⟩)]) Tryz.func24 rfl rfl ?_
  refine K0 (K1 ?_)
  refine l_y rfl rfl (y_assign rfl) ?_
  refine l_y rfl rfl (y_assign rfl) ?_
  refine K2 (K3 (K0 (K0 (K1 ?_))))
  refine l_y rfl rfl (y_move rfl) ?_
  refine CK [.o a] hO rfl (fun k' hx hr hO' => LenC_spec hn (hO := hO')) ?_
  rintro _ _ w ⟨rfl, rfl⟩ hO
  simp only [List.cons_append, List.nil_append] at hO
  refine N3 ?_
  refine K2 (K3 (L9 (K5 (K3 (K0 (K1 ?_))))))
  refine l_y rfl rfl (y_move rfl) ?_
  refine s_build (parts := [(0, .tmp 7)]) (cs := [.pointer (some ⟨a, 0, none⟩), .slice none 0 0]) rfl rfl (fun a ha => partsOf_sound ha _ _ rfl) (by kernel_rfl) ?_
  refine s_box (vs := [.pointer (some ⟨a, 0, none⟩), .slice none 0 0]) hO rfl rfl rfl (by rfl) fun b9 w hO => ?_
  refine l_y rfl rfl (y_assign rfl) ?_
  refine l_y rfl rfl (y_assign rfl) ?_
  refine K2 (K3 (K6 ?_))
  have hO : Own k w (aI none 0 [] :: _) := sl_nil 55 10 hO
  exact fin2 rfl rfl rfl ⟨_, ⟨_, rfl, rfl⟩, ((actL_shut (L := []) (hO.ks [.b b9, .p none]) rfl).ks [.o a, .o b9]).two⟩
theorem anone_spec {n : Nat} (hO : Own k w [aB s a p n c]) :
    Tri Tryz.prog 50 #[.pointer (some ⟨s, 0, none⟩)] k w fun v m => v = .bool false ∧ m = [aB s a p n c] := by
  refine enter (args := [.pointer (some ⟨s, 0, none⟩)]) Tryz.func50 rfl rfl ?_
  refine K0 (K1 ?_)
  refine l_y rfl rfl (y_assign rfl) ?_
  refine K2 (K3 (K0 (K1 ?_)))
  refine l_y rfl rfl (y_move rfl) ?_
  refine l_y rfl rfl (y_eqPnil rfl rfl rfl) ?_
  refine l_y rfl rfl (y_move rfl) ?_
  refine l_y rfl rfl (y_move rfl) ?_
  refine l_y rfl rfl (y_nilCheck rfl rfl) ?_
  refine l_y rfl rfl (y_fldb (o' := 0) rfl) ?_
  refine l_y rfl rfl (D5 hO rfl) ?_
  refine l_y rfl rfl (y_eqPnil rfl rfl rfl) ?_
  refine l_y rfl rfl (y_pick_f rfl rfl) ?_
  refine l_y rfl rfl (y_assign rfl) ?_
  refine K2 (K3 (K6 ?_))
  exact fin1 rfl rfl ⟨_, ⟨rfl, rfl⟩, hO⟩
theorem aLen_spec (hO : Own k w [actL s a L]) :
    Tri Tryz.prog 16 #[.pointer (some ⟨s, 0, none⟩)] k w fun v m => v = .int .i64 ((L.length : Nat) : Int) ∧ m = [actL s a L] := by
  refine enter (args := [.pointer (some ⟨s, 0, none⟩)]) Tryz.func16 rfl rfl ?_
  obtain ⟨p, c, hg, hlc, hO⟩ := actL_open hO
  refine K0 (K1 ?_)
  refine l_y rfl rfl (y_assign rfl) ?_
  refine K2 (K3 (K0 (K0 (K1 ?_))))
  refine l_y rfl rfl (y_move rfl) ?_
  refine CK [.b s] hO rfl (fun k' hx hr hO' => anone_spec (hO := hO')) ?_
  rintro _ _ w ⟨rfl, rfl⟩ hO
  simp only [List.cons_append, List.nil_append] at hO
  refine K2 (K3 (L9 (K5 (K3 (K0 (K1 ?_))))))
  refine l_y rfl rfl (y_move rfl) ?_
  refine l_y rfl rfl (y_nilCheck rfl rfl) ?_
  refine l_y rfl rfl (y_fldb (o' := 1) rfl) ?_
  refine l_y rfl rfl (D5 hO rfl) ?_
  refine l_y rfl rfl (y_lenL rfl) ?_
  refine l_y rfl rfl (y_assign rfl) ?_
  refine K2 (K3 (K6 ?_))
  exact fin1 rfl rfl ⟨_, ⟨rfl, rfl⟩, (actL_shut (hO.ks [.b s, .p p])).one⟩
def markE : Api_entry := ⟨-1, default⟩
theorem aMark_spec (hl : L.length ≤ 2000000) (hO : Own k w [actL s a L]) :
    Tri Tryz.prog 31 #[.pointer (some ⟨s, 0, none⟩)] k w fun v m => v = .int .i64 0 ∧ m = [actL s a (L ++ [markE])] := by
  refine enter (args := [.pointer (some ⟨s, 0, none⟩)]) Tryz.func31 rfl rfl ?_
  obtain ⟨p, c, hg, hlc, hO⟩ := actL_open hO
  refine K0 (K1 ?_)
  refine l_y rfl rfl (y_assign rfl) ?_
  refine K2 (K3 (K0 (K0 (K1 ?_))))
  refine l_y rfl rfl (y_move rfl) ?_
  refine CK [.b s] hO rfl (fun k' hx hr hO' => anone_spec (hO := hO')) ?_
  rintro _ _ w ⟨rfl, rfl⟩ hO
  simp only [List.cons_append, List.nil_append] at hO
  refine K2 (K3 (L9 (K5 (K3 (K0 (K1 ?_))))))
  refine l_y rfl rfl (y_move rfl) ?_
  refine l_y rfl rfl (y_move rfl) ?_
  refine l_y rfl rfl (y_nilCheck rfl rfl) ?_
  refine l_y rfl rfl (y_fldb (o' := 1) rfl) ?_
  refine l_y rfl rfl (D5 hO rfl) ?_
  refine s_build (parts := [(0, .const (.int .i64 (-1)))]) (cs := [.int .i64 (-1), .int .i64 0, .string ⟨#[]⟩, .string ⟨#[]⟩, .string ⟨#[]⟩, .int .i64 0, .bool false, .int .i32 0, .bool false, .slice none 0 0]) rfl rfl (fun a ha => partsOf_sound ha _ _ rfl) (by kernel_rfl) ?_
  refine s_lit (parts := [(0, .tmp 10)]) (enc := Api_entry.cells) [⟨(-1), ⟨0, ⟨#[]⟩, ⟨#[]⟩, ⟨#[]⟩, 0, false, 0, false, none, [], 0⟩⟩] [.agg [.int .i64 (-1), .int .i64 0, .string ⟨#[]⟩, .string ⟨#[]⟩, .string ⟨#[]⟩, .int .i64 0, .bool false, .int .i32 0, .bool false, .slice none 0 0].toArray] hO rfl (fun b11 w hO => ?_)
  refine s_app hO rfl rfl (src_own hO) (fun p12 c12 w hO gs12 => ?_)
  refine l_y rfl rfl (y_nilCheck rfl rfl) ?_
  refine l_y rfl rfl (y_fldb (o' := 1) rfl) ?_
  refine Y1 hO rfl rfl (fun w hO => ?_)
  simp only [List.set_cons_zero, List.set_cons_succ] at hO
  refine K2 (K3 (K0 (K1 ?_)))
  refine l_y rfl rfl (y_assign rfl) ?_
  refine K2 (K3 (K6 ?_))
  exact fin1 rfl rfl ⟨_, ⟨rfl, rfl⟩, (actL_shut (hO.ks [.b s, .p p12])).one⟩
def findE (L : List Api_entry) (x : Int) : Int := if x = -1 then -1 else idx (fun y : Api_entry => decide (y.Node = x)) L
theorem aFindB_spec {x : Int} (hg : Gs p L.length) (hl : L.length ≤ 2000000) (hO : Own k w [aB s a p L.length c, aI p c L]) :
    Tri Tryz.prog 36 #[.pointer (some ⟨s, 0, none⟩), .int .i64 x] k w fun v m => v = .int .i64 (findE L x) ∧ m = [aB s a p L.length c, aI p c L] := by
  refine enter (args := [.pointer (some ⟨s, 0, none⟩), .int .i64 x]) Tryz.func36 rfl rfl ?_
  refine K0 (K1 ?_)
  refine l_y rfl rfl (y_assign rfl) ?_
  refine K2 (K3 (K0 (K0 (K1 ?_))))
  refine l_y rfl rfl (y_move rfl) ?_
  refine CK [.b s] hO rfl (fun k' hx hr hO' => anone_spec (hO := hO')) ?_
  rintro _ _ w ⟨rfl, rfl⟩ hO
  simp only [List.cons_append, List.nil_append] at hO
  refine l_y rfl rfl (y_move rfl) ?_
  refine l_y rfl rfl (y_move rfl) ?_
  refine Z0 (fun h1_4 => ?_) (fun h1_4 => ?_)
  · refine l_y rfl rfl (y_pick_f rfl rfl) ?_
    refine K2 (K3 (L8 (K0 (K1 ?_))))
    refine l_y rfl rfl (y_assign rfl) ?_
    refine K2 (K3 (K6 (K9 ?_)))
    exact fin1 rfl rfl ⟨_, ⟨by rw [findE, if_pos h1_4], rfl⟩, hO.only [.b s, .p p]⟩
  · refine l_y rfl rfl (y_pick_f rfl rfl) ?_
    refine K2 (K3 (L9 (K5 (K3 (K0 (K0 (K1 ?_)))))))
    refine l_y rfl rfl (y_move rfl) ?_
    refine l_y rfl rfl (y_nilCheck rfl rfl) ?_
    refine l_y rfl rfl (y_fldb (o' := 1) rfl) ?_
    refine l_y rfl rfl (D5 hO rfl) ?_
    refine l_y rfl rfl (y_lenL rfl) ?_
    refine l_y rfl rfl (y_move rfl) ?_
    refine K2 (K3 (K4 ?_))
    refine c_rounds (X := Nat) (fun i => [(1, .int .i64 x), (4, .int .i64 0), (16, .slice p L.length c), (17, .int .i64 ((L.length : Nat) : Int)), (18, .int .i64 (i : Int))]) (fun i w => Own k w [aB s a p L.length c, aI p c L] ∧ (i ≤ L.length) ∧ (∀ j, j < i → decide ((at_ L j).Node = x) = false)) (fun i => L.length - i) (0) ⟨rfl, rfl, rfl, rfl, rfl, trivial⟩ ⟨hO.only [.b s, .p p], Nat.zero_le _, fun j hj => absurd hj (Nat.not_lt_zero j)⟩ ?_
    rintro i w m hm ⟨hO, hi, hn⟩
    refine K0 (K1 ?_)
    refine Z0 (fun h4_0 => ?_) (fun h4_0 => ?_)
    · refine K2 (K3 (K0 (L8 (K5 (K3 (K0 (K4 (K0 (K1 ?_)))))))))
      refine l_y rfl rfl (y_move rfl) ?_
      refine l_y rfl rfl (y_idx rfl rfl) ?_
      refine l_y rfl rfl (y_eA (x0 := 0) (cs := [.int .i64 (at_ L ((i : Int) : Int).toNat).Node, .int .i64 (at_ L ((i : Int) : Int).toNat).Token.Kind, .string (at_ L ((i : Int) : Int).toNat).Token.Name, .string (at_ L ((i : Int) : Int).toNat).Token.Data, .string (at_ L ((i : Int) : Int).toNat).Token.System, .int .i64 (at_ L ((i : Int) : Int).toNat).Token.Has, .bool (at_ L ((i : Int) : Int).toNat).Token.Quirks, .int .i32 (at_ L ((i : Int) : Int).toNat).Token.Char, .bool (at_ L ((i : Int) : Int).toNat).Token.Self, .slice (at_ L ((i : Int) : Int).toNat).Token.AttrsP (at_ L ((i : Int) : Int).toNat).Token.Attrs.length (at_ L ((i : Int) : Int).toNat).Token.AttrsC]) hO rfl) ?_
      refine s_alloc (vs := [.int .i64 0, .int .i64 0, .string ⟨#[]⟩, .string ⟨#[]⟩, .string ⟨#[]⟩, .int .i64 0, .bool false, .int .i32 0, .bool false, .slice none 0 0]) hO rfl rfl rfl fun b6 w hO => ?_
      refine l_y rfl rfl (y_assign rfl) ?_
      refine Y3 hO rfl rfl (fun w hO => ?_)
      refine K2 (K3 (K0 (K1 ?_)))
      refine l_y rfl rfl (y_fldb (o' := 0) rfl) ?_
      refine l_y rfl rfl (D5 hO rfl) ?_
      refine l_y rfl rfl (y_move rfl) ?_
      refine Z0 (fun h6_3 => ?_) (fun h6_3 => ?_)
      · refine K2 (K3 (L8 (K0 (K1 ?_))))
        refine l_y rfl rfl (y_move rfl) ?_
        refine l_y rfl rfl (y_assign rfl) ?_
        refine K2 (K3 (K6 (L0 (K9 (K9 (L0 (K9 ?_)))))))
        rw [show findE L x = i by rw [findE, if_neg h1_4]; exact idx_at (i := i) (by omega) (decide_eq_true h6_3) hn]
        exact fin1 rfl rfl ⟨_, ⟨rfl, rfl⟩, hO.only [.b s, .p p]⟩
      · refine K2 (K3 (L9 (K5 (K8 (K3 (K1 ?_))))))
        refine l_y rfl rfl (D4) ?_
        refine l_y rfl rfl (y_move rfl) ?_
        refine K2 ?_
        exact q_next (i + 1) ⟨rfl, rfl, rfl, rfl, rfl, trivial⟩ ⟨hO.only [.b s, .p p], by omega, fun j hj => (by by_cases e : j = i; (subst e; exact decide_eq_false (fun h => h6_3 h)); exact hn j (by omega))⟩ (by omega)
    · refine K2 (K3 (K0 (L9 (K7 (L1 (L1 (L2 (K3 (K0 (K1 ?_))))))))))
      refine l_y rfl rfl (y_assign rfl) ?_
      refine K2 (K3 (K6 ?_))
      rw [show findE L x = -1 by rw [findE, if_neg h1_4]; exact idx_none (fun j hj => hn j (by omega))]
      exact fin1 rfl rfl ⟨_, ⟨rfl, rfl⟩, hO.only [.b s, .p p]⟩
theorem aFind_spec {x : Int} (hl : L.length ≤ 2000000) (hO : Own k w [actL s a L]) :
    Tri Tryz.prog 36 #[.pointer (some ⟨s, 0, none⟩), .int .i64 x] k w fun v m => v = .int .i64 (findE L x) ∧ m = [actL s a L] := by
  obtain ⟨p, c, hg, hlc, hO⟩ := actL_open hO
  refine Ret.mono (aFindB_spec hg hl hO) ?_
  rintro v w' ⟨m, ⟨rfl, rfl⟩, hO⟩
  exact ⟨_, ⟨rfl, rfl⟩, actL_shut hO⟩
theorem aAt_spec {i : Int} (hl : L.length ≤ 2000000) (hO : Own k w [actL s a L]) :
    Tri Tryz.prog 17 #[.pointer (some ⟨s, 0, none⟩), .int .i64 i] k w fun v m => (((i < 0 ∨ (L.length : Int) ≤ i) ∧ v = .tuple #[.agg (Api_entry.cells default).toArray, .int .i64 1]) ∨ ((0 ≤ i ∧ i < L.length) ∧ v = .tuple #[.agg (Api_entry.cells (at_ L i.toNat)).toArray, .int .i64 0])) ∧ m = [actL s a L] := by
  refine enter (args := [.pointer (some ⟨s, 0, none⟩), .int .i64 i]) Tryz.func17 rfl rfl ?_
  obtain ⟨p, c, hg, hlc, hO⟩ := actL_open hO
  refine K0 (K1 ?_)
  refine s_alloc (vs := [.int .i64 0, .int .i64 0, .string ⟨#[]⟩, .string ⟨#[]⟩, .string ⟨#[]⟩, .int .i64 0, .bool false, .int .i32 0, .bool false, .slice none 0 0]) hO rfl rfl rfl fun b4 w hO => ?_
  refine l_y rfl rfl (y_assign rfl) ?_
  refine K2 (K3 (K0 (K4 (K0 (K1 ?_)))))
  refine l_y rfl rfl (y_move rfl) ?_
  refine CK [.b s] hO rfl (fun k' hx hr hO' => anone_spec (hO := hO')) ?_
  rintro _ _ w ⟨rfl, rfl⟩ hO
  simp only [List.cons_append, List.nil_append] at hO
  refine l_y rfl rfl (y_assign rfl) ?_
  refine K2 (K3 (L9 (K0 (K1 ?_))))
  refine l_y rfl rfl (y_move rfl) ?_
  refine Z0 (fun h3_1 => ?_) (fun h3_1 => ?_)
  · refine l_y rfl rfl (y_move rfl) ?_
    repeat refine M2 ?_
    refine l_y rfl rfl (y_pick_t rfl rfl) ?_
    refine l_y rfl rfl (y_assign rfl) ?_
    refine K2 (K3 (L8 (K0 (K1 ?_))))
    refine s_build (parts := []) (cs := [.int .i64 0, .int .i64 0, .string ⟨#[]⟩, .string ⟨#[]⟩, .string ⟨#[]⟩, .int .i64 0, .bool false, .int .i32 0, .bool false, .slice none 0 0]) rfl rfl (fun a ha => partsOf_sound ha _ _ rfl) (by kernel_rfl) ?_
    refine Y3 hO rfl rfl (fun w hO => ?_)
    refine l_y rfl rfl (y_assign rfl) ?_
    refine K2 (K3 (K6 (L0 (K9 ?_))))
    exact finC1 hO rfl rfl rfl ⟨_, ⟨.inl ⟨by omega, rfl⟩, rfl⟩, (actL_shut (hO.ks [.b s, .p p])).one⟩
  · refine l_y rfl rfl (y_move rfl) ?_
    refine l_y rfl rfl (y_move rfl) ?_
    refine l_y rfl rfl (y_move rfl) ?_
    refine l_y rfl rfl (y_nilCheck rfl rfl) ?_
    refine l_y rfl rfl (y_fldb (o' := 1) rfl) ?_
    refine l_y rfl rfl (D5 hO rfl) ?_
    refine l_y rfl rfl (y_lenL rfl) ?_
    refine Z0 (fun h3_9 => ?_) (fun h3_9 => ?_)
    · refine l_y rfl rfl (y_pick_f rfl rfl) ?_
      refine l_y rfl rfl (y_assign rfl) ?_
      refine K2 (K3 (L8 (K0 (K1 ?_))))
      refine s_build (parts := []) (cs := [.int .i64 0, .int .i64 0, .string ⟨#[]⟩, .string ⟨#[]⟩, .string ⟨#[]⟩, .int .i64 0, .bool false, .int .i32 0, .bool false, .slice none 0 0]) rfl rfl (fun a ha => partsOf_sound ha _ _ rfl) (by kernel_rfl) ?_
      refine Y3 hO rfl rfl (fun w hO => ?_)
      refine l_y rfl rfl (y_assign rfl) ?_
      refine K2 (K3 (K6 (L0 (K9 ?_))))
      exact finC1 hO rfl rfl rfl ⟨_, ⟨.inl ⟨by omega, rfl⟩, rfl⟩, (actL_shut (hO.ks [.b s, .p p])).one⟩
    · refine l_y rfl rfl (y_pick_f rfl rfl) ?_
      refine l_y rfl rfl (y_assign rfl) ?_
      refine K2 (K3 (L9 (K5 (K8 (K3 (K0 (K1 ?_)))))))
      refine l_y rfl rfl (y_move rfl) ?_
      refine l_y rfl rfl (y_nilCheck rfl rfl) ?_
      refine l_y rfl rfl (y_fldb (o' := 1) rfl) ?_
      refine l_y rfl rfl (D5 hO rfl) ?_
      refine l_y rfl rfl (y_move rfl) ?_
      refine l_y rfl rfl (y_idx rfl rfl) ?_
      refine l_y rfl rfl (y_eA (x0 := 0) (cs := [.int .i64 (at_ L (i : Int).toNat).Node, .int .i64 (at_ L (i : Int).toNat).Token.Kind, .string (at_ L (i : Int).toNat).Token.Name, .string (at_ L (i : Int).toNat).Token.Data, .string (at_ L (i : Int).toNat).Token.System, .int .i64 (at_ L (i : Int).toNat).Token.Has, .bool (at_ L (i : Int).toNat).Token.Quirks, .int .i32 (at_ L (i : Int).toNat).Token.Char, .bool (at_ L (i : Int).toNat).Token.Self, .slice (at_ L (i : Int).toNat).Token.AttrsP (at_ L (i : Int).toNat).Token.Attrs.length (at_ L (i : Int).toNat).Token.AttrsC]) hO rfl) ?_
      refine Y3 hO rfl rfl (fun w hO => ?_)
      refine l_y rfl rfl (y_assign rfl) ?_
      refine K2 (K3 (K6 ?_))
      exact finC1 hO rfl rfl rfl ⟨_, ⟨.inr ⟨by omega, rfl⟩, rfl⟩, (actL_shut (hO.ks [.b s, .p p])).one⟩
end
end Go.Proofs.YtoohapbaelmkcaaGreat
end
section
set_option linter.unusedVariables false
set_option linter.unusedSimpArgs false
set_option maxRecDepth 100000
namespace Go.Proofs.YtoohapbaelmkcaaGreat
open Go Go.Hb Go.RowKit
section
variable {k : Ctx} {w : World} {s a c : Nat} {p : Option Addr} {L : List Api_entry} {A : List Node_one}
def withinB (xs ys : List Api_attr) : Bool := xs.all fun x => ys.any fun y => decide (x = y)
theorem any_snoc {α : Type} [Inhabited α] {xs : List α} {f : α → Bool} {i : Nat} (hi : i < xs.length) : (xs.take (i + 1)).any f = ((xs.take i).any f || f (at_ xs i)) := by
  rw [take_succ_at hi]; simp
theorem within_spec {xs ys : List Api_attr} {px py : Option Addr} {cx cy : Nat} (hx1 : Sli (Ro k) (.slice px xs.length cx) (xs.map Api_attr.cells)) (hy1 : Sli (Ro k) (.slice py ys.length cy) (ys.map Api_attr.cells)) (hxl : xs.length ≤ 9223372036854775807) (hyl : ys.length ≤ 9223372036854775807) (hO : Own k w []) :
    Tri Tryz.prog 95 #[.slice px xs.length cx, .slice py ys.length cy] k w fun v m => v = .bool (withinB xs ys) ∧ m = [] := by
  refine enter (args := [.slice px xs.length cx, .slice py ys.length cy]) Tryz.func95 rfl rfl ?_
  have hgx := sli_gs hx1
  have hgy := sli_gs hy1
  refine K0 (K1 ?_)
  refine l_y rfl rfl (y_assign rfl) ?_
  refine K2 (K3 (K0 (K0 (K1 ?_))))
  refine l_y rfl rfl (y_move rfl) ?_
  refine l_y rfl rfl (y_lenL rfl) ?_
  refine l_y rfl rfl (y_move rfl) ?_
  refine K2 (K3 (K4 ?_))
  refine c_rounds (X := Nat) (fun i => [(1, .slice py ys.length cy), (4, .bool false), (10, .slice px xs.length cx), (11, .int .i64 ((xs.length : Nat) : Int)), (12, .int .i64 (i : Int))]) (fun i w => Own k w [] ∧ (i ≤ xs.length) ∧ (withinB (xs.take i) ys = true)) (fun i => xs.length - i) (0) ⟨rfl, rfl, rfl, rfl, rfl, trivial⟩ ⟨hO.only [], Nat.zero_le _, rfl⟩ ?_
  rintro i w m hm ⟨hO, hi, hn⟩
  refine K0 (K1 ?_)
  refine Z0 (fun h2_0 => ?_) (fun h2_0 => ?_)
  · refine K2 (K3 (K0 (L8 (K5 (K3 (K0 (K4 (K0 (K1 ?_)))))))))
    refine l_y rfl rfl (y_idx rfl rfl) ?_
    refine l_y rfl rfl (y_rA (x0 := 0) (enc := Api_attr.cells) (xs := xs) (cs := [.int .i64 (at_ xs ((i : Int) : Int).toNat).Space, .string (at_ xs ((i : Int) : Int).toNat).Prefix, .string (at_ xs ((i : Int) : Int).toNat).Name, .string (at_ xs ((i : Int) : Int).toNat).Value]) hO rfl) ?_
    refine s_alloc (vs := [.int .i64 0, .string ⟨#[]⟩, .string ⟨#[]⟩, .string ⟨#[]⟩]) hO rfl rfl rfl fun b6 w hO => ?_
    refine Y3 hO rfl rfl (fun w hO => ?_)
    refine K2 (K3 (K0 (K1 ?_)))
    refine l_y rfl rfl (y_assign rfl) ?_
    refine K2 (K3 (K0 (K0 (K1 ?_))))
    refine l_y rfl rfl (y_move rfl) ?_
    refine l_y rfl rfl (y_lenL rfl) ?_
    refine l_y rfl rfl (y_move rfl) ?_
    refine K2 (K3 (K4 ?_))
    refine c_rounds (X := Nat × Bool) (fun x => [(1, .slice py ys.length cy), (4, .bool false), (6, .pointer (some ⟨b6, 0, none⟩)), (7, .bool x.2), (10, .slice px xs.length cx), (11, .int .i64 ((xs.length : Nat) : Int)), (12, .int .i64 (i : Int)), (16, .slice py ys.length cy), (17, .int .i64 ((ys.length : Nat) : Int)), (18, .int .i64 (x.1 : Int))]) (fun x w => Own k w [blk b6 115 (Api_attr.cells (at_ xs i))] ∧ (x.1 ≤ ys.length) ∧ (x.2 = (ys.take x.1).any fun y => decide (at_ xs i = y))) (fun x => ys.length - x.1) ((0, false)) ⟨rfl, rfl, rfl, rfl, rfl, rfl, rfl, rfl, rfl, rfl, trivial⟩ ⟨hO.only [.b b6], Nat.zero_le _, rfl⟩ ?_
    rintro x w m hm ⟨hO, hj, hb⟩
    refine K0 (K1 ?_)
    refine Z0 (fun h6_0 => ?_) (fun h6_0 => ?_)
    · refine K2 (K3 (K0 (L8 (K5 (K3 (K0 (K4 (K0 (K1 ?_)))))))))
      refine l_y rfl rfl (y_idx rfl rfl) ?_
      refine l_y rfl rfl (y_rA (x0 := 0) (enc := Api_attr.cells) (xs := ys) (cs := [.int .i64 (at_ ys ((x.1 : Int) : Int).toNat).Space, .string (at_ ys ((x.1 : Int) : Int).toNat).Prefix, .string (at_ ys ((x.1 : Int) : Int).toNat).Name, .string (at_ ys ((x.1 : Int) : Int).toNat).Value]) hO rfl) ?_
      refine s_alloc (vs := [.int .i64 0, .string ⟨#[]⟩, .string ⟨#[]⟩, .string ⟨#[]⟩]) hO rfl rfl rfl fun b9 w hO => ?_
      refine Y3 hO rfl rfl (fun w hO => ?_)
      refine K2 (K3 (K1 ?_))
      refine l_y rfl rfl (y_move rfl) ?_
      refine l_y rfl rfl (y_move rfl) ?_
      refine l_split 23 rfl (fun hg23 => ?_) (fun hg23 => ?_)
      · repeat refine M2 ?_
        refine l_y rfl rfl (y_pick_t rfl rfl) ?_
        refine l_y rfl rfl (y_assign rfl) ?_
        refine K2 (K8 (K3 (K1 ?_)))
        refine l_y rfl rfl (D4) ?_
        refine l_y rfl rfl (y_move rfl) ?_
        refine K2 ?_
        exact q_next ((x.1 + 1, _)) ⟨rfl, rfl, rfl, rfl, rfl, rfl, rfl, rfl, rfl, rfl, trivial⟩ ⟨hO.only [.b b6], by dsimp only; omega, (by dsimp only; rw [any_snoc (by omega), ← hb, hg23]; first | rfl | exact (Bool.true_or _).symm | exact (Bool.false_or _).symm)⟩ (by dsimp only; omega)
      · refine l_y rfl rfl (D8 (cs := [.int .i64 (at_ xs ((i : Int) : Int).toNat).Space, .string (at_ xs ((i : Int) : Int).toNat).Prefix, .string (at_ xs ((i : Int) : Int).toNat).Name, .string (at_ xs ((i : Int) : Int).toNat).Value]) hO rfl) ?_
        refine l_y rfl rfl (D8 (cs := [.int .i64 (at_ ys ((x.1 : Int) : Int).toNat).Space, .string (at_ ys ((x.1 : Int) : Int).toNat).Prefix, .string (at_ ys ((x.1 : Int) : Int).toNat).Name, .string (at_ ys ((x.1 : Int) : Int).toNat).Value]) hO rfl) ?_
        refine l_y rfl rfl (y_eqA (enc := Api_attr.cells) (a := at_ xs i) (b := at_ ys x.1) (c := decide (at_ xs i = at_ ys x.1)) rfl rfl rfl) ?_
        refine l_y rfl rfl (y_pick_f rfl rfl) ?_
        refine l_y rfl rfl (y_assign rfl) ?_
        refine K2 (K8 (K3 (K1 ?_)))
        refine l_y rfl rfl (D4) ?_
        refine l_y rfl rfl (y_move rfl) ?_
        refine K2 ?_
        exact q_next ((x.1 + 1, _)) ⟨rfl, rfl, rfl, rfl, rfl, rfl, rfl, rfl, rfl, rfl, trivial⟩ ⟨hO.only [.b b6], by dsimp only; omega, (by dsimp only; rw [any_snoc (by omega), ← hb, hg23]; first | rfl | exact (Bool.true_or _).symm | exact (Bool.false_or _).symm)⟩ (by dsimp only; omega)
    · refine K2 (K3 (K0 (L9 (K7 (L1 (L1 (L2 (K3 (K0 ?_)))))))))
      have hb2 : x.2 = ys.any fun y => decide (at_ xs i = y) := by rw [hb, List.take_of_length_le (by omega)]
      refine K1 ?_
      refine l_y rfl rfl (y_move rfl) ?_
      refine l_y rfl rfl (y_not rfl rfl) ?_
      refine K2 (K3 ?_)
      refine c_split rfl (fun hc30 => ?_) (fun hc30 => ?_)
      · simp only [Bool.not_eq_true', Bool.not_eq_false'] at hc30
        refine K0 (K1 ?_)
        refine l_y rfl rfl (y_assign rfl) ?_
        refine K2 (K3 (K6 (L0 (K9 (K9 (L0 (K9 ?_)))))))
        have e : withinB xs ys = false := List.all_eq_false.2 ⟨at_ xs i, at_mem (by omega), by rw [← hb2]; simpa using hc30⟩
        exact fin1 rfl rfl ⟨_, ⟨by rw [e], rfl⟩, hO.only []⟩
      · simp only [Bool.not_eq_true', Bool.not_eq_false'] at hc30
        refine K5 (K8 (K3 ?_))
        have hn2 : withinB (xs.take (i + 1)) ys = true := by
          rw [take_succ_at (by omega)]
          simp only [withinB, List.all_append, List.all_cons, List.all_nil, Bool.and_true, Bool.and_eq_true]
          exact ⟨hn, by rw [← hb2]; simpa using hc30⟩
        refine K1 ?_
        refine l_y rfl rfl (D4) ?_
        refine l_y rfl rfl (y_move rfl) ?_
        refine K2 ?_
        exact q_next (i + 1) ⟨rfl, rfl, rfl, rfl, rfl, trivial⟩ ⟨hO.only [], by omega, hn2⟩ (by omega)
  · refine K2 (K3 (K0 (L9 (K7 (L1 (L1 (L2 (K3 (K0 (K1 ?_))))))))))
    refine l_y rfl rfl (y_assign rfl) ?_
    refine K2 (K3 (K6 ?_))
    have e : withinB xs ys = true := by rw [← hn, List.take_of_length_le (by omega)]
    exact fin1 rfl rfl ⟨_, ⟨by rw [e], rfl⟩, hO.only []⟩
def EOk (k : Ctx) (e : Api_entry) : Prop := Sli (Ro k) (.slice e.Token.AttrsP e.Token.Attrs.length e.Token.AttrsC) (e.Token.Attrs.map Api_attr.cells) ∧ e.Token.Attrs.length ≤ 9223372036854775807
def kinB (A : List Node_one) (x y : Api_entry) : Bool := decide ((nodeA A x.Node).Name = (nodeA A y.Node).Name) && decide ((nodeA A x.Node).Space = (nodeA A y.Node).Space) && withinB x.Token.Attrs y.Token.Attrs && withinB y.Token.Attrs x.Token.Attrs
set_option maxHeartbeats 2000000 in
theorem kin_spec {n : Nat} {x y : Api_entry} (hn : 0 < A.length) (ha : AttrsOk A) (hbx : hasB A x.Node = true) (hby : hasB A y.Node = true) (hx1 : EOk k x) (hy1 : EOk k y) (hO : Own k w [arenaL a A, aB s a p n c]) :
    Tri Tryz.prog 59 #[.pointer (some ⟨s, 0, none⟩), .agg (Api_entry.cells x).toArray, .agg (Api_entry.cells y).toArray] k w fun v m => v = .bool (kinB A x y) ∧ m = [arenaL a A, aB s a p n c] := by
  refine enter (args := [.pointer (some ⟨s, 0, none⟩), .agg (Api_entry.cells x).toArray, .agg (Api_entry.cells y).toArray]) Tryz.func59 rfl rfl ?_
  have hxs := hx1.1
  have hys := hy1.1
  have hxl := hx1.2
  have hyl := hy1.2
  refine K0 (K1 ?_)
  refine s_box (vs := [.int .i64 x.Node, .int .i64 x.Token.Kind, .string x.Token.Name, .string x.Token.Data, .string x.Token.System, .int .i64 x.Token.Has, .bool x.Token.Quirks, .int .i32 x.Token.Char, .bool x.Token.Self, .slice x.Token.AttrsP x.Token.Attrs.length x.Token.AttrsC]) hO rfl rfl rfl (by rfl) fun b4 w hO => ?_
  refine s_box (vs := [.int .i64 y.Node, .int .i64 y.Token.Kind, .string y.Token.Name, .string y.Token.Data, .string y.Token.System, .int .i64 y.Token.Has, .bool y.Token.Quirks, .int .i32 y.Token.Char, .bool y.Token.Self, .slice y.Token.AttrsP y.Token.Attrs.length y.Token.AttrsC]) hO rfl rfl rfl (by rfl) fun b5 w hO => ?_
  refine l_y rfl rfl (y_assign rfl) ?_
  refine K2 (K3 (K0 ?_))
  refine da_region (by intro c a d v w h; cases d <;> exact h) ?_
  have hO := hO.drew
  refine da_phase _ [11] (SO.ks [.b s, .b b4] hO) ?_
  refine dx_u 0 (by kernel_rfl) rfl rfl rfl (fun w => y_move rfl) ?_
  refine dx_u 1 (by kernel_rfl) rfl rfl rfl (fun w => y_nilCheck rfl rfl) ?_
  refine dx_u 2 (by kernel_rfl) rfl rfl rfl (fun w => y_fldb (o' := 0) rfl) ?_
  refine dx_y 3 (by kernel_rfl) rfl rfl rfl (fun w ⟨m, hw⟩ => D5 hw rfl) ?_
  refine dx_u 4 (by kernel_rfl) rfl rfl rfl (fun w => y_fldb (o' := 0) rfl) ?_
  refine dx_y 5 (by kernel_rfl) rfl rfl rfl (fun w ⟨m, hw⟩ => D5 hw rfl) ?_
  refine dx_two 6 10 (by kernel_rfl) rfl rfl rfl rfl ?_ ?_
  · refine CK [.o a] hO rfl (fun k' hx hr hO' => NodeD_spec hn ha (hO := hO')) ?_
    rintro _ _ w ⟨n1, hn1, rfl, rfl⟩ hO
    simp only [List.cons_append, List.nil_append] at hO
    refine o_done ?_
    refine ⟨SO.ks [.b s, .b b4] hO, ?_⟩
    refine dx_u 7 (by kernel_rfl) rfl rfl rfl (fun w => y_move rfl) ?_
    refine dx_u 8 (by kernel_rfl) rfl rfl rfl (fun w => y_extract rfl rfl) ?_
    refine dx_u 9 (by kernel_rfl) rfl rfl rfl (fun w => y_extract rfl rfl) ?_
    refine dx_only 10 (by kernel_rfl) rfl rfl ?_
    refine s_alloc (vs := [.int .i64 0, .int .i64 0, .string ⟨#[]⟩, .slice none 0 0, .string ⟨#[]⟩, .string ⟨#[]⟩, .int .i64 0, .int .i64 0, .int .i64 0, .int .i64 0, .int .i64 0, .int .i64 0]) hO rfl rfl rfl fun b7 w hO => ?_
    refine o_done ?_
    refine ⟨SO.ks [.b s, .b b4] hO, ?_⟩
    refine dx_close 11 (by kernel_rfl) rfl rfl ?_
    refine Y3 hO rfl rfl (fun w hO => ?_)
    refine o_done ?_
    refine da_phase _ [] (SO.ks [] hO) ?_
    refine dx_u 12 (by kernel_rfl) rfl rfl rfl (fun w => y_assign rfl) ?_
    refine dx_end (by kernel_rfl) ?_
    refine K3 (K0 ?_)
    refine da_region (by intro c a d v w h; cases d <;> exact h) ?_
    have hO := hO.drew
    refine da_phase _ [11] (SO.ks [.b s, .b b5] hO) ?_
    refine dx_u 0 (by kernel_rfl) rfl rfl rfl (fun w => y_move rfl) ?_
    refine dx_u 1 (by kernel_rfl) rfl rfl rfl (fun w => y_nilCheck rfl rfl) ?_
    refine dx_u 2 (by kernel_rfl) rfl rfl rfl (fun w => y_fldb (o' := 0) rfl) ?_
    refine dx_y 3 (by kernel_rfl) rfl rfl rfl (fun w ⟨m, hw⟩ => D5 hw rfl) ?_
    refine dx_u 4 (by kernel_rfl) rfl rfl rfl (fun w => y_fldb (o' := 0) rfl) ?_
    refine dx_y 5 (by kernel_rfl) rfl rfl rfl (fun w ⟨m, hw⟩ => D5 hw rfl) ?_
    refine dx_two 6 10 (by kernel_rfl) rfl rfl rfl rfl ?_ ?_
    · refine CK [.o a] hO rfl (fun k' hx hr hO' => NodeD_spec hn ha (hO := hO')) ?_
      rintro _ _ w ⟨n2, hn2, rfl, rfl⟩ hO
      simp only [List.cons_append, List.nil_append] at hO
      refine o_done ?_
      refine ⟨SO.ks [.b s, .b b5] hO, ?_⟩
      refine dx_u 7 (by kernel_rfl) rfl rfl rfl (fun w => y_move rfl) ?_
      refine dx_u 8 (by kernel_rfl) rfl rfl rfl (fun w => y_extract rfl rfl) ?_
      refine dx_u 9 (by kernel_rfl) rfl rfl rfl (fun w => y_extract rfl rfl) ?_
      refine dx_only 10 (by kernel_rfl) rfl rfl ?_
      refine s_alloc (vs := [.int .i64 0, .int .i64 0, .string ⟨#[]⟩, .slice none 0 0, .string ⟨#[]⟩, .string ⟨#[]⟩, .int .i64 0, .int .i64 0, .int .i64 0, .int .i64 0, .int .i64 0, .int .i64 0]) hO rfl rfl rfl fun b9 w hO => ?_
      refine o_done ?_
      refine ⟨SO.ks [.b s, .b b5] hO, ?_⟩
      refine dx_close 11 (by kernel_rfl) rfl rfl ?_
      refine Y3 hO rfl rfl (fun w hO => ?_)
      refine o_done ?_
      refine da_phase _ [] (SO.ks [] hO) ?_
      refine dx_u 12 (by kernel_rfl) rfl rfl rfl (fun w => y_assign rfl) ?_
      refine dx_end (by kernel_rfl) ?_
      refine K3 (K0 ?_)
      have e1 : n1.Name = (nodeA A x.Node).Name := hn1.name hbx
      have e2 : n2.Name = (nodeA A y.Node).Name := hn2.name hby
      have e3 : n1.Space = (nodeA A x.Node).Space := hn1.space hbx
      have e4 : n2.Space = (nodeA A y.Node).Space := hn2.space hby
      refine K1 ?_
      refine l_y rfl rfl (y_fldb (o' := 2) rfl) ?_
      refine l_y rfl rfl (D5 hO rfl) ?_
      refine l_y rfl rfl (y_fldb (o' := 2) rfl) ?_
      refine l_y rfl rfl (D5 hO rfl) ?_
      refine Z2 (fun h3_4 => ?_) (fun h3_4 => ?_)
      · refine l_y rfl rfl (y_move rfl) ?_
        refine l_y rfl rfl (y_fldb (o' := 1) rfl) ?_
        refine l_y rfl rfl (D5 hO rfl) ?_
        refine l_y rfl rfl (y_fldb (o' := 1) rfl) ?_
        refine l_y rfl rfl (D5 hO rfl) ?_
        refine Z0 (fun h3_10 => ?_) (fun h3_10 => ?_)
        · refine l_y rfl rfl (y_pick_t rfl rfl) ?_
          refine l_y rfl rfl (y_move rfl) ?_
          refine l_y rfl rfl (y_fldb (o' := 1) rfl) ?_
          refine l_y rfl rfl (y_fldb (o' := 9) rfl) ?_
          refine l_y rfl rfl (D5 hO rfl) ?_
          refine l_y rfl rfl (y_fldb (o' := 1) rfl) ?_
          refine l_y rfl rfl (y_fldb (o' := 9) rfl) ?_
          refine l_y rfl rfl (D5 hO rfl) ?_
          refine CK [] hO rfl (fun k' hx hr hO' => within_spec (hxs.ext hO hx) (hys.ext hO hx) hxl hyl (hO := hO')) ?_
          rintro _ _ w ⟨rfl, rfl⟩ hO
          simp only [List.cons_append, List.nil_append] at hO
          refine l_y rfl rfl (y_pick_t rfl rfl) ?_
          refine l_y rfl rfl (y_move rfl) ?_
          refine l_split 52 rfl (fun hg52 => ?_) (fun hg52 => ?_)
          · refine l_y rfl rfl (y_fldb (o' := 1) rfl) ?_
            refine l_y rfl rfl (y_fldb (o' := 9) rfl) ?_
            refine l_y rfl rfl (D5 hO rfl) ?_
            refine l_y rfl rfl (y_fldb (o' := 1) rfl) ?_
            refine l_y rfl rfl (y_fldb (o' := 9) rfl) ?_
            refine l_y rfl rfl (D5 hO rfl) ?_
            refine CK [] hO rfl (fun k' hx hr hO' => within_spec (hys.ext hO hx) (hxs.ext hO hx) hyl hxl (hO := hO')) ?_
            rintro _ _ w ⟨rfl, rfl⟩ hO
            simp only [List.cons_append, List.nil_append] at hO
            refine l_y rfl rfl (y_pick_t rfl rfl) ?_
            refine l_y rfl rfl (y_assign rfl) ?_
            refine K2 (K3 (K6 ?_))
            exact fin1 rfl rfl ⟨_, ⟨by rw [kinB, ← e1, ← e2, ← e3, ← e4]; first | simp [h3_4, h3_10, hg52] | simp [h3_4, h3_10] | simp [h3_4], rfl⟩, hO.only [.o a, .b s]⟩
          · repeat refine M2 ?_
            refine l_y rfl rfl (y_pick_f rfl rfl) ?_
            refine l_y rfl rfl (y_assign rfl) ?_
            refine K2 (K3 (K6 ?_))
            exact fin1 rfl rfl ⟨_, ⟨by rw [kinB, ← e1, ← e2, ← e3, ← e4]; first | simp [h3_4, h3_10, hg52] | simp [h3_4, h3_10] | simp [h3_4], rfl⟩, hO.only [.o a, .b s]⟩
        · refine l_y rfl rfl (y_pick_t rfl rfl) ?_
          refine l_y rfl rfl (y_move rfl) ?_
          repeat refine M2 ?_
          refine l_y rfl rfl (y_pick_f rfl rfl) ?_
          refine l_y rfl rfl (y_move rfl) ?_
          repeat refine M2 ?_
          refine l_y rfl rfl (y_pick_f rfl rfl) ?_
          refine l_y rfl rfl (y_assign rfl) ?_
          refine K2 (K3 (K6 ?_))
          exact fin1 rfl rfl ⟨_, ⟨by rw [kinB, ← e1, ← e2, ← e3, ← e4]; first | simp [h3_4, h3_10, hg52] | simp [h3_4, h3_10] | simp [h3_4], rfl⟩, hO.only [.o a, .b s]⟩
      · refine l_y rfl rfl (y_move rfl) ?_
        repeat refine M2 ?_
        refine l_y rfl rfl (y_pick_f rfl rfl) ?_
        refine l_y rfl rfl (y_move rfl) ?_
        repeat refine M2 ?_
        refine l_y rfl rfl (y_pick_f rfl rfl) ?_
        refine l_y rfl rfl (y_move rfl) ?_
        repeat refine M2 ?_
        refine l_y rfl rfl (y_pick_f rfl rfl) ?_
        refine l_y rfl rfl (y_assign rfl) ?_
        refine K2 (K3 (K6 ?_))
        exact fin1 rfl rfl ⟨_, ⟨by rw [kinB, ← e1, ← e2, ← e3, ← e4]; first | simp [h3_4, h3_10, hg52] | simp [h3_4, h3_10] | simp [h3_4], rfl⟩, hO.only [.o a, .b s]⟩
    · refine s_alloc (vs := [.int .i64 0, .int .i64 0, .string ⟨#[]⟩, .slice none 0 0, .string ⟨#[]⟩, .string ⟨#[]⟩, .int .i64 0, .int .i64 0, .int .i64 0, .int .i64 0, .int .i64 0, .int .i64 0]) hO rfl rfl rfl fun b9 w hO => ?_
      refine o_done ?_
      refine ⟨SO.ks [.b s, .b b5] hO, ?_⟩
      refine dx_only 6 (by kernel_rfl) rfl rfl ?_
      refine CK [.o a] hO rfl (fun k' hx hr hO' => NodeD_spec hn ha (hO := hO')) ?_
      rintro _ _ w ⟨n2, hn2, rfl, rfl⟩ hO
      simp only [List.cons_append, List.nil_append] at hO
      refine o_done ?_
      refine ⟨SO.ks [.b s, .b b5] hO, ?_⟩
      refine dx_u 7 (by kernel_rfl) rfl rfl rfl (fun w => y_move rfl) ?_
      refine dx_u 8 (by kernel_rfl) rfl rfl rfl (fun w => y_extract rfl rfl) ?_
      refine dx_u 9 (by kernel_rfl) rfl rfl rfl (fun w => y_extract rfl rfl) ?_
      refine dx_close 11 (by kernel_rfl) rfl rfl ?_
      refine Y3 hO rfl rfl (fun w hO => ?_)
      refine o_done ?_
      refine da_phase _ [] (SO.ks [] hO) ?_
      refine dx_u 12 (by kernel_rfl) rfl rfl rfl (fun w => y_assign rfl) ?_
      refine dx_end (by kernel_rfl) ?_
      refine K3 (K0 ?_)
      have e1 : n1.Name = (nodeA A x.Node).Name := hn1.name hbx
      have e2 : n2.Name = (nodeA A y.Node).Name := hn2.name hby
      have e3 : n1.Space = (nodeA A x.Node).Space := hn1.space hbx
      have e4 : n2.Space = (nodeA A y.Node).Space := hn2.space hby
      refine K1 ?_
      refine l_y rfl rfl (y_fldb (o' := 2) rfl) ?_
      refine l_y rfl rfl (D5 hO rfl) ?_
      refine l_y rfl rfl (y_fldb (o' := 2) rfl) ?_
      refine l_y rfl rfl (D5 hO rfl) ?_
      refine Z2 (fun h3_4 => ?_) (fun h3_4 => ?_)
      · refine l_y rfl rfl (y_move rfl) ?_
        refine l_y rfl rfl (y_fldb (o' := 1) rfl) ?_
        refine l_y rfl rfl (D5 hO rfl) ?_
        refine l_y rfl rfl (y_fldb (o' := 1) rfl) ?_
        refine l_y rfl rfl (D5 hO rfl) ?_
        refine Z0 (fun h3_10 => ?_) (fun h3_10 => ?_)
        · refine l_y rfl rfl (y_pick_t rfl rfl) ?_
          refine l_y rfl rfl (y_move rfl) ?_
          refine l_y rfl rfl (y_fldb (o' := 1) rfl) ?_
          refine l_y rfl rfl (y_fldb (o' := 9) rfl) ?_
          refine l_y rfl rfl (D5 hO rfl) ?_
          refine l_y rfl rfl (y_fldb (o' := 1) rfl) ?_
          refine l_y rfl rfl (y_fldb (o' := 9) rfl) ?_
          refine l_y rfl rfl (D5 hO rfl) ?_
          refine CK [] hO rfl (fun k' hx hr hO' => within_spec (hxs.ext hO hx) (hys.ext hO hx) hxl hyl (hO := hO')) ?_
          rintro _ _ w ⟨rfl, rfl⟩ hO
          simp only [List.cons_append, List.nil_append] at hO
          refine l_y rfl rfl (y_pick_t rfl rfl) ?_
          refine l_y rfl rfl (y_move rfl) ?_
          refine l_split 52 rfl (fun hg52 => ?_) (fun hg52 => ?_)
          · refine l_y rfl rfl (y_fldb (o' := 1) rfl) ?_
            refine l_y rfl rfl (y_fldb (o' := 9) rfl) ?_
            refine l_y rfl rfl (D5 hO rfl) ?_
            refine l_y rfl rfl (y_fldb (o' := 1) rfl) ?_
            refine l_y rfl rfl (y_fldb (o' := 9) rfl) ?_
            refine l_y rfl rfl (D5 hO rfl) ?_
            refine CK [] hO rfl (fun k' hx hr hO' => within_spec (hys.ext hO hx) (hxs.ext hO hx) hyl hxl (hO := hO')) ?_
            rintro _ _ w ⟨rfl, rfl⟩ hO
            simp only [List.cons_append, List.nil_append] at hO
            refine l_y rfl rfl (y_pick_t rfl rfl) ?_
            refine l_y rfl rfl (y_assign rfl) ?_
            refine K2 (K3 (K6 ?_))
            exact fin1 rfl rfl ⟨_, ⟨by rw [kinB, ← e1, ← e2, ← e3, ← e4]; first | simp [h3_4, h3_10, hg52] | simp [h3_4, h3_10] | simp [h3_4], rfl⟩, hO.only [.o a, .b s]⟩
          · repeat refine M2 ?_
            refine l_y rfl rfl (y_pick_f rfl rfl) ?_
            refine l_y rfl rfl (y_assign rfl) ?_
            refine K2 (K3 (K6 ?_))
            exact fin1 rfl rfl ⟨_, ⟨by rw [kinB, ← e1, ← e2, ← e3, ← e4]; first | simp [h3_4, h3_10, hg52] | simp [h3_4, h3_10] | simp [h3_4], rfl⟩, hO.only [.o a, .b s]⟩
        · refine l_y rfl rfl (y_pick_t rfl rfl) ?_
          refine l_y rfl rfl (y_move rfl) ?_
          repeat refine M2 ?_
          refine l_y rfl rfl (y_pick_f rfl rfl) ?_
          refine l_y rfl rfl (y_move rfl) ?_
          repeat refine M2 ?_
          refine l_y rfl rfl (y_pick_f rfl rfl) ?_
          refine l_y rfl rfl (y_assign rfl) ?_
          refine K2 (K3 (K6 ?_))
          exact fin1 rfl rfl ⟨_, ⟨by rw [kinB, ← e1, ← e2, ← e3, ← e4]; first | simp [h3_4, h3_10, hg52] | simp [h3_4, h3_10] | simp [h3_4], rfl⟩, hO.only [.o a, .b s]⟩
      · refine l_y rfl rfl (y_move rfl) ?_
        repeat refine M2 ?_
        refine l_y rfl rfl (y_pick_f rfl rfl) ?_
        refine l_y rfl rfl (y_move rfl) ?_
        repeat refine M2 ?_
        refine l_y rfl rfl (y_pick_f rfl rfl) ?_
        refine l_y rfl rfl (y_move rfl) ?_
        repeat refine M2 ?_
        refine l_y rfl rfl (y_pick_f rfl rfl) ?_
        refine l_y rfl rfl (y_assign rfl) ?_
        refine K2 (K3 (K6 ?_))
        exact fin1 rfl rfl ⟨_, ⟨by rw [kinB, ← e1, ← e2, ← e3, ← e4]; first | simp [h3_4, h3_10, hg52] | simp [h3_4, h3_10] | simp [h3_4], rfl⟩, hO.only [.o a, .b s]⟩
  · refine s_alloc (vs := [.int .i64 0, .int .i64 0, .string ⟨#[]⟩, .slice none 0 0, .string ⟨#[]⟩, .string ⟨#[]⟩, .int .i64 0, .int .i64 0, .int .i64 0, .int .i64 0, .int .i64 0, .int .i64 0]) hO rfl rfl rfl fun b7 w hO => ?_
    refine o_done ?_
    refine ⟨SO.ks [.b s, .b b4] hO, ?_⟩
    refine dx_only 6 (by kernel_rfl) rfl rfl ?_
    refine CK [.o a] hO rfl (fun k' hx hr hO' => NodeD_spec hn ha (hO := hO')) ?_
    rintro _ _ w ⟨n1, hn1, rfl, rfl⟩ hO
    simp only [List.cons_append, List.nil_append] at hO
    refine o_done ?_
    refine ⟨SO.ks [.b s, .b b4] hO, ?_⟩
    refine dx_u 7 (by kernel_rfl) rfl rfl rfl (fun w => y_move rfl) ?_
    refine dx_u 8 (by kernel_rfl) rfl rfl rfl (fun w => y_extract rfl rfl) ?_
    refine dx_u 9 (by kernel_rfl) rfl rfl rfl (fun w => y_extract rfl rfl) ?_
    refine dx_close 11 (by kernel_rfl) rfl rfl ?_
    refine Y3 hO rfl rfl (fun w hO => ?_)
    refine o_done ?_
    refine da_phase _ [] (SO.ks [] hO) ?_
    refine dx_u 12 (by kernel_rfl) rfl rfl rfl (fun w => y_assign rfl) ?_
    refine dx_end (by kernel_rfl) ?_
    refine K3 (K0 ?_)
    refine da_region (by intro c a d v w h; cases d <;> exact h) ?_
    have hO := hO.drew
    refine da_phase _ [11] (SO.ks [.b s, .b b5] hO) ?_
    refine dx_u 0 (by kernel_rfl) rfl rfl rfl (fun w => y_move rfl) ?_
    refine dx_u 1 (by kernel_rfl) rfl rfl rfl (fun w => y_nilCheck rfl rfl) ?_
    refine dx_u 2 (by kernel_rfl) rfl rfl rfl (fun w => y_fldb (o' := 0) rfl) ?_
    refine dx_y 3 (by kernel_rfl) rfl rfl rfl (fun w ⟨m, hw⟩ => D5 hw rfl) ?_
    refine dx_u 4 (by kernel_rfl) rfl rfl rfl (fun w => y_fldb (o' := 0) rfl) ?_
    refine dx_y 5 (by kernel_rfl) rfl rfl rfl (fun w ⟨m, hw⟩ => D5 hw rfl) ?_
    refine dx_two 6 10 (by kernel_rfl) rfl rfl rfl rfl ?_ ?_
    · refine CK [.o a] hO rfl (fun k' hx hr hO' => NodeD_spec hn ha (hO := hO')) ?_
      rintro _ _ w ⟨n2, hn2, rfl, rfl⟩ hO
      simp only [List.cons_append, List.nil_append] at hO
      refine o_done ?_
      refine ⟨SO.ks [.b s, .b b5] hO, ?_⟩
      refine dx_u 7 (by kernel_rfl) rfl rfl rfl (fun w => y_move rfl) ?_
      refine dx_u 8 (by kernel_rfl) rfl rfl rfl (fun w => y_extract rfl rfl) ?_
      refine dx_u 9 (by kernel_rfl) rfl rfl rfl (fun w => y_extract rfl rfl) ?_
      refine dx_only 10 (by kernel_rfl) rfl rfl ?_
      refine s_alloc (vs := [.int .i64 0, .int .i64 0, .string ⟨#[]⟩, .slice none 0 0, .string ⟨#[]⟩, .string ⟨#[]⟩, .int .i64 0, .int .i64 0, .int .i64 0, .int .i64 0, .int .i64 0, .int .i64 0]) hO rfl rfl rfl fun b9 w hO => ?_
      refine o_done ?_
      refine ⟨SO.ks [.b s, .b b5] hO, ?_⟩
      refine dx_close 11 (by kernel_rfl) rfl rfl ?_
      refine Y3 hO rfl rfl (fun w hO => ?_)
      refine o_done ?_
      refine da_phase _ [] (SO.ks [] hO) ?_
      refine dx_u 12 (by kernel_rfl) rfl rfl rfl (fun w => y_assign rfl) ?_
      refine dx_end (by kernel_rfl) ?_
      refine K3 (K0 ?_)
      have e1 : n1.Name = (nodeA A x.Node).Name := hn1.name hbx
      have e2 : n2.Name = (nodeA A y.Node).Name := hn2.name hby
      have e3 : n1.Space = (nodeA A x.Node).Space := hn1.space hbx
      have e4 : n2.Space = (nodeA A y.Node).Space := hn2.space hby
      refine K1 ?_
      refine l_y rfl rfl (y_fldb (o' := 2) rfl) ?_
      refine l_y rfl rfl (D5 hO rfl) ?_
      refine l_y rfl rfl (y_fldb (o' := 2) rfl) ?_
      refine l_y rfl rfl (D5 hO rfl) ?_
      refine Z2 (fun h3_4 => ?_) (fun h3_4 => ?_)
      · refine l_y rfl rfl (y_move rfl) ?_
        refine l_y rfl rfl (y_fldb (o' := 1) rfl) ?_
        refine l_y rfl rfl (D5 hO rfl) ?_
        refine l_y rfl rfl (y_fldb (o' := 1) rfl) ?_
        refine l_y rfl rfl (D5 hO rfl) ?_
        refine Z0 (fun h3_10 => ?_) (fun h3_10 => ?_)
        · refine l_y rfl rfl (y_pick_t rfl rfl) ?_
          refine l_y rfl rfl (y_move rfl) ?_
          refine l_y rfl rfl (y_fldb (o' := 1) rfl) ?_
          refine l_y rfl rfl (y_fldb (o' := 9) rfl) ?_
          refine l_y rfl rfl (D5 hO rfl) ?_
          refine l_y rfl rfl (y_fldb (o' := 1) rfl) ?_
          refine l_y rfl rfl (y_fldb (o' := 9) rfl) ?_
          refine l_y rfl rfl (D5 hO rfl) ?_
          refine CK [] hO rfl (fun k' hx hr hO' => within_spec (hxs.ext hO hx) (hys.ext hO hx) hxl hyl (hO := hO')) ?_
          rintro _ _ w ⟨rfl, rfl⟩ hO
          simp only [List.cons_append, List.nil_append] at hO
          refine l_y rfl rfl (y_pick_t rfl rfl) ?_
          refine l_y rfl rfl (y_move rfl) ?_
          refine l_split 52 rfl (fun hg52 => ?_) (fun hg52 => ?_)
          · refine l_y rfl rfl (y_fldb (o' := 1) rfl) ?_
            refine l_y rfl rfl (y_fldb (o' := 9) rfl) ?_
            refine l_y rfl rfl (D5 hO rfl) ?_
            refine l_y rfl rfl (y_fldb (o' := 1) rfl) ?_
            refine l_y rfl rfl (y_fldb (o' := 9) rfl) ?_
            refine l_y rfl rfl (D5 hO rfl) ?_
            refine CK [] hO rfl (fun k' hx hr hO' => within_spec (hys.ext hO hx) (hxs.ext hO hx) hyl hxl (hO := hO')) ?_
            rintro _ _ w ⟨rfl, rfl⟩ hO
            simp only [List.cons_append, List.nil_append] at hO
            refine l_y rfl rfl (y_pick_t rfl rfl) ?_
            refine l_y rfl rfl (y_assign rfl) ?_
            refine K2 (K3 (K6 ?_))
            exact fin1 rfl rfl ⟨_, ⟨by rw [kinB, ← e1, ← e2, ← e3, ← e4]; first | simp [h3_4, h3_10, hg52] | simp [h3_4, h3_10] | simp [h3_4], rfl⟩, hO.only [.o a, .b s]⟩
          · repeat refine M2 ?_
            refine l_y rfl rfl (y_pick_f rfl rfl) ?_
            refine l_y rfl rfl (y_assign rfl) ?_
            refine K2 (K3 (K6 ?_))
            exact fin1 rfl rfl ⟨_, ⟨by rw [kinB, ← e1, ← e2, ← e3, ← e4]; first | simp [h3_4, h3_10, hg52] | simp [h3_4, h3_10] | simp [h3_4], rfl⟩, hO.only [.o a, .b s]⟩
        · refine l_y rfl rfl (y_pick_t rfl rfl) ?_
          refine l_y rfl rfl (y_move rfl) ?_
          repeat refine M2 ?_
          refine l_y rfl rfl (y_pick_f rfl rfl) ?_
          refine l_y rfl rfl (y_move rfl) ?_
          repeat refine M2 ?_
          refine l_y rfl rfl (y_pick_f rfl rfl) ?_
          refine l_y rfl rfl (y_assign rfl) ?_
          refine K2 (K3 (K6 ?_))
          exact fin1 rfl rfl ⟨_, ⟨by rw [kinB, ← e1, ← e2, ← e3, ← e4]; first | simp [h3_4, h3_10, hg52] | simp [h3_4, h3_10] | simp [h3_4], rfl⟩, hO.only [.o a, .b s]⟩
      · refine l_y rfl rfl (y_move rfl) ?_
        repeat refine M2 ?_
        refine l_y rfl rfl (y_pick_f rfl rfl) ?_
        refine l_y rfl rfl (y_move rfl) ?_
        repeat refine M2 ?_
        refine l_y rfl rfl (y_pick_f rfl rfl) ?_
        refine l_y rfl rfl (y_move rfl) ?_
        repeat refine M2 ?_
        refine l_y rfl rfl (y_pick_f rfl rfl) ?_
        refine l_y rfl rfl (y_assign rfl) ?_
        refine K2 (K3 (K6 ?_))
        exact fin1 rfl rfl ⟨_, ⟨by rw [kinB, ← e1, ← e2, ← e3, ← e4]; first | simp [h3_4, h3_10, hg52] | simp [h3_4, h3_10] | simp [h3_4], rfl⟩, hO.only [.o a, .b s]⟩
    · refine s_alloc (vs := [.int .i64 0, .int .i64 0, .string ⟨#[]⟩, .slice none 0 0, .string ⟨#[]⟩, .string ⟨#[]⟩, .int .i64 0, .int .i64 0, .int .i64 0, .int .i64 0, .int .i64 0, .int .i64 0]) hO rfl rfl rfl fun b9 w hO => ?_
      refine o_done ?_
      refine ⟨SO.ks [.b s, .b b5] hO, ?_⟩
      refine dx_only 6 (by kernel_rfl) rfl rfl ?_
      refine CK [.o a] hO rfl (fun k' hx hr hO' => NodeD_spec hn ha (hO := hO')) ?_
      rintro _ _ w ⟨n2, hn2, rfl, rfl⟩ hO
      simp only [List.cons_append, List.nil_append] at hO
      refine o_done ?_
      refine ⟨SO.ks [.b s, .b b5] hO, ?_⟩
      refine dx_u 7 (by kernel_rfl) rfl rfl rfl (fun w => y_move rfl) ?_
      refine dx_u 8 (by kernel_rfl) rfl rfl rfl (fun w => y_extract rfl rfl) ?_
      refine dx_u 9 (by kernel_rfl) rfl rfl rfl (fun w => y_extract rfl rfl) ?_
      refine dx_close 11 (by kernel_rfl) rfl rfl ?_
      refine Y3 hO rfl rfl (fun w hO => ?_)
      refine o_done ?_
      refine da_phase _ [] (SO.ks [] hO) ?_
      refine dx_u 12 (by kernel_rfl) rfl rfl rfl (fun w => y_assign rfl) ?_
      refine dx_end (by kernel_rfl) ?_
      refine K3 (K0 ?_)
      have e1 : n1.Name = (nodeA A x.Node).Name := hn1.name hbx
      have e2 : n2.Name = (nodeA A y.Node).Name := hn2.name hby
      have e3 : n1.Space = (nodeA A x.Node).Space := hn1.space hbx
      have e4 : n2.Space = (nodeA A y.Node).Space := hn2.space hby
      refine K1 ?_
      refine l_y rfl rfl (y_fldb (o' := 2) rfl) ?_
      refine l_y rfl rfl (D5 hO rfl) ?_
      refine l_y rfl rfl (y_fldb (o' := 2) rfl) ?_
      refine l_y rfl rfl (D5 hO rfl) ?_
      refine Z2 (fun h3_4 => ?_) (fun h3_4 => ?_)
      · refine l_y rfl rfl (y_move rfl) ?_
        refine l_y rfl rfl (y_fldb (o' := 1) rfl) ?_
        refine l_y rfl rfl (D5 hO rfl) ?_
        refine l_y rfl rfl (y_fldb (o' := 1) rfl) ?_
        refine l_y rfl rfl (D5 hO rfl) ?_
        refine Z0 (fun h3_10 => ?_) (fun h3_10 => ?_)
        · refine l_y rfl rfl (y_pick_t rfl rfl) ?_
          refine l_y rfl rfl (y_move rfl) ?_
          refine l_y rfl rfl (y_fldb (o' := 1) rfl) ?_
          refine l_y rfl rfl (y_fldb (o' := 9) rfl) ?_
          refine l_y rfl rfl (D5 hO rfl) ?_
          refine l_y rfl rfl (y_fldb (o' := 1) rfl) ?_
          refine l_y rfl rfl (y_fldb (o' := 9) rfl) ?_
          refine l_y rfl rfl (D5 hO rfl) ?_
          refine CK [] hO rfl (fun k' hx hr hO' => within_spec (hxs.ext hO hx) (hys.ext hO hx) hxl hyl (hO := hO')) ?_
          rintro _ _ w ⟨rfl, rfl⟩ hO
          simp only [List.cons_append, List.nil_append] at hO
          refine l_y rfl rfl (y_pick_t rfl rfl) ?_
          refine l_y rfl rfl (y_move rfl) ?_
          refine l_split 52 rfl (fun hg52 => ?_) (fun hg52 => ?_)
          · refine l_y rfl rfl (y_fldb (o' := 1) rfl) ?_
            refine l_y rfl rfl (y_fldb (o' := 9) rfl) ?_
            refine l_y rfl rfl (D5 hO rfl) ?_
            refine l_y rfl rfl (y_fldb (o' := 1) rfl) ?_
            refine l_y rfl rfl (y_fldb (o' := 9) rfl) ?_
            refine l_y rfl rfl (D5 hO rfl) ?_
            refine CK [] hO rfl (fun k' hx hr hO' => within_spec (hys.ext hO hx) (hxs.ext hO hx) hyl hxl (hO := hO')) ?_
            rintro _ _ w ⟨rfl, rfl⟩ hO
            simp only [List.cons_append, List.nil_append] at hO
            refine l_y rfl rfl (y_pick_t rfl rfl) ?_
            refine l_y rfl rfl (y_assign rfl) ?_
            refine K2 (K3 (K6 ?_))
            exact fin1 rfl rfl ⟨_, ⟨by rw [kinB, ← e1, ← e2, ← e3, ← e4]; first | simp [h3_4, h3_10, hg52] | simp [h3_4, h3_10] | simp [h3_4], rfl⟩, hO.only [.o a, .b s]⟩
          · repeat refine M2 ?_
            refine l_y rfl rfl (y_pick_f rfl rfl) ?_
            refine l_y rfl rfl (y_assign rfl) ?_
            refine K2 (K3 (K6 ?_))
            exact fin1 rfl rfl ⟨_, ⟨by rw [kinB, ← e1, ← e2, ← e3, ← e4]; first | simp [h3_4, h3_10, hg52] | simp [h3_4, h3_10] | simp [h3_4], rfl⟩, hO.only [.o a, .b s]⟩
        · refine l_y rfl rfl (y_pick_t rfl rfl) ?_
          refine l_y rfl rfl (y_move rfl) ?_
          repeat refine M2 ?_
          refine l_y rfl rfl (y_pick_f rfl rfl) ?_
          refine l_y rfl rfl (y_move rfl) ?_
          repeat refine M2 ?_
          refine l_y rfl rfl (y_pick_f rfl rfl) ?_
          refine l_y rfl rfl (y_assign rfl) ?_
          refine K2 (K3 (K6 ?_))
          exact fin1 rfl rfl ⟨_, ⟨by rw [kinB, ← e1, ← e2, ← e3, ← e4]; first | simp [h3_4, h3_10, hg52] | simp [h3_4, h3_10] | simp [h3_4], rfl⟩, hO.only [.o a, .b s]⟩
      · refine l_y rfl rfl (y_move rfl) ?_
        repeat refine M2 ?_
        refine l_y rfl rfl (y_pick_f rfl rfl) ?_
        refine l_y rfl rfl (y_move rfl) ?_
        repeat refine M2 ?_
        refine l_y rfl rfl (y_pick_f rfl rfl) ?_
        refine l_y rfl rfl (y_move rfl) ?_
        repeat refine M2 ?_
        refine l_y rfl rfl (y_pick_f rfl rfl) ?_
        refine l_y rfl rfl (y_assign rfl) ?_
        refine K2 (K3 (K6 ?_))
        exact fin1 rfl rfl ⟨_, ⟨by rw [kinB, ← e1, ← e2, ← e3, ← e4]; first | simp [h3_4, h3_10, hg52] | simp [h3_4, h3_10] | simp [h3_4], rfl⟩, hO.only [.o a, .b s]⟩
def cutE (L : List Api_entry) (i : Nat) : List Api_entry := L.take i ++ L.drop (i + 1)
set_option maxHeartbeats 2000000 in
theorem remove_spec {i : Nat} (hi : i < L.length) (hg : Gs p L.length) (hlc : L.length ≤ c) (hl : L.length ≤ 2000000) (hO : Own k w [aB s a p L.length c, aI p c L]) :
    Tri Tryz.prog 60 #[.pointer (some ⟨s, 0, none⟩), .int .i64 ((i : Nat) : Int)] k w fun v m => v = .tuple #[] ∧ m = [actL s a (cutE L i)] := by
  refine enter (args := [.pointer (some ⟨s, 0, none⟩), .int .i64 ((i : Nat) : Int)]) Tryz.func60 rfl rfl ?_
  have e9 : ((i : Int) + 1).toNat = i + 1 := by omega
  have e8 : ((i : Int)).toNat = i := by omega
  refine da_region (by intro c a d v w h; cases d <;> exact h) ?_
  have hO := hO.drew
  refine da_phase _ [24] (SO.ks [.b s] hO) ?_
  refine dx_u 0 (by kernel_rfl) rfl rfl rfl (fun w => y_move rfl) ?_
  refine dx_u 1 (by kernel_rfl) rfl rfl rfl (fun w => y_move rfl) ?_
  refine dx_u 2 (by kernel_rfl) rfl rfl rfl (fun w => y_nilCheck rfl rfl) ?_
  refine dx_u 3 (by kernel_rfl) rfl rfl rfl (fun w => y_fldb (o' := 1) rfl) ?_
  refine dx_y 4 (by kernel_rfl) rfl rfl rfl (fun w ⟨m, hw⟩ => D5 hw rfl) ?_
  refine dx_u 5 (by kernel_rfl) rfl rfl rfl (fun w => y_move rfl) ?_
  refine dx_u 6 (by kernel_rfl) rfl rfl rfl (fun w => y_move rfl) ?_
  refine dx_u 7 (by kernel_rfl) rfl rfl rfl (fun w => y_nilCheck rfl rfl) ?_
  refine dx_u 8 (by kernel_rfl) rfl rfl rfl (fun w => y_fldb (o' := 1) rfl) ?_
  refine dx_y 9 (by kernel_rfl) rfl rfl rfl (fun w ⟨m, hw⟩ => D5 hw rfl) ?_
  refine dx_u 10 (by kernel_rfl) rfl rfl rfl (fun w => y_move rfl) ?_
  refine dx_y 11 (by kernel_rfl) rfl rfl rfl (fun w ⟨m, hw⟩ => y_tl i rfl rfl) ?_
  refine dx_u 12 (by kernel_rfl) rfl rfl rfl (fun w => y_move rfl) ?_
  refine dx_u 13 (by kernel_rfl) rfl rfl rfl (fun w => y_nilCheck rfl rfl) ?_
  refine dx_u 14 (by kernel_rfl) rfl rfl rfl (fun w => y_fldb (o' := 1) rfl) ?_
  refine dx_y 15 (by kernel_rfl) rfl rfl rfl (fun w ⟨m, hw⟩ => D5 hw rfl) ?_
  refine dx_u 16 (by kernel_rfl) rfl rfl rfl (fun w => y_move rfl) ?_
  refine dx_u 17 (by kernel_rfl) rfl rfl rfl (fun w => D4) ?_
  refine dx_y 18 (by kernel_rfl) rfl rfl rfl (fun w ⟨m, hw⟩ => y_tl (i + 1) rfl rfl) ?_
  refine dx_only 19 (by kernel_rfl) rfl rfl ?_
  refine s_cpTail (p := p) hO rfl rfl hi (fun w hO => ?_)
  refine o_done ?_
  refine ⟨SO.ks [.b s] hO, ?_⟩
  refine dx_u 20 (by kernel_rfl) rfl rfl rfl (fun w => D4) ?_
  refine dx_y 21 (by kernel_rfl) rfl rfl rfl (fun w ⟨m, hw⟩ => y_hd (L.length - 1) rfl rfl) ?_
  refine dx_u 22 (by kernel_rfl) rfl rfl rfl (fun w => y_nilCheck rfl rfl) ?_
  refine dx_u 23 (by kernel_rfl) rfl rfl rfl (fun w => y_fldb (o' := 1) rfl) ?_
  refine dx_close 24 (by kernel_rfl) rfl rfl ?_
  refine Y1 hO rfl rfl (fun w hO => ?_)
  simp only [List.set_cons_zero, List.set_cons_succ] at hO
  refine o_done ?_
  refine da_end (by kernel_rfl) ?_
  have hcl : (cutE L i).length = L.length - 1 := by simp [cutE]; omega
  have hO := sls_cut (hO.ks [.p p]) (L.length - 1) c (by simp; omega) (by omega) (Nat.le_refl _)
  rw [show (L.take i ++ L.drop (i + 1) ++ L.drop (L.length - 1)).take (L.length - 1) = cutE L i from List.take_left' hcl] at hO
  exact fin0 rfl ⟨_, ⟨rfl, rfl⟩, (actL_shut (hO.ks [.b s, .p p]) hcl.symm).one⟩
def freshF (A : List Node_one) (L : List Api_entry) (id : Int) : Int := if elB A id = false then 6 else if 0 ≤ findE L id then 1 else 0
theorem afresh_spec {id : Int} (hn : 0 < A.length) (ha : AttrsOk A) (hg : Gs p L.length) (hl : L.length ≤ 2000000) (hO : Own k w [arenaL a A, aB s a p L.length c, aI p c L]) :
    Tri Tryz.prog 57 #[.pointer (some ⟨s, 0, none⟩), .int .i64 id] k w fun v m => v = .int .i64 (freshF A L id) ∧ m = [arenaL a A, aB s a p L.length c, aI p c L] := by
  refine enter (args := [.pointer (some ⟨s, 0, none⟩), .int .i64 id]) Tryz.func57 rfl rfl ?_
  refine K0 (K1 ?_)
  refine l_y rfl rfl (y_assign rfl) ?_
  refine K2 (K3 (K0 (K0 (K1 ?_))))
  refine l_y rfl rfl (y_move rfl) ?_
  refine CK [.b s] hO rfl (fun k' hx hr hO' => anone_spec (hO := hO')) ?_
  rintro _ _ w ⟨rfl, rfl⟩ hO
  simp only [List.cons_append, List.nil_append] at hO
  refine K2 (K3 (L9 (K5 (K3 (K0 (K1 ?_))))))
  refine l_y rfl rfl (y_move rfl) ?_
  refine l_y rfl rfl (y_nilCheck rfl rfl) ?_
  refine l_y rfl rfl (y_fldb (o' := 0) rfl) ?_
  refine l_y rfl rfl (D5 hO rfl) ?_
  refine l_y rfl rfl (y_move rfl) ?_
  refine CK [.o a] hO rfl (fun k' hx hr hO' => NodeD_spec hn ha (hO := hO')) ?_
  rintro _ _ w ⟨n1, hn1, rfl, rfl⟩ hO
  simp only [List.cons_append, List.nil_append] at hO
  have hel := hn1.el
  refine l_y rfl rfl (y_move rfl) ?_
  refine l_y rfl rfl (y_extract rfl rfl) ?_
  refine l_y rfl rfl (y_extract rfl rfl) ?_
  refine s_alloc (vs := [.int .i64 0, .int .i64 0, .string ⟨#[]⟩, .slice none 0 0, .string ⟨#[]⟩, .string ⟨#[]⟩, .int .i64 0, .int .i64 0, .int .i64 0, .int .i64 0, .int .i64 0, .int .i64 0]) hO rfl rfl rfl fun b5 w hO => ?_
  refine Y3 hO rfl rfl (fun w hO => ?_)
  refine l_y rfl rfl (y_assign rfl) ?_
  refine K2 (K3 (K0 (K4 (K0 (K1 ?_)))))
  refine l_y rfl rfl (y_move rfl) ?_
  refine Z1 (fun h4_1 => ?_) (fun h4_1 => ?_)
  · refine l_y rfl rfl (y_move rfl) ?_
    repeat refine M2 ?_
    refine l_y rfl rfl (y_pick_t rfl rfl) ?_
    refine l_y rfl rfl (y_assign rfl) ?_
    refine K2 (K3 (L8 (K0 (K1 ?_))))
    refine l_y rfl rfl (y_assign rfl) ?_
    refine K2 (K3 (K6 (L0 (K9 ?_))))
    have e : elB A id = false := by rw [hel]; first | simp [h4_1, h4_5] | simp [h4_1]
    exact fin1 rfl rfl ⟨_, ⟨by rw [freshF, if_pos e], rfl⟩, hO.only [.o a, .b s, .p p]⟩
  · refine l_y rfl rfl (y_move rfl) ?_
    refine l_y rfl rfl (y_fldb (o' := 0) rfl) ?_
    refine l_y rfl rfl (D5 hO rfl) ?_
    refine Z1 (fun h4_5 => ?_) (fun h4_5 => ?_)
    · refine l_y rfl rfl (y_pick_f rfl rfl) ?_
      refine l_y rfl rfl (y_assign rfl) ?_
      refine K2 (K3 (L8 (K0 (K1 ?_))))
      refine l_y rfl rfl (y_assign rfl) ?_
      refine K2 (K3 (K6 (L0 (K9 ?_))))
      have e : elB A id = false := by rw [hel]; first | simp [h4_1, h4_5] | simp [h4_1]
      exact fin1 rfl rfl ⟨_, ⟨by rw [freshF, if_pos e], rfl⟩, hO.only [.o a, .b s, .p p]⟩
    · refine l_y rfl rfl (y_pick_f rfl rfl) ?_
      refine l_y rfl rfl (y_assign rfl) ?_
      refine K2 (K3 (L9 (K0 ?_)))
      have e : elB A id = true := by rw [hel]; simp [h4_1, h4_5]
      refine K1 ?_
      refine l_y rfl rfl (y_move rfl) ?_
      refine l_y rfl rfl (y_move rfl) ?_
      refine CK [.b s, .p p] hO rfl (fun k' hx hr hO' => aFindB_spec hg hl (hO := hO')) ?_
      rintro _ _ w ⟨rfl, rfl⟩ hO
      simp only [List.cons_append, List.nil_append] at hO
      refine Z0 (fun h6_3 => ?_) (fun h6_3 => ?_)
      · refine l_y rfl rfl (y_assign rfl) ?_
        refine K2 (K3 (L8 (K0 (K1 ?_))))
        refine l_y rfl rfl (y_assign rfl) ?_
        refine K2 (K3 (K6 (L0 (K9 ?_))))
        exact fin1 rfl rfl ⟨_, ⟨by rw [freshF, if_neg (by rw [e]; simp), if_pos h6_3], rfl⟩, hO.only [.o a, .b s, .p p]⟩
      · refine l_y rfl rfl (y_assign rfl) ?_
        refine K2 (K3 (L9 (K5 (K8 (K3 (K0 (K1 ?_)))))))
        refine l_y rfl rfl (y_assign rfl) ?_
        refine K2 (K3 (K6 ?_))
        exact fin1 rfl rfl ⟨_, ⟨by rw [freshF, if_neg (by rw [e]; simp), if_neg h6_3], rfl⟩, hO.only [.o a, .b s, .p p]⟩
/-- the places behind the last marker, the last one first -/
def bk (L : List Api_entry) : Nat → List Nat
  | 0 => []
  | n + 1 => if (at_ L n).Node = -1 then [] else n :: bk L n
theorem back_spec (hO : Own k w []) : Tri Tryz.prog 58 #[.pointer (some ⟨s, 0, none⟩)] k w fun v m => ∃ b, v = .func (.func 94) #[] #[.pointer (some ⟨b, 0, none⟩)] ∧ m = [blk b 24 [.pointer (some ⟨s, 0, none⟩)]] := by
  refine enter (args := [.pointer (some ⟨s, 0, none⟩)]) Tryz.func58 rfl rfl ?_
  refine K0 (K1 ?_)
  refine s_box (vs := [.pointer (some ⟨s, 0, none⟩)]) hO rfl rfl rfl (by rfl) fun b1 w hO => ?_
  refine l_y rfl rfl (y_assign rfl) ?_
  refine K2 (K3 (K0 (K1 ?_)))
  refine l_y rfl rfl (y_makeFunc rfl rfl) ?_
  refine l_y rfl rfl (y_assign rfl) ?_
  refine K2 (K3 (K6 ?_))
  exact fin1 rfl rfl ⟨_, ⟨_, rfl, rfl⟩, hO⟩
abbrev bF (s a : Nat) (p : Option Addr) (c : Nat) (L : List Api_entry) (b : Nat) : List HP := [aB s a p L.length c, aI p c L, blk b 24 [.pointer (some ⟨s, 0, none⟩)]]
theorem biter_spec {b X D : Nat} {M0 : List HP} {B : List Nat → List HP → Prop} {stop : Code → List HP → Prop} {fn : FuncId} {tmps : Array Value} {ps : Array Tmp} {assign body : Code}
    (hg : Gs p L.length) (hl : L.length ≤ 2000000) (hps : ps.size = 2) (hB : B [] M0) (hO : Own k w (obj X (loopO .ready none fn tmps ps assign body D) :: (bF s a p c L b ++ M0)))
    (hround : ∀ pre (x : Nat) suf M w, bk L L.length = pre ++ x :: suf → x < L.length → (at_ L x).Node ≠ -1 → B pre M → Own k w (obj X (loopO .ready none fn tmps ps assign body D) :: (bF s a p c L b ++ M)) →
      RoundIn Fence.wide 0 Tryz.prog X fn ((ps.zip #[.int .i64 (x : Int), .agg (Api_entry.cells (at_ L x)).toArray]).foldl (fun tmps (t, a) => tmps.setIfInBounds t a) tmps) assign body w (RP k X fn tmps ps assign body D (fun M' => ∃ M, B (pre ++ [x]) M ∧ M' = bF s a p c L b ++ M) stop)) :
    Ret Tryz.prog 94 #[.func (.yield X) #[] #[], .pointer (some ⟨b, 0, none⟩)] w fun _ w2 =>
      (∃ M, (∃ M', B (bk L L.length) M' ∧ M = bF s a p c L b ++ M') ∧ Own k w2 (obj X (loopO .ready none fn tmps ps assign body D) :: M)) ∨ (∃ c M, stop c M ∧ Own k w2 (obj X (loopO .done (some c) fn tmps ps assign body D) :: M)) := by
  refine enter (args := [.func (.yield X) #[] #[], .pointer (some ⟨b, 0, none⟩)]) Tryz.func94 rfl rfl ?_
  simp only [List.cons_append, List.nil_append] at hO
  refine K0 (K1 ?_)
  refine l_y rfl rfl (D5 hO rfl) ?_
  refine l_y rfl rfl (y_nilCheck rfl rfl) ?_
  refine l_y rfl rfl (y_fldb (o' := 1) rfl) ?_
  refine l_y rfl rfl (D5 hO rfl) ?_
  refine l_y rfl rfl (y_lenL rfl) ?_
  refine l_y rfl rfl (D4) ?_
  refine l_y rfl rfl (y_assign rfl) ?_
  refine K2 (K3 (K4 ?_))
  refine c_rounds (X := Nat × List Nat × List HP) (fun x => [(0, .func (.yield X) #[] #[]), (1, .pointer (some ⟨b, 0, none⟩)), (3, .int .i64 ((x.1 : Int) - 1))]) (fun x w => Own k w (obj X (loopO .ready none fn tmps ps assign body D) :: aB s a p L.length c :: aI p c L :: blk b 24 [.pointer (some ⟨s, 0, none⟩)] :: x.2.2) ∧ (bk L L.length = x.2.1 ++ bk L x.1) ∧ (x.1 ≤ L.length) ∧ (B x.2.1 x.2.2)) (fun x => x.1) ((L.length, [], M0)) ⟨rfl, rfl, rfl, trivial⟩ ⟨hO, rfl, Nat.le_refl _, hB⟩ ?_
  rintro x w m hm ⟨hO, hx, hle, hb⟩
  refine K0 (K0 (K1 ?_))
  refine l_y rfl rfl (y_move rfl) ?_
  refine Z0 (fun h1_1 => ?_) (fun h1_1 => ?_)
  · obtain ⟨y, hy⟩ : ∃ y, x.1 = y + 1 := ⟨x.1 - 1, by omega⟩
    have ey : (x.1 : Int) - 1 = (y : Int) := by omega
    rw [ey]
    refine l_y rfl rfl (y_move rfl) ?_
    refine l_y rfl rfl (D5 hO rfl) ?_
    refine l_y rfl rfl (y_nilCheck rfl rfl) ?_
    refine l_y rfl rfl (y_fldb (o' := 1) rfl) ?_
    refine l_y rfl rfl (D5 hO rfl) ?_
    refine l_y rfl rfl (y_move rfl) ?_
    refine l_y rfl rfl (y_idx rfl rfl) ?_
    refine l_y rfl rfl (y_fld (j' := 0) rfl) ?_
    refine l_y rfl rfl (y_e1 (x0 := 0) hO rfl) ?_
    refine Z1 (fun h1_11 => ?_) (fun h1_11 => ?_)
    · refine l_y rfl rfl (y_pick_t rfl rfl) ?_
      refine K2 (K3 (L8 (K5 (K3 (K0 (K4 (K0 ?_)))))))
      refine x_region ?_
      refine x_y rfl rfl (y_move rfl) ?_
      refine x_y rfl rfl (y_move rfl) ?_
      refine x_y rfl rfl (D5 hO rfl) ?_
      refine x_y rfl rfl (y_nilCheck rfl rfl) ?_
      refine x_y rfl rfl (y_fldb (o' := 1) rfl) ?_
      refine x_y rfl rfl (D5 hO rfl) ?_
      refine x_y rfl rfl (y_move rfl) ?_
      refine x_y rfl rfl (y_idx rfl rfl) ?_
      refine x_y rfl rfl (y_eA (x0 := 0) (cs := [.int .i64 (at_ L ((y : Int) : Int).toNat).Node, .int .i64 (at_ L ((y : Int) : Int).toNat).Token.Kind, .string (at_ L ((y : Int) : Int).toNat).Token.Name, .string (at_ L ((y : Int) : Int).toNat).Token.Data, .string (at_ L ((y : Int) : Int).toNat).Token.System, .int .i64 (at_ L ((y : Int) : Int).toNat).Token.Has, .bool (at_ L ((y : Int) : Int).toNat).Token.Quirks, .int .i32 (at_ L ((y : Int) : Int).toNat).Token.Char, .bool (at_ L ((y : Int) : Int).toNat).Token.Self, .slice (at_ L ((y : Int) : Int).toNat).Token.AttrsP (at_ L ((y : Int) : Int).toNat).Token.Attrs.length (at_ L ((y : Int) : Int).toNat).Token.AttrsC]) hO rfl) ?_
      have hs : bk L x.1 = y :: bk L y := by rw [hy, bk, if_neg (show ¬ (at_ L y).Node = -1 from h1_11)]
      refine x_yield hO rfl rfl (by simp [hps]) (hround x.2.1 y (bk L y) x.2.2 w (by rw [hx, hs]) (by omega) h1_11 hb hO) (fun w M2 hM hO => ?_) (fun w c2 M2 hM hO => ?_)
      · obtain ⟨M3, hb2, rfl⟩ := hM
        simp only [List.cons_append, List.nil_append] at hO
        refine x_y rfl rfl (y_not rfl rfl) ?_
        refine x_nil (K3 (L9 (K5 (K8 (K3 (K1 ?_))))))
        refine l_y rfl rfl (y_move rfl) ?_
        refine l_y rfl rfl (D4) ?_
        refine l_y rfl rfl (y_assign rfl) ?_
        refine K2 ?_
        have hO : Own k w (obj X (loopO .ready none fn tmps ps assign body D) :: aB s a p L.length c :: aI p c L :: blk b 24 [.pointer (some ⟨s, 0, none⟩)] :: M3) := hO
        exact q_next ((y, x.2.1 ++ [y], M3)) ⟨rfl, rfl, rfl, trivial⟩ ⟨hO, (by dsimp only; simp [hx, hs]), (by dsimp only; omega), hb2⟩ (by dsimp only; omega)
      · refine x_y rfl rfl (y_not rfl rfl) ?_
        refine x_nil (K3 (L8 (K6 (L0 (K9 (K9 (L0 ?_)))))))
        refine fin_ret ?_
        exact fin0 rfl (.inr ⟨_, _, hM, hO⟩)
    · refine l_y rfl rfl (y_pick_t rfl rfl) ?_
      refine K2 (K3 (L9 (K7 (L1 (L1 (L2 ?_))))))
      have he : bk L x.1 = [] := by
        first
          | rw [hy, bk, if_pos (show (at_ L y).Node = -1 from h1_11)]
          | rw [show x.1 = 0 by omega, bk]
      exact fin0 rfl (.inl ⟨_, ⟨x.2.2, by rw [hx, he, List.append_nil]; exact hb, rfl⟩, hO⟩)
  · refine l_y rfl rfl (y_move rfl) ?_
    repeat refine M2 ?_
    refine l_y rfl rfl (y_pick_f rfl rfl) ?_
    refine K2 (K3 (L9 (K7 (L1 (L1 (L2 ?_))))))
    have he : bk L x.1 = [] := by
      first
        | rw [hy, bk, if_pos (show (at_ L y).Node = -1 from h1_11)]
        | rw [show x.1 = 0 by omega, bk]
    exact fin0 rfl (.inl ⟨_, ⟨x.2.2, by rw [hx, he, List.append_nil]; exact hb, rfl⟩, hO⟩)
end
end Go.Proofs.YtoohapbaelmkcaaGreat
end
section
set_option linter.unusedVariables false
set_option linter.unusedSimpArgs false
set_option maxRecDepth 100000
namespace Go.Proofs.YtoohapbaelmkcaaGreat
open Go Go.Hb Go.RowKit
section
variable {P : Program} {lo : List Oper} {Q : Exit → Act → World → Prop} {n : Nat} {ds : List Deferred} {E : Env} {w : World}
/-- a drawn region where nothing may panic -/
theorem da_regM [hm : Mixed P] {id : Nat} (h : DA P lo (fun e a w => (∀ c, e ≠ .panic c) ∧ Q e a w) n ds lo.length (List.replicate lo.length false).toArray E w.drew) : CW P Q n ds (.region id lo.toArray true) E w := by
  intro a ha
  exact wp_mono (da_region (fun c a d v w h => absurd rfl (h.1 c)) h a ha) (fun e a w h => h.2)
section
variable {ops : Array Oper} {md : Region.Mode} {X : Nat}
theorem op_in (hQ : ¬ LetsOut Q) (hd : ∀ o ∈ ops.toList, (match o.op with | .defer _ => false | _ => true) = true) {K K' : Act → World → Prop} (hK : ∀ a w, K a w → K' a w) {i : Nat} {a : Act} {w : World} (h : wpOp P ops Q i K a w) : wpOpIn (Fence.wide.inRound X) 0 P ops Q i K' a w := by
  unfold wpOp at h
  unfold wpOpIn
  cases ho : ops[i]? with
  | none => rw [ho] at h; exact hK _ _ h
  | some o =>
    rw [ho] at h
    have hdo := hd o (List.mem_of_getElem? (by rw [Array.getElem?_toList]; exact ho))
    simp only at h ⊢
    split
    · next hw =>
      rw [if_pos hw] at h
      rcases h with h | ⟨_, hout⟩
      · refine ⟨fun _ _ => trivial, ?_⟩
        rw [Oper.semAt_eq _ _ _ (fun c hc => by rw [hc] at hdo; exact absurd hdo (by simp))]
        unfold Oper.wp at h
        generalize (execOp a.eval o).run P w = r at h ⊢
        cases r with
        | ok x w1 =>
          cases x with
          | value v => exact hK _ _ h
          | skip => exact hK _ _ h
          | defer d => exact hK _ _ h
          | enter f args =>
            refine ⟨fun _ => by simp_all [Fence.inRound, Fence.wide], callsIn_round (Calls.mono h fun e w2 he => ?_)⟩
            cases e with
            | returned v => exact hK _ _ he
            | panicked c => exact he
            | outgrown => exact he
          | row r args =>
            refine ⟨fun _ => by simp_all [Fence.inRound, Fence.wide], rowsIn_any (.inr ⟨X, rfl⟩) ?_⟩
            intro c cs
            obtain ⟨v, w', r, s⟩ := h c cs
            exact ⟨v, w', hK _ _ r, s⟩
          | _ => exact h.elim
        | halt x w1 => cases x <;> first | exact h | exact h.elim
      · exact absurd hout hQ
    · next hw =>
      rw [if_neg hw] at h
      exact ⟨fun _ _ => trivial, hK _ _ h⟩
theorem any_in (hQ : ¬ LetsOut Q) (hd : ∀ o ∈ ops.toList, (match o.op with | .defer _ => false | _ => true) = true) : ∀ (f : Nat) (listed : Array Bool) (a : Act) (w : World), wpAny P md ops Q f listed a w → wpAnyIn (Fence.wide.inRound X) 0 P md ops Q f listed a w
  | 0, _, _, _, h => h
  | f + 1, _, _, _, h => ⟨h.1, fun i hi => op_in hQ hd (fun a w h => any_in hQ hd f _ a w h) (h.2 i hi)⟩
theorem noDefer_mem {l : List Oper} (h : noDefer l = true) : ∀ o ∈ l, (match o.op with | .defer _ => false | _ => true) = true := by
  induction l with
  | nil => intro o ho; cases ho
  | cons x l ih =>
    simp only [noDefer, Bool.and_eq_true] at h
    intro o ho
    rcases List.mem_cons.1 ho with rfl | ho
    · exact h.1
    · exact ih h.2 o ho
/-- a drawn region in a round -/
theorem CRa [hm : Mixed P] [hQ : NoOut Q] {id : Nat} (h : DA P lo (fun e a w => (∀ c, e ≠ .panic c) ∧ Q e a w) n [] lo.length (List.replicate lo.length false).toArray E w.drew) (hd : noDefer lo = true := by rfl) : CR P Q n X (.region id lo.toArray true) E w := by
  intro a ha
  have h1 := h (fun c a d v w h => absurd rfl (h.1 c)) a ha
  refine wpIn_mono (wpIn_region_any (Q := fun e a w => (∀ c, e ≠ .panic c) ∧ Q e a w) hm.eq ?_) (fun e a w h => h.2)
  rw [show Array.replicate lo.toArray.size false = (List.replicate lo.length false).toArray from by simp]
  exact any_in (fun ⟨a, w, h⟩ => hQ.no ⟨a, w, h.2⟩) (noDefer_mem hd) _ _ _ _ h1
end
theorem q_nopan (h : QW Q n ds .normal E w) : QW (fun e a w => (∀ c, e ≠ .panic c) ∧ Q e a w) n ds .normal E w := fun a ha => ⟨(fun c e => Exit.noConfusion e), h a ha⟩
end
section
variable {k : Ctx} {w : World} {s a c : Nat} {p : Option Addr} {L : List Api_entry} {A : List Node_one}
def pk (A : List Node_one) (L : List Api_entry) (e : Api_entry) (xs : List Nat) : Nat × Nat := xs.foldl (fun z i => if kinB A e (at_ L i) = true then (z.1 + 1, i) else z) (0, 0)
theorem pk_snoc {e : Api_entry} {xs : List Nat} {i : Nat} : pk A L e (xs ++ [i]) = if kinB A e (at_ L i) = true then ((pk A L e xs).1 + 1, i) else pk A L e xs := by
  rw [pk, List.foldl_append]; rfl
theorem bk_lt {n : Nat} : ∀ {i : Nat}, i ∈ bk L n → i < n := by
  induction n with
  | zero => intro i h; cases h
  | succ n ih =>
    intro i h
    rw [bk] at h
    split at h
    · cases h
    · rcases List.mem_cons.1 h with rfl | h
      · omega
      · have := ih h; omega
theorem pk_gen {e : Api_entry} (xs : List Nat) : ∀ z : Nat × Nat, (xs.foldl (fun z i => if kinB A e (at_ L i) = true then (z.1 + 1, i) else z) z).1 ≤ z.1 + xs.length ∧ ((xs.foldl (fun z i => if kinB A e (at_ L i) = true then (z.1 + 1, i) else z) z) = z ∨ (xs.foldl (fun z i => if kinB A e (at_ L i) = true then (z.1 + 1, i) else z) z).2 ∈ xs) := by
  induction xs with
  | nil => intro z; exact ⟨Nat.le_refl _, .inl rfl⟩
  | cons i xs ih =>
    intro z
    rw [List.foldl_cons]
    by_cases h : kinB A e (at_ L i) = true
    · rw [if_pos h]
      obtain ⟨h1, h2⟩ := ih (z.1 + 1, i)
      refine ⟨by simp only [List.length_cons] at *; omega, .inr ?_⟩
      rcases h2 with h2 | h2
      · rw [h2]; simp
      · exact List.mem_cons_of_mem _ h2
    · rw [if_neg h]
      obtain ⟨h1, h2⟩ := ih z
      exact ⟨by simp only [List.length_cons]; omega, h2.imp id (List.mem_cons_of_mem _)⟩
theorem pk_le {e : Api_entry} {xs : List Nat} : (pk A L e xs).1 ≤ xs.length := by have := (pk_gen (A := A) (L := L) (e := e) xs (0, 0)).1; simpa [pk] using this
theorem pk_mem {e : Api_entry} {xs : List Nat} (h : 0 < (pk A L e xs).1) : (pk A L e xs).2 ∈ xs := by
  rcases (pk_gen (A := A) (L := L) (e := e) xs (0, 0)).2 with h2 | h2
  · rw [pk, h2] at h; exact absurd h (by decide)
  · exact h2
theorem bk_len {n : Nat} : (bk L n).length ≤ n := by
  induction n with
  | zero => exact Nat.le_refl _
  | succ n ih => rw [bk]; split <;> simp <;> omega
def pushE (A : List Node_one) (L : List Api_entry) (e : Api_entry) : List Api_entry := (if 3 ≤ (pk A L e (bk L L.length)).1 then cutE L (pk A L e (bk L L.length)).2 else L) ++ [e]
abbrev pushM (s a b3 b5 b8 b9 b10 : Nat) (A : List Node_one) (es : List Api_entry) (tk : Api_token) (e : Api_entry) (pre : List Nat) : List HP :=
  [arenaL a A, blk b3 24 [.pointer (some ⟨s, 0, none⟩)], blk b5 53 (Api_token.cells tk), blk b8 55 (Api_entry.cells e), blk b9 3 [.int .i64 ((pk A es e pre).1 : Int)], blk b10 3 [.int .i64 ((pk A es e pre).2 : Int)]]
set_option maxHeartbeats 2000000 in
theorem aPush_spec {id : Int} {tk : Api_token} {es : List Api_entry} (hn : 0 < A.length) (ha : AttrsOk A) (hl : es.length ≤ 2000000) (hb : ∀ e ∈ es, e.Node ≠ -1 → hasB A e.Node = true) (hE : ∀ e ∈ es, EOk k e) (ht : EOk k ⟨id, tk⟩) (hO : Own k w [arenaL a A, actL s a es]) :
    Tri Tryz.prog 21 #[.pointer (some ⟨s, 0, none⟩), .int .i64 id, .agg (Api_token.cells tk).toArray] k w fun v m => v = .int .i64 (freshF A es id) ∧ m = [arenaL a A, actL s a (if freshF A es id = 0 then pushE A es ⟨id, tk⟩ else es)] := by
  refine enterM (args := [.pointer (some ⟨s, 0, none⟩), .int .i64 id, .agg (Api_token.cells tk).toArray]) Tryz.func21 rfl rfl ?_
  obtain ⟨p, c, hg, hlc, hO⟩ := actL_open (hO.ks [.o s])
  have hfr : freshF A es id = 0 → elB A id = true := by
    intro h; unfold freshF at h
    cases h2 : elB A id with
    | true => rfl
    | false => rw [if_pos h2] at h; exact absurd h (by decide)
  refine K0 (K1 ?_)
  refine s_box (vs := [.pointer (some ⟨s, 0, none⟩)]) hO rfl rfl rfl (by rfl) fun b3 w hO => ?_
  refine s_box (vs := [.int .i64 tk.Kind, .string tk.Name, .string tk.Data, .string tk.System, .int .i64 tk.Has, .bool tk.Quirks, .int .i32 tk.Char, .bool tk.Self, .slice tk.AttrsP tk.Attrs.length tk.AttrsC]) hO rfl rfl rfl (by rfl) fun b5 w hO => ?_
  refine l_y rfl rfl (y_assign rfl) ?_
  refine K2 (K3 (K0 (K0 (K1 ?_))))
  refine l_y rfl rfl (D5 hO rfl) ?_
  refine l_y rfl rfl (y_move rfl) ?_
  refine CK [.o a, .b s, .p p] hO rfl (fun k' hx hr hO' => afresh_spec hn ha hg hl (hO := hO')) ?_
  rintro _ _ w ⟨rfl, rfl⟩ hO
  simp only [List.cons_append, List.nil_append] at hO
  refine l_y rfl rfl (y_assign rfl) ?_
  refine K2 (K3 (K0 (K1 ?_)))
  refine l_y rfl rfl (y_move rfl) ?_
  refine Z1 (fun h2_1 => ?_) (fun h2_1 => ?_)
  · refine K2 (K3 (L8 (K0 (K1 ?_))))
    refine l_y rfl rfl (y_move rfl) ?_
    refine l_y rfl rfl (y_assign rfl) ?_
    refine K2 (K3 (K6 (K9 ?_)))
    refine finM0 (R := fun _ _ => True) ?_
    rw [if_neg h2_1]
    exact fin1 rfl rfl ⟨_, ⟨rfl, rfl⟩, ((actL_shut (hO.ks [.b s, .p p])).ks [.o a, .o s]).two⟩
  · refine K2 (K3 (L9 (K5 (K3 (K0 ?_)))))
    have hid := elB_has (hfr h2_1)
    refine K1 ?_
    refine l_y rfl rfl (y_move rfl) ?_
    refine l_y rfl rfl (D8 (cs := [.int .i64 tk.Kind, .string tk.Name, .string tk.Data, .string tk.System, .int .i64 tk.Has, .bool tk.Quirks, .int .i32 tk.Char, .bool tk.Self, .slice tk.AttrsP tk.Attrs.length tk.AttrsC]) hO rfl) ?_
    refine s_build (parts := [(0, .tmp 19), (1, .tmp 20)]) (cs := [.int .i64 id, .int .i64 tk.Kind, .string tk.Name, .string tk.Data, .string tk.System, .int .i64 tk.Has, .bool tk.Quirks, .int .i32 tk.Char, .bool tk.Self, .slice tk.AttrsP tk.Attrs.length tk.AttrsC]) rfl rfl (fun a ha => partsOf_sound ha _ _ rfl) (by kernel_rfl) ?_
    refine s_alloc (vs := [.int .i64 0, .int .i64 0, .string ⟨#[]⟩, .string ⟨#[]⟩, .string ⟨#[]⟩, .int .i64 0, .bool false, .int .i32 0, .bool false, .slice none 0 0]) hO rfl rfl rfl fun b8 w hO => ?_
    refine Y3 hO rfl rfl (fun w hO => ?_)
    refine K2 (K3 (K0 (K1 ?_)))
    refine s_alloc (vs := [.int .i64 0]) hO rfl rfl rfl fun b9 w hO => ?_
    refine s_alloc (vs := [.int .i64 0]) hO rfl rfl rfl fun b10 w hO => ?_
    refine Y1 hO rfl rfl (fun w hO => ?_)
    simp only [List.set_cons_zero, List.set_cons_succ] at hO
    refine Y1 hO rfl rfl (fun w hO => ?_)
    simp only [List.set_cons_zero, List.set_cons_succ] at hO
    refine K2 (K3 (K0 (K0 (K1 ?_))))
    refine l_y rfl rfl (D5 hO rfl) ?_
    refine CK [] hO rfl (fun k' hx hr hO' => back_spec (hO := hO')) ?_
    rintro _ _ w ⟨b, rfl, rfl⟩ hO
    simp only [List.cons_append, List.nil_append] at hO
    refine K2 (K3 (K4 ?_))
    refine c_range (gf := 94) (lb := [.pointer (some ⟨b, 0, none⟩)]) (done := fun M => M = bF s a p c es b ++ pushM s a b3 b5 b8 b9 b10 A es tk ⟨id, tk⟩ (bk es es.length)) (stop := fun _ _ => False) hO rfl (fun fn tmps L D w hF hO => ?_) (fun D w M hM hO => ?_) (fun D w c M hM hO => ?_)
    · have hO2 : Own k w (obj L (loopO .ready none fn tmps _ _ _ D) :: (bF s a p c es b ++ (pushM s a b3 b5 b8 b9 b10 A es tk ⟨id, tk⟩ [] ++ [obj D (.deferred (some []))]))) := hO.ks [.o L, .b s, .p p, .b b, .o a, .b b3, .b b5, .b b8, .b b9, .b b10, .o D]
      refine Ret.mono (biter_spec (B := fun pre M => M = pushM s a b3 b5 b8 b9 b10 A es tk ⟨id, tk⟩ pre ++ [obj D (.deferred (some []))]) (stop := fun _ _ => False) hg hl rfl rfl hO2 ?_) (fun v w2 h => ?_)
      rotate_left
      · rcases h with ⟨M, ⟨M', rfl, rfl⟩, hO⟩ | ⟨_, _, h, _⟩
        · exact .inl ⟨_, rfl, hO.ks [.o L, .o D]⟩
        · exact h.elim
      rintro pre x suf _ w hxs hxl hxm rfl hO
      have hpl : pre.length < es.length := by have := bk_len (L := es) (n := es.length); rw [hxs] at this; simp at this; omega
      have hpk := pk_le (A := A) (L := es) (e := ⟨id, tk⟩) (xs := pre)
      have hEx := hE _ (at_mem hxl)
      have hbx := hb _ (at_mem hxl) hxm
      simp only [List.cons_append, List.nil_append] at hO
      obtain ⟨y, hy⟩ : ∃ y, at_ es x = y := ⟨_, rfl⟩
      rw [hy] at hEx hbx ⊢
      refine round_ok (n := Tryz.f21.ntmps) (E := [(3, .pointer (some ⟨b3, 0, none⟩)), (8, .pointer (some ⟨b8, 0, none⟩)), (9, .pointer (some ⟨b9, 0, none⟩)), (10, .pointer (some ⟨b10, 0, none⟩)), (24, .int .i64 (x : Int)), (25, .agg [.int .i64 y.Node, .int .i64 y.Token.Kind, .string y.Token.Name, .string y.Token.Data, .string y.Token.System, .int .i64 y.Token.Has, .bool y.Token.Quirks, .int .i32 y.Token.Char, .bool y.Token.Self, .slice y.Token.AttrsP y.Token.Attrs.length y.Token.AttrsC].toArray)]) ?_ hO ?_
      · have e1 : (#[24, 25].zip #[Value.int .i64 x, .agg (Api_entry.cells y).toArray]).foldl (fun tmps (t, a) => tmps.setIfInBounds t a) tmps = (tmps.setIfInBounds 24 (.int .i64 x)).setIfInBounds 25 (.agg (Api_entry.cells y).toArray) := by simp
        rw [e1]
        exact ((hF.put (d := some 24) rfl (.int .i64 x)).put (d := some 25) rfl (.agg (Api_entry.cells y).toArray)).weaken (E' := [(3, .pointer (some ⟨b3, 0, none⟩)), (8, .pointer (some ⟨b8, 0, none⟩)), (9, .pointer (some ⟨b9, 0, none⟩)), (10, .pointer (some ⟨b10, 0, none⟩)), (24, .int .i64 x), (25, .agg (Api_entry.cells y).toArray)]) ⟨rfl, rfl, rfl, rfl, rfl, rfl, trivial⟩
      · refine CR0 (CR1 ?_)
        refine l_y rfl rfl (y_assign rfl) ?_
        refine K2 (CR3 (CR1 ?_))
        refine s_alloc (vs := [.int .i64 0, .int .i64 0, .string ⟨#[]⟩, .string ⟨#[]⟩, .string ⟨#[]⟩, .int .i64 0, .bool false, .int .i32 0, .bool false, .slice none 0 0]) hO rfl rfl rfl fun b12 w hO => ?_
        refine Y3 hO rfl rfl (fun w hO => ?_)
        refine K2 ?_
        refine q_assign (hO.ks [.o L]) (fun w hO => ?_)
        refine CR4 (CR0 (CR1 ?_))
        refine l_y rfl rfl (D5 hO rfl) ?_
        refine l_y rfl rfl (D8 (cs := [.int .i64 id, .int .i64 tk.Kind, .string tk.Name, .string tk.Data, .string tk.System, .int .i64 tk.Has, .bool tk.Quirks, .int .i32 tk.Char, .bool tk.Self, .slice tk.AttrsP tk.Attrs.length tk.AttrsC]) hO rfl) ?_
        refine l_y rfl rfl (D8 (cs := [.int .i64 y.Node, .int .i64 y.Token.Kind, .string y.Token.Name, .string y.Token.Data, .string y.Token.System, .int .i64 y.Token.Has, .bool y.Token.Quirks, .int .i32 y.Token.Char, .bool y.Token.Self, .slice y.Token.AttrsP y.Token.Attrs.length y.Token.AttrsC]) hO rfl) ?_
        refine CK [.o a, .b s] hO rfl (fun k' hx hr hO' => kin_spec (x := ⟨id, tk⟩) (y := y) hn ha hid hbx ⟨ht.1.ext hO hx, ht.2⟩ ⟨hEx.1.ext hO hx, hEx.2⟩ (hO := hO')) ?_
        rintro _ _ w ⟨rfl, rfl⟩ hO
        simp only [List.cons_append, List.nil_append] at hO
        refine K2 (CR3 ?_)
        refine CRs rfl (fun hc29 => ?_) (fun hc29 => ?_)
        · have hpkT : pk A es ⟨id, tk⟩ (pre ++ [x]) = ((pk A es ⟨id, tk⟩ pre).1 + 1, x) := by rw [pk_snoc, hy, if_pos hc29]
          refine CR1 ?_
          refine l_y rfl rfl (D5 hO rfl) ?_
          refine l_y rfl rfl (v := .int .i64 ((pk A es ⟨id, tk⟩ (pre ++ [x])).1 : Int)) (by rw [hpkT]; exact D4) ?_
          refine l_y rfl rfl (v := .int .i64 ((pk A es ⟨id, tk⟩ (pre ++ [x])).2 : Int)) (by rw [hpkT]; exact y_move rfl) ?_
          refine Y1 hO rfl rfl (fun w hO => ?_)
          simp only [List.set_cons_zero, List.set_cons_succ] at hO
          refine Y1 hO rfl rfl (fun w hO => ?_)
          simp only [List.set_cons_zero, List.set_cons_succ] at hO
          refine K2 (K8 ?_)
          first
            | exact q_bodyend ⟨_, rfl, rfl⟩ (hO.only [.o L, .b s, .p p, .b b, .o a, .b b3, .b b5, .b b8, .b b9, .b b10, .o D])
            | (have hpkF : pk A es ⟨id, tk⟩ (pre ++ [x]) = pk A es ⟨id, tk⟩ pre := by rw [pk_snoc, hy, if_neg (by rw [hc29]; simp)]
               exact q_bodyend ⟨pushM s a b3 b5 b8 b9 b10 A es tk ⟨id, tk⟩ pre ++ [obj D (.deferred (some []))], by simp only [pushM, hpkF], rfl⟩ (hO.only [.o L, .b s, .p p, .b b, .o a, .b b3, .b b5, .b b8, .b b9, .b b10, .o D]))
        · refine CR5 (K8 ?_)
          first
            | exact q_bodyend ⟨_, rfl, rfl⟩ (hO.only [.o L, .b s, .p p, .b b, .o a, .b b3, .b b5, .b b8, .b b9, .b b10, .o D])
            | (have hpkF : pk A es ⟨id, tk⟩ (pre ++ [x]) = pk A es ⟨id, tk⟩ pre := by rw [pk_snoc, hy, if_neg (by rw [hc29]; simp)]
               exact q_bodyend ⟨pushM s a b3 b5 b8 b9 b10 A es tk ⟨id, tk⟩ pre ++ [obj D (.deferred (some []))], by simp only [pushM, hpkF], rfl⟩ (hO.only [.o L, .b s, .p p, .b b, .o a, .b b3, .b b5, .b b8, .b b9, .b b10, .o D]))
    · subst hM
      simp only [List.cons_append, List.nil_append] at hO
      refine K8 (K3 ?_)
      refine c_cut (X := Option Addr × Nat × List Api_entry) (fun z => [(3, .pointer (some ⟨b3, 0, none⟩)), (6, .int .i64 0), (8, .pointer (some ⟨b8, 0, none⟩))]) (fun z w => Own k w [arenaL a A, aB s a z.1 z.2.2.length z.2.1, aI z.1 z.2.1 z.2.2, blk b3 24 [.pointer (some ⟨s, 0, none⟩)], blk b8 55 (Api_entry.cells ⟨id, tk⟩), obj D (.deferred (some []))] ∧ (pushE A es ⟨id, tk⟩ = z.2.2 ++ [⟨id, tk⟩]) ∧ (z.2.2.length ≤ 2000000)) ?_ ?_
      · refine K0 (K1 ?_)
        refine l_y rfl rfl (D5 hO rfl) ?_
        refine Z0 (fun h11_1 => ?_) (fun h11_1 => ?_)
        · refine K2 (K3 (L8 (K1 ?_)))
          refine l_y rfl rfl (D5 hO rfl) ?_
          refine l_y rfl rfl (D5 hO rfl) ?_
          have hlt : (pk A es ⟨id, tk⟩ (bk es es.length)).2 < es.length := bk_lt (pk_mem (by omega))
          refine CK [.b s, .p p] hO rfl (fun k' hx hr hO' => remove_spec hlt hg hlc hl (hO := hO')) ?_
          rintro _ _ w ⟨rfl, rfl⟩ hO
          simp only [List.cons_append, List.nil_append] at hO
          obtain ⟨p2, c2, es2, hO, hpu, hl2⟩ : ∃ (p2 : Option Addr) (c2 : Nat) (es2 : List Api_entry), Own k w [arenaL a A, aB s a p2 es2.length c2, aI p2 c2 es2, blk b3 24 [.pointer (some ⟨s, 0, none⟩)], blk b8 55 (Api_entry.cells ⟨id, tk⟩), obj D (.deferred (some []))] ∧ pushE A es ⟨id, tk⟩ = es2 ++ [⟨id, tk⟩] ∧ es2.length ≤ 2000000 := by
            obtain ⟨p2, c2, hg2, hlc2, hO⟩ := actL_open (hO.ks [.o s])
            exact ⟨p2, c2, _, hO.only [.o a, .b s, .p p2, .b b3, .b b8, .o D], by rw [pushE, if_pos (by omega)], by simp [cutE]; omega⟩
          refine K2 ?_
          exact q_cut ((p2, c2, es2)) ⟨rfl, rfl, rfl, trivial⟩ ⟨hO.only [.o a, .b s, .p p2, .b b3, .b b8, .o D], hpu, hl2⟩
        · obtain ⟨p2, c2, es2, hO, hpu, hl2⟩ : ∃ (p2 : Option Addr) (c2 : Nat) (es2 : List Api_entry), Own k w [arenaL a A, aB s a p2 es2.length c2, aI p2 c2 es2, blk b3 24 [.pointer (some ⟨s, 0, none⟩)], blk b8 55 (Api_entry.cells ⟨id, tk⟩), obj D (.deferred (some []))] ∧ pushE A es ⟨id, tk⟩ = es2 ++ [⟨id, tk⟩] ∧ es2.length ≤ 2000000 := ⟨p, c, es, hO.only [.o a, .b s, .p p, .b b3, .b b8, .o D], by rw [pushE, if_neg (by omega)], hl⟩
          refine K2 (K3 (L9 (K5 ?_)))
          exact q_cut ((p2, c2, es2)) ⟨rfl, rfl, rfl, trivial⟩ ⟨hO.only [.o a, .b s, .p p2, .b b3, .b b8, .o D], hpu, hl2⟩
      · rintro z w ⟨hO, hz, hzl⟩
        refine K0 ?_
        refine da_regM ?_
        have hO := hO.drew
        refine da_phase _ [10] (SO.ks [.b b3, .b s, .b b8] hO) ?_
        refine dx_y 0 (by kernel_rfl) rfl rfl rfl (fun w ⟨m, hw⟩ => D5 hw rfl) ?_
        refine dx_y 1 (by kernel_rfl) rfl rfl rfl (fun w ⟨m, hw⟩ => D5 hw rfl) ?_
        refine dx_u 2 (by kernel_rfl) rfl rfl rfl (fun w => y_nilCheck rfl rfl) ?_
        refine dx_u 3 (by kernel_rfl) rfl rfl rfl (fun w => y_fldb (o' := 1) rfl) ?_
        refine dx_y 4 (by kernel_rfl) rfl rfl rfl (fun w ⟨m, hw⟩ => D5 hw rfl) ?_
        refine dx_y 5 (by kernel_rfl) rfl rfl rfl (fun w ⟨m, hw⟩ => D8 (cs := [.int .i64 id, .int .i64 tk.Kind, .string tk.Name, .string tk.Data, .string tk.System, .int .i64 tk.Has, .bool tk.Quirks, .int .i32 tk.Char, .bool tk.Self, .slice tk.AttrsP tk.Attrs.length tk.AttrsC]) hw rfl) ?_
        refine dx_only 6 (by kernel_rfl) rfl rfl ?_
        refine s_lit (parts := [(0, .tmp 43)]) (enc := Api_entry.cells) [⟨id, ⟨tk.Kind, tk.Name, tk.Data, tk.System, tk.Has, tk.Quirks, tk.Char, tk.Self, tk.AttrsP, tk.Attrs, tk.AttrsC⟩⟩] [.agg [.int .i64 id, .int .i64 tk.Kind, .string tk.Name, .string tk.Data, .string tk.System, .int .i64 tk.Has, .bool tk.Quirks, .int .i32 tk.Char, .bool tk.Self, .slice tk.AttrsP tk.Attrs.length tk.AttrsC].toArray] hO rfl (fun b44 w hO => ?_)
        refine o_done ?_
        refine ⟨SO.ks [.b b3, .b s, .b b8] hO, ?_⟩
        refine dx_only 7 (by kernel_rfl) rfl rfl ?_
        refine s_app hO rfl rfl (src_own hO) (fun p45 c45 w hO gs45 => ?_)
        refine o_done ?_
        refine ⟨SO.ks [.b b3, .b s, .b b8] hO, ?_⟩
        refine dx_u 8 (by kernel_rfl) rfl rfl rfl (fun w => y_nilCheck rfl rfl) ?_
        refine dx_u 9 (by kernel_rfl) rfl rfl rfl (fun w => y_fldb (o' := 1) rfl) ?_
        refine dx_close 10 (by kernel_rfl) rfl rfl ?_
        refine Y1 hO rfl rfl (fun w hO => ?_)
        simp only [List.set_cons_zero, List.set_cons_succ] at hO
        refine o_done ?_
        refine da_end (by kernel_rfl) (q_nopan ?_)
        refine K3 (K0 (K1 ?_))
        refine l_y rfl rfl (y_assign rfl) ?_
        refine K2 (K3 (K6 ?_))
        refine finM (hO.ks [.o D]) (fun w hO => ?_)
        rw [if_pos h2_1, hz]
        exact fin1 rfl rfl ⟨_, ⟨by rw [h2_1], rfl⟩, ((actL_shut (hO.ks [.b s, .p p45])).ks [.o a, .o s]).two⟩
    · exact hM.elim
theorem finS {P : Program} {E : Env} {n : Nat} {l : List HP} {fn : Func} {T' : Value → World → Prop} {t b : Nat} {ty T : TypeId} {v : Value} {vs : List Value} {M : HP → List HP} [hl : Lay P ty false 1] (hO : Own k w l) (hrs : fn.results = #[.cell t ty]) (hv : Hb.look E t = some (.pointer (some ⟨b, 0, none⟩))) [ha : AtB l b T vs M] (hT : T' v w) (hv0 : vs[0]? = some v := by rfl) :
    QW (bodyPost P fn fun e w' => ∃ v, e = .returned v ∧ T' v w') n [] .ret E w := fun c hc =>
  ⟨hc.defers, _, by
    obtain ⟨m, hm⟩ := ha.self
    have hh : Holds w ⟨b, 0, none⟩ [v] := hO.holds hm (.ofBlk1 hv0)
    have := hc.at_ t _ hv
    simp only [Array.getD_eq_getD_getElem?] at this
    have h1 : w.cell? ⟨b, 0, none⟩ = some v := by have := hh 0 v (by simp); simpa [Addr.add] using this
    simp [results, hrs, this, asAddr, loadVar, hl.isAgg, load, Sem.run, h1], _, rfl, hT⟩
/-- the last element of a name -/
def lastE (A : List Node_one) (L : List Api_entry) (nm : ByteArray) : List Nat → Int
  | [] => -1
  | i :: xs => if (nodeA A (at_ L i).Node).Space = 0 ∧ (nodeA A (at_ L i).Node).Name = nm then (at_ L i).Node else lastE A L nm xs
theorem lastE_skip {nm : ByteArray} {pre suf : List Nat} (h : ∀ i ∈ pre, ¬ ((nodeA A (at_ L i).Node).Space = 0 ∧ (nodeA A (at_ L i).Node).Name = nm)) : lastE A L nm (pre ++ suf) = lastE A L nm suf := by
  induction pre with
  | nil => rfl
  | cons i pre ih => rw [List.cons_append, lastE, if_neg (h i (by simp)), ih (fun j hj => h j (by simp [hj]))]
abbrev lastM (s a b2 b3 b4 : Nat) (A : List Node_one) (nm : ByteArray) (z : Int) : List HP :=
  [arenaL a A, blk b2 24 [.pointer (some ⟨s, 0, none⟩)], blk b3 9 [.string nm], blk b4 3 [.int .i64 z]]
set_option maxHeartbeats 2000000 in
theorem aLast_spec {nm : ByteArray} {es : List Api_entry} (hn : 0 < A.length) (ha : AttrsOk A) (hl : es.length ≤ 2000000) (hb : ∀ e ∈ es, e.Node ≠ -1 → hasB A e.Node = true) (hO : Own k w [arenaL a A, actL s a es]) :
    Tri Tryz.prog 73 #[.pointer (some ⟨s, 0, none⟩), .string nm] k w fun v m => v = .int .i64 (lastE A es nm (bk es es.length)) ∧ m = [arenaL a A, actL s a es] := by
  refine enterM (args := [.pointer (some ⟨s, 0, none⟩), .string nm]) Tryz.func73 rfl rfl ?_
  obtain ⟨p, c, hg, hlc, hO⟩ := actL_open (hO.ks [.o s])
  refine K0 (K1 ?_)
  refine s_box (vs := [.pointer (some ⟨s, 0, none⟩)]) hO rfl rfl rfl (by rfl) fun b2 w hO => ?_
  refine s_box (vs := [.string nm]) hO rfl rfl rfl (by rfl) fun b3 w hO => ?_
  refine s_alloc (vs := [.int .i64 0]) hO rfl rfl rfl fun b4 w hO => ?_
  refine K2 (K3 (K0 (K0 (K1 ?_))))
  refine l_y rfl rfl (D5 hO rfl) ?_
  refine CK [.b s] hO rfl (fun k' hx hr hO' => anone_spec (hO := hO')) ?_
  rintro _ _ w ⟨rfl, rfl⟩ hO
  simp only [List.cons_append, List.nil_append] at hO
  refine K2 (K3 (L9 (K5 (K3 (K0 (K0 (K1 ?_)))))))
  refine l_y rfl rfl (D5 hO rfl) ?_
  refine CK [] hO rfl (fun k' hx hr hO' => back_spec (hO := hO')) ?_
  rintro _ _ w ⟨b, rfl, rfl⟩ hO
  simp only [List.cons_append, List.nil_append] at hO
  refine K2 (K3 (K4 ?_))
  refine c_range (gf := 94) (lb := [.pointer (some ⟨b, 0, none⟩)]) (done := fun M => M = bF s a p c es b ++ lastM s a b2 b3 b4 A nm 0 ∧ lastE A es nm (bk es es.length) = -1) (stop := fun c9 M => c9 = .ret ∧ M = bF s a p c es b ++ lastM s a b2 b3 b4 A nm (lastE A es nm (bk es es.length))) hO rfl (fun fn tmps L D w hF hO => ?_) (fun D w M hM hO => ?_) (fun D w c M hM hO => ?_)
  · have hO2 : Own k w (obj L (loopO .ready none fn tmps _ _ _ D) :: (bF s a p c es b ++ (lastM s a b2 b3 b4 A nm 0 ++ [obj D (.deferred (some []))]))) := hO.ks [.o L, .b s, .p p, .b b, .o a, .b b2, .b b3, .b b4, .o D]
    refine Ret.mono (biter_spec (B := fun pre M => M = lastM s a b2 b3 b4 A nm 0 ++ [obj D (.deferred (some []))] ∧ ∀ i ∈ pre, ¬ ((nodeA A (at_ es i).Node).Space = 0 ∧ (nodeA A (at_ es i).Node).Name = nm)) (stop := fun c9 M => c9 = .ret ∧ M = bF s a p c es b ++ (lastM s a b2 b3 b4 A nm (lastE A es nm (bk es es.length)) ++ [obj D (.deferred (some []))])) hg hl rfl ⟨rfl, fun i hi => by cases hi⟩ hO2 ?_) (fun v w2 h => ?_)
    rotate_left
    · rcases h with ⟨M, ⟨M', ⟨rfl, hs⟩, rfl⟩, hO⟩ | ⟨_, _, ⟨rfl, rfl⟩, hO⟩
      · exact .inl ⟨_, ⟨rfl, by have := lastE_skip (A := A) (L := es) (suf := []) hs; rw [List.append_nil] at this; exact this⟩, hO.ks [.o L, .o D]⟩
      · exact .inr ⟨_, _, ⟨rfl, rfl⟩, hO.ks [.o L, .o D]⟩
    rintro pre x suf _ w hxs hxl hxm ⟨rfl, hsk⟩ hO
    have hbx := hb _ (at_mem hxl) hxm
    simp only [List.cons_append, List.nil_append] at hO
    obtain ⟨y, hy⟩ : ∃ y, at_ es x = y := ⟨_, rfl⟩
    rw [hy] at hbx hxm ⊢
    refine round_ok (n := Tryz.f73.ntmps) (E := [(2, .pointer (some ⟨b2, 0, none⟩)), (3, .pointer (some ⟨b3, 0, none⟩)), (4, .pointer (some ⟨b4, 0, none⟩)), (13, .int .i64 (x : Int)), (14, .agg [.int .i64 y.Node, .int .i64 y.Token.Kind, .string y.Token.Name, .string y.Token.Data, .string y.Token.System, .int .i64 y.Token.Has, .bool y.Token.Quirks, .int .i32 y.Token.Char, .bool y.Token.Self, .slice y.Token.AttrsP y.Token.Attrs.length y.Token.AttrsC].toArray)]) ?_ hO ?_
    · have e1 : (#[13, 14].zip #[Value.int .i64 x, .agg (Api_entry.cells y).toArray]).foldl (fun tmps (t, a) => tmps.setIfInBounds t a) tmps = (tmps.setIfInBounds 13 (.int .i64 x)).setIfInBounds 14 (.agg (Api_entry.cells y).toArray) := by simp
      rw [e1]
      exact ((hF.put (d := some 13) rfl (.int .i64 x)).put (d := some 14) rfl (.agg (Api_entry.cells y).toArray)).weaken (E' := [(2, .pointer (some ⟨b2, 0, none⟩)), (3, .pointer (some ⟨b3, 0, none⟩)), (4, .pointer (some ⟨b4, 0, none⟩)), (13, .int .i64 x), (14, .agg (Api_entry.cells y).toArray)]) ⟨rfl, rfl, rfl, rfl, rfl, trivial⟩
    · refine CR1 ?_
      refine s_alloc (vs := [.int .i64 0, .int .i64 0, .string ⟨#[]⟩, .string ⟨#[]⟩, .string ⟨#[]⟩, .int .i64 0, .bool false, .int .i32 0, .bool false, .slice none 0 0]) hO rfl rfl rfl fun b6 w hO => ?_
      refine Y3 hO rfl rfl (fun w hO => ?_)
      refine K2 ?_
      refine q_assign (hO.ks [.o L]) (fun w hO => ?_)
      refine CR4 (CR0 ?_)
      refine CRa ?_
      have hO := hO.drew
      refine da_phase _ [11] (SO.ks [.b b2, .b s, .b b6] hO) ?_
      refine dx_y 0 (by kernel_rfl) rfl rfl rfl (fun w ⟨m, hw⟩ => D5 hw rfl) ?_
      refine dx_u 1 (by kernel_rfl) rfl rfl rfl (fun w => y_nilCheck rfl rfl) ?_
      refine dx_u 2 (by kernel_rfl) rfl rfl rfl (fun w => y_fldb (o' := 0) rfl) ?_
      refine dx_y 3 (by kernel_rfl) rfl rfl rfl (fun w ⟨m, hw⟩ => D5 hw rfl) ?_
      refine dx_u 4 (by kernel_rfl) rfl rfl rfl (fun w => y_fldb (o' := 0) rfl) ?_
      refine dx_y 5 (by kernel_rfl) rfl rfl rfl (fun w ⟨m, hw⟩ => D5 hw rfl) ?_
      refine dx_two 6 10 (by kernel_rfl) rfl rfl rfl rfl ?_ ?_
      · refine CK [.o a] hO rfl (fun k' hx hr hO' => NodeD_spec hn ha (hO := hO')) ?_
        rintro _ _ w ⟨n1, hn1, rfl, rfl⟩ hO
        simp only [List.cons_append, List.nil_append] at hO
        refine o_done ?_
        refine ⟨SO.ks [.b b2, .b s, .b b6] hO, ?_⟩
        refine dx_u 7 (by kernel_rfl) rfl rfl rfl (fun w => y_move rfl) ?_
        refine dx_u 8 (by kernel_rfl) rfl rfl rfl (fun w => y_extract rfl rfl) ?_
        refine dx_u 9 (by kernel_rfl) rfl rfl rfl (fun w => y_extract rfl rfl) ?_
        refine dx_only 10 (by kernel_rfl) rfl rfl ?_
        refine s_alloc (vs := [.int .i64 0, .int .i64 0, .string ⟨#[]⟩, .slice none 0 0, .string ⟨#[]⟩, .string ⟨#[]⟩, .int .i64 0, .int .i64 0, .int .i64 0, .int .i64 0, .int .i64 0, .int .i64 0]) hO rfl rfl rfl fun b7 w hO => ?_
        refine o_done ?_
        refine ⟨SO.ks [.b b2, .b s, .b b6] hO, ?_⟩
        refine dx_close 11 (by kernel_rfl) rfl rfl ?_
        refine Y3 hO rfl rfl (fun w hO => ?_)
        refine o_done ?_
        refine da_phase _ [] (SO.ks [] hO) ?_
        refine dx_u 12 (by kernel_rfl) rfl rfl rfl (fun w => y_assign rfl) ?_
        refine dx_end (by kernel_rfl) (q_nopan ?_)
        refine CR3 (CR0 ?_)
        have e2 : n1.Space = (nodeA A y.Node).Space := hn1.space hbx
        have e3 : n1.Name = (nodeA A y.Node).Name := hn1.name hbx
        refine CR1 ?_
        refine l_y rfl rfl (y_fldb (o' := 1) rfl) ?_
        refine l_y rfl rfl (D5 hO rfl) ?_
        refine Z0 (fun h6_2 => ?_) (fun h6_2 => ?_)
        · refine l_y rfl rfl (y_move rfl) ?_
          refine l_y rfl rfl (y_fldb (o' := 2) rfl) ?_
          refine l_y rfl rfl (D5 hO rfl) ?_
          refine l_y rfl rfl (D5 hO rfl) ?_
          refine Z2 (fun h6_7 => ?_) (fun h6_7 => ?_)
          · refine l_y rfl rfl (y_pick_t rfl rfl) ?_
            refine K2 (CR3 (CR8 (CR0 ?_)))
            have hla : lastE A es nm (bk es es.length) = y.Node := by
              rw [hxs, lastE_skip hsk, lastE, hy, if_pos ⟨by rw [← e2]; exact h6_2, by rw [← e3]; exact h6_7⟩]
            rw [hla]
            refine CR1 ?_
            refine l_y rfl rfl (y_fldb (o' := 0) rfl) ?_
            refine l_y rfl rfl (D5 hO rfl) ?_
            refine Y1 hO rfl rfl (fun w hO => ?_)
            simp only [List.set_cons_zero, List.set_cons_succ] at hO
            refine K2 (CR3 (CR6 (L0 ?_)))
            exact q_bodyret ⟨rfl, rfl⟩ (hO.only [.o L, .b s, .p p, .b b, .o a, .b b2, .b b3, .b b4, .o D])
          · refine l_y rfl rfl (y_pick_t rfl rfl) ?_
            refine K2 (CR3 (CR9 (CR5 (K8 ?_))))
            have hno : ¬ ((nodeA A (at_ es x).Node).Space = 0 ∧ (nodeA A (at_ es x).Node).Name = nm) := by
              rw [hy, ← e2, ← e3]
              first | (intro h; exact h6_7 h.2) | (intro h; exact h6_2 h.1)
            exact q_bodyend ⟨_, ⟨rfl, fun i hi => (List.mem_append.1 hi).elim (hsk i) (fun h => by rw [List.mem_singleton.1 h]; exact hno)⟩, rfl⟩ (hO.only [.o L, .b s, .p p, .b b, .o a, .b b2, .b b3, .b b4, .o D])
        · refine l_y rfl rfl (y_move rfl) ?_
          repeat refine M2 ?_
          refine l_y rfl rfl (y_pick_f rfl rfl) ?_
          refine K2 (CR3 (CR9 (CR5 (K8 ?_))))
          have hno : ¬ ((nodeA A (at_ es x).Node).Space = 0 ∧ (nodeA A (at_ es x).Node).Name = nm) := by
            rw [hy, ← e2, ← e3]
            first | (intro h; exact h6_7 h.2) | (intro h; exact h6_2 h.1)
          exact q_bodyend ⟨_, ⟨rfl, fun i hi => (List.mem_append.1 hi).elim (hsk i) (fun h => by rw [List.mem_singleton.1 h]; exact hno)⟩, rfl⟩ (hO.only [.o L, .b s, .p p, .b b, .o a, .b b2, .b b3, .b b4, .o D])
      · refine s_alloc (vs := [.int .i64 0, .int .i64 0, .string ⟨#[]⟩, .slice none 0 0, .string ⟨#[]⟩, .string ⟨#[]⟩, .int .i64 0, .int .i64 0, .int .i64 0, .int .i64 0, .int .i64 0, .int .i64 0]) hO rfl rfl rfl fun b7 w hO => ?_
        refine o_done ?_
        refine ⟨SO.ks [.b b2, .b s, .b b6] hO, ?_⟩
        refine dx_only 6 (by kernel_rfl) rfl rfl ?_
        refine CK [.o a] hO rfl (fun k' hx hr hO' => NodeD_spec hn ha (hO := hO')) ?_
        rintro _ _ w ⟨n1, hn1, rfl, rfl⟩ hO
        simp only [List.cons_append, List.nil_append] at hO
        refine o_done ?_
        refine ⟨SO.ks [.b b2, .b s, .b b6] hO, ?_⟩
        refine dx_u 7 (by kernel_rfl) rfl rfl rfl (fun w => y_move rfl) ?_
        refine dx_u 8 (by kernel_rfl) rfl rfl rfl (fun w => y_extract rfl rfl) ?_
        refine dx_u 9 (by kernel_rfl) rfl rfl rfl (fun w => y_extract rfl rfl) ?_
        refine dx_close 11 (by kernel_rfl) rfl rfl ?_
        refine Y3 hO rfl rfl (fun w hO => ?_)
        refine o_done ?_
        refine da_phase _ [] (SO.ks [] hO) ?_
        refine dx_u 12 (by kernel_rfl) rfl rfl rfl (fun w => y_assign rfl) ?_
        refine dx_end (by kernel_rfl) (q_nopan ?_)
        refine CR3 (CR0 ?_)
        have e2 : n1.Space = (nodeA A y.Node).Space := hn1.space hbx
        have e3 : n1.Name = (nodeA A y.Node).Name := hn1.name hbx
        refine CR1 ?_
        refine l_y rfl rfl (y_fldb (o' := 1) rfl) ?_
        refine l_y rfl rfl (D5 hO rfl) ?_
        refine Z0 (fun h6_2 => ?_) (fun h6_2 => ?_)
        · refine l_y rfl rfl (y_move rfl) ?_
          refine l_y rfl rfl (y_fldb (o' := 2) rfl) ?_
          refine l_y rfl rfl (D5 hO rfl) ?_
          refine l_y rfl rfl (D5 hO rfl) ?_
          refine Z2 (fun h6_7 => ?_) (fun h6_7 => ?_)
          · refine l_y rfl rfl (y_pick_t rfl rfl) ?_
            refine K2 (CR3 (CR8 (CR0 ?_)))
            have hla : lastE A es nm (bk es es.length) = y.Node := by
              rw [hxs, lastE_skip hsk, lastE, hy, if_pos ⟨by rw [← e2]; exact h6_2, by rw [← e3]; exact h6_7⟩]
            rw [hla]
            refine CR1 ?_
            refine l_y rfl rfl (y_fldb (o' := 0) rfl) ?_
            refine l_y rfl rfl (D5 hO rfl) ?_
            refine Y1 hO rfl rfl (fun w hO => ?_)
            simp only [List.set_cons_zero, List.set_cons_succ] at hO
            refine K2 (CR3 (CR6 (L0 ?_)))
            exact q_bodyret ⟨rfl, rfl⟩ (hO.only [.o L, .b s, .p p, .b b, .o a, .b b2, .b b3, .b b4, .o D])
          · refine l_y rfl rfl (y_pick_t rfl rfl) ?_
            refine K2 (CR3 (CR9 (CR5 (K8 ?_))))
            have hno : ¬ ((nodeA A (at_ es x).Node).Space = 0 ∧ (nodeA A (at_ es x).Node).Name = nm) := by
              rw [hy, ← e2, ← e3]
              first | (intro h; exact h6_7 h.2) | (intro h; exact h6_2 h.1)
            exact q_bodyend ⟨_, ⟨rfl, fun i hi => (List.mem_append.1 hi).elim (hsk i) (fun h => by rw [List.mem_singleton.1 h]; exact hno)⟩, rfl⟩ (hO.only [.o L, .b s, .p p, .b b, .o a, .b b2, .b b3, .b b4, .o D])
        · refine l_y rfl rfl (y_move rfl) ?_
          repeat refine M2 ?_
          refine l_y rfl rfl (y_pick_f rfl rfl) ?_
          refine K2 (CR3 (CR9 (CR5 (K8 ?_))))
          have hno : ¬ ((nodeA A (at_ es x).Node).Space = 0 ∧ (nodeA A (at_ es x).Node).Name = nm) := by
            rw [hy, ← e2, ← e3]
            first | (intro h; exact h6_7 h.2) | (intro h; exact h6_2 h.1)
          exact q_bodyend ⟨_, ⟨rfl, fun i hi => (List.mem_append.1 hi).elim (hsk i) (fun h => by rw [List.mem_singleton.1 h]; exact hno)⟩, rfl⟩ (hO.only [.o L, .b s, .p p, .b b, .o a, .b b2, .b b3, .b b4, .o D])
  · obtain ⟨rfl, hle⟩ := hM
    simp only [List.cons_append, List.nil_append] at hO
    refine K8 (K3 (K0 (K1 ?_)))
    refine Y1 hO rfl rfl (fun w hO => ?_)
    simp only [List.set_cons_zero, List.set_cons_succ] at hO
    refine K2 (K3 (K6 ?_))
    refine finM (hO.ks [.o D]) (fun w hO => ?_)
    rw [hle]
    exact finS hO rfl rfl ⟨_, ⟨rfl, rfl⟩, ((actL_shut (hO.ks [.b s, .p p])).ks [.o a, .o s]).two⟩
  · obtain ⟨rfl, rfl⟩ := hM
    simp only [List.cons_append, List.nil_append] at hO
    refine K6 (L0 (K9 ?_))
    refine finM (hO.ks [.o D]) (fun w hO => ?_)
    exact finS hO rfl rfl ⟨_, ⟨rfl, rfl⟩, ((actL_shut (hO.ks [.b s, .p p])).ks [.o a, .o s]).two⟩
end
end Go.Proofs.YtoohapbaelmkcaaGreat
end
section
set_option linter.unusedVariables false
set_option linter.unusedSimpArgs false
set_option maxRecDepth 100000
namespace Go.Proofs.YtoohapbaelmkcaaGreat
open Go Go.Hb Go.RowKit
section
variable {P : Program} {ops : Array Oper} {Q : Exit → Act → World → Prop} {n : Nat} {ds : List Deferred} {E : Env} {w : World} {k : Ctx} {l : List HP}
variable {rest : List Oper} {d : Option Tmp} {ty : TypeId} {pos : String} {aft : Array Edge} {g : Option (Nat × Bool)}
/-- copy(x[i+1:], x[i:]) of one's own x -/
theorem s_cpUp {t u T : TypeId} {agg : Bool} {sz : Nat} [hu : Und P t (.slice T)] [hl : Lay P T agg sz] {x y : Operand} {p : Option Addr} {c i : Nat} {α : Type} {enc : α → List Value} {xs : List α} {rl : List HP} (hO : Own k w l) (hx : ev E x = some (.slice (subp p c (i + 1) sz) (xs.length - (i + 1)) (c - (i + 1)))) (hy : ev E y = some (.slice (subp p c i sz) (xs.length - i) (c - i))) {sz' : Nat} [hp : PkP l p T α c sz' enc xs rl] [ho : OneC enc sz] (hi : i < xs.length)
    (h : ∀ w', Own k w' (sls p c T sz enc (xs.take (i + 1) ++ (xs.drop i).take (xs.length - (i + 1))) :: rl) → LW P ops Q n ds rest (E.put d (.int .i64 ((xs.length - (i + 1) : Nat) : Int))) w') (hsz : sz' = sz := by rfl) (hg : gd ops E g = some true := by rfl) (hd : dok n d = true := by rfl) : LW P ops Q n ds (⟨d, .call ⟨.builtin .copy, #[x, y], #[t, u]⟩, ty, pos, aft, g⟩ :: rest) E w := by
  subst hsz
  have hO1 := hO.pull hp.pull
  have hv := sls_sli (p := p) hO1
  have hf := sls_fct (p := p) hO1
  obtain ⟨b, o, rfl⟩ := hf.2 (by omega)
  obtain ⟨m, hm⟩ : ∃ m, m = xs.length - (i + 1) := ⟨_, rfl⟩
  have hlen : ((xs.drop i).take m).length = m := by simp; omega
  have hsrc : subp (some ⟨b, o, none⟩) c i sz' = some ⟨b, o + i * sz', none⟩ := by
    rw [subp, if_neg (by have := hf.1; omega)]; simp only [Option.map_some, Addr.add_lit]
  have hH : Holds w ⟨b, o + i * sz', none⟩ (((xs.drop i).take m).map enc).flatten := by
    have hv2 := sli_tl (cuts_holds w) hv i (by omega)
    rw [hsrc] at hv2
    have hv3 := sli_hd (cuts_holds w) hv2 m (c - i) (by omega) (by have := hf.1; omega)
    by_cases h0 : m = 0
    · intro j v hj; simp [h0] at hj
    · obtain ⟨p', c', he, _, h3⟩ := hv3
      obtain ⟨b', o', hp', hH⟩ := h3 (by intro e; rw [List.map_eq_nil_iff] at e; rw [e] at hlen; simp at hlen; omega)
      rw [hp'] at he
      injection he with he _ _
      injection he with he
      rw [he]; exact hH
  have hfl : (((xs.drop i).take m).map enc).flatten.length = m * sz' := by rw [OneC.flat, hlen]
  have hC : (Builtin.firstCells sz' m (.slice (some ⟨b, o + i * sz', none⟩) (xs.length - i) (c - i))).run P w = .ok (((xs.drop i).take m).map enc).flatten.toArray w := run_firstCells_some (P := P) w sz' m ⟨b, o + i * sz', none⟩ (xs.length - i) (c - i) _ hfl (fun j v hv => hH j v hv)
  have hmin : Nat.min (xs.length - i) m = m := Nat.min_eq_right (by omega)
  rw [hsrc] at hy
  rw [← hm] at hx h
  have e2 : ∀ ys : List α, ys = (xs.drop i).take m → (xs.map enc).take (i + 1) ++ ys.map enc ++ (xs.map enc).drop (i + 1 + ys.length) = (xs.take (i + 1) ++ ys).map enc := by
    intro ys he
    rw [he, hlen, show i + 1 + m = xs.length by omega]
    simp
  by_cases h0 : m = 0
  · obtain ⟨q, hq⟩ : ∃ q, subp (some ⟨b, o, none⟩) c (i + 1) sz' = some q := by
      rw [subp]; split
      · exact ⟨_, rfl⟩
      · exact ⟨_, rfl⟩
    rw [hq] at hx
    have hnil : (xs.drop i).take m = [] := by rw [h0]; simp
    have hr : (Builtin.copy_ #[t, u] ty #[.slice (some q) m (c - (i + 1)), .slice (some ⟨b, o + i * sz', none⟩) (xs.length - i) (c - i)]).run P w = .ok (.int .i64 m) w := by
      rw [hnil] at hC
      simp [Builtin.copy_, Builtin.lenOf, run_underlying hu.eq, hl.size, hmin, hC, storeCells, goInt]
    refine l_val (o := ⟨d, .call ⟨.builtin .copy, #[x, y], #[t, u]⟩, ty, pos, aft, g⟩) hg hd (fun a ha => ?_) (h w ?_)
    · simp [execOp, resolve, ha.eval hx, ha.eval hy, invoke, builtin, hr]
    · rw [hnil, List.append_nil, List.take_of_length_le (by omega)]; exact hO1
  · have hdst : subp (some ⟨b, o, none⟩) c (i + 1) sz' = some ⟨b, o + (i + 1) * sz', none⟩ := by
      rw [subp, if_neg (by have := hf.1; omega)]; simp only [Option.map_some, Addr.add_lit]
    rw [hdst] at hx
    have hO2 := arr_sls hO1 rfl
    obtain ⟨w', hst, hO3⟩ := hO2.store (P := P) (.hd _ _ _) (Upd.ofRows (i := i + 1) (news := ((xs.drop i).take m).map enc) (OneC.rows _) (by rw [List.length_map, List.length_map, hlen]; omega)) (by
      intro v hv
      obtain ⟨r, hr, hv⟩ := List.mem_flatten.1 hv
      exact OneC.cells _ r hr v hv)
    have hr : (Builtin.copy_ #[t, u] ty #[.slice (some ⟨b, o + (i + 1) * sz', none⟩) m (c - (i + 1)), .slice (some ⟨b, o + i * sz', none⟩) (xs.length - i) (c - i)]).run P w = .ok (.int .i64 m) w' := by
      generalize (((xs.drop i).take m).map enc).flatten = N at hC hst
      simp [Builtin.copy_, Builtin.lenOf, run_underlying hu.eq, hl.size, hmin, hC, hst, goInt]
    refine l_val (o := ⟨d, .call ⟨.builtin .copy, #[x, y], #[t, u]⟩, ty, pos, aft, g⟩) hg hd (fun a ha => ?_) (h w' ?_)
    · simp [execOp, resolve, ha.eval hx, ha.eval hy, invoke, builtin, hr]
    · rw [List.length_map] at hO3
      rw [e2 _ rfl] at hO3
      refine sls_mk (sl_shut hO3 rfl) ?_ rfl
      simp
end
section
variable {k : Ctx} {w : World} {s a c : Nat} {p : Option Addr} {L : List Api_entry} {A : List Node_one}
theorem findE_cases (L : List Api_entry) (x : Int) : findE L x = -1 ∨ ∃ i : Nat, findE L x = i ∧ i < L.length ∧ (at_ L i).Node = x ∧ x ≠ -1 := by
  by_cases h : x = -1
  · exact .inl (by rw [findE, if_pos h])
  · rcases idx_cases (fun y : Api_entry => decide (y.Node = x)) L with ⟨h1, _⟩ | ⟨i, h1, h2, h3, _⟩
    · exact .inl (by rw [findE, if_neg h]; exact h1)
    · exact .inr ⟨i, by rw [findE, if_neg h]; exact h1, h2, of_decide_eq_true h3, h⟩
def removeE (L : List Api_entry) (id : Int) : Int × List Api_entry := if findE L id < 0 then (6, L) else (0, cutE L (findE L id).toNat)
theorem aRemove_spec {id : Int} (hl : L.length ≤ 2000000) (hO : Own k w [actL s a L]) :
    Tri Tryz.prog 34 #[.pointer (some ⟨s, 0, none⟩), .int .i64 id] k w fun v m => v = .int .i64 (removeE L id).1 ∧ m = [actL s a (removeE L id).2] := by
  refine enter (args := [.pointer (some ⟨s, 0, none⟩), .int .i64 id]) Tryz.func34 rfl rfl ?_
  obtain ⟨p, c, hg, hlc, hO⟩ := actL_open hO
  refine K0 (K1 ?_)
  refine l_y rfl rfl (y_assign rfl) ?_
  refine K2 (K3 (K0 (K1 ?_)))
  refine l_y rfl rfl (y_move rfl) ?_
  refine l_y rfl rfl (y_move rfl) ?_
  refine CK [.b s, .p p] hO rfl (fun k' hx hr hO' => aFindB_spec hg hl (hO := hO')) ?_
  rintro _ _ w ⟨rfl, rfl⟩ hO
  simp only [List.cons_append, List.nil_append] at hO
  refine l_y rfl rfl (y_assign rfl) ?_
  refine K2 (K3 (K0 (K4 (K0 (K1 ?_)))))
  refine l_y rfl rfl (y_move rfl) ?_
  refine CK [.b s] hO rfl (fun k' hx hr hO' => anone_spec (hO := hO')) ?_
  rintro _ _ w ⟨rfl, rfl⟩ hO
  simp only [List.cons_append, List.nil_append] at hO
  refine l_y rfl rfl (y_assign rfl) ?_
  refine K2 (K3 (L9 (K0 (K1 ?_))))
  refine l_y rfl rfl (y_move rfl) ?_
  refine Z0 (fun h4_1 => ?_) (fun h4_1 => ?_)
  · refine l_y rfl rfl (y_assign rfl) ?_
    refine K2 (K3 (L8 (K0 (K1 ?_))))
    refine l_y rfl rfl (y_assign rfl) ?_
    refine K2 (K3 (K6 (L0 (K9 ?_))))
    exact fin1 rfl rfl ⟨_, ⟨by rw [removeE, if_pos h4_1], rfl⟩, by rw [removeE, if_pos h4_1]; exact (actL_shut (hO.ks [.b s, .p p])).one⟩
  · refine l_y rfl rfl (y_assign rfl) ?_
    refine K2 (K3 (L9 (K5 (K8 (K3 (K0 ?_))))))
    obtain ⟨i, hi, hi2⟩ : ∃ i : Nat, findE L id = i ∧ i < L.length := by
      rcases findE_cases L id with h | ⟨i, h1, h2, _⟩
      · omega
      · exact ⟨i, h1, h2⟩
    have er : removeE L id = (0, cutE L i) := by rw [removeE, if_neg h4_1, hi]; rfl
    rw [er]
    refine K1 ?_
    refine l_y rfl rfl (y_move rfl) ?_
    refine l_y rfl rfl (y_move rfl) ?_
    refine CK [.b s, .p p] hO (by rw [hi]; rfl) (fun k' hx hr hO' => remove_spec hi2 hg hlc hl (hO := hO')) ?_
    rintro _ _ w ⟨rfl, rfl⟩ hO
    simp only [List.cons_append, List.nil_append] at hO
    refine K2 (K3 (K0 (K1 ?_)))
    refine l_y rfl rfl (y_assign rfl) ?_
    refine K2 (K3 (K6 ?_))
    exact fin1 rfl rfl ⟨_, ⟨rfl, rfl⟩, hO.one⟩
def putE (A : List Node_one) (L : List Api_entry) (i : Int) (e : Api_entry) : Int × List Api_entry := if freshF A L e.Node ≠ 0 then (freshF A L e.Node, L) else if i < 0 ∨ (L.length : Int) < i then (1, L) else (0, L.take i.toNat ++ [e] ++ L.drop i.toNat)
theorem put_up {i : Nat} {e d : Api_entry} (hi : i ≤ L.length) : ((L ++ [d]).take (i + 1) ++ ((L ++ [d]).drop i).take ((L ++ [d]).length - (i + 1))).set i e = L.take i ++ [e] ++ L.drop i := by
  have h1 : ((L ++ [d]).drop i).take ((L ++ [d]).length - (i + 1)) = L.drop i := by
    rw [List.drop_append_of_le_length hi, List.length_append, List.length_singleton, show L.length + 1 - (i + 1) = (L.drop i).length by simp, List.take_left]
  rw [h1, take_succ_at (by simp; omega), List.take_append_of_le_length hi, List.append_assoc, List.set_append_right _ _ (by simp; omega)]
  simp [List.length_take, Nat.min_eq_left hi]
set_option maxHeartbeats 1000000 in
theorem aPut_spec {id i : Int} {tk : Api_token} (hn : 0 < A.length) (ha : AttrsOk A) (hl : L.length ≤ 2000000) (hO : Own k w [arenaL a A, actL s a L]) :
    Tri Tryz.prog 105 #[.pointer (some ⟨s, 0, none⟩), .int .i64 i, .int .i64 id, .agg (Api_token.cells tk).toArray] k w fun v m => v = .int .i64 (putE A L i ⟨id, tk⟩).1 ∧ m = [arenaL a A, actL s a (putE A L i ⟨id, tk⟩).2] := by
  refine enter (args := [.pointer (some ⟨s, 0, none⟩), .int .i64 i, .int .i64 id, .agg (Api_token.cells tk).toArray]) Tryz.func105 rfl rfl ?_
  obtain ⟨p, c, hg, hlc, hO⟩ := actL_open (hO.ks [.o s])
  refine K0 (K1 ?_)
  refine s_box (vs := [.int .i64 tk.Kind, .string tk.Name, .string tk.Data, .string tk.System, .int .i64 tk.Has, .bool tk.Quirks, .int .i32 tk.Char, .bool tk.Self, .slice tk.AttrsP tk.Attrs.length tk.AttrsC]) hO rfl rfl rfl (by rfl) fun b7 w hO => ?_
  refine l_y rfl rfl (y_assign rfl) ?_
  refine K2 (K3 (K0 (K0 (K1 ?_))))
  refine l_y rfl rfl (y_move rfl) ?_
  refine l_y rfl rfl (y_move rfl) ?_
  refine CK [.o a, .b s, .p p] hO rfl (fun k' hx hr hO' => afresh_spec hn ha hg hl (hO := hO')) ?_
  rintro _ _ w ⟨rfl, rfl⟩ hO
  simp only [List.cons_append, List.nil_append] at hO
  refine l_y rfl rfl (y_assign rfl) ?_
  refine K2 (K3 (K4 (K0 (K1 ?_))))
  refine l_y rfl rfl (y_move rfl) ?_
  refine Z1 (fun h2_1 => ?_) (fun h2_1 => ?_)
  · refine l_y rfl rfl (y_assign rfl) ?_
    refine K2 (K3 (L8 (K0 (K1 ?_))))
    refine l_y rfl rfl (y_move rfl) ?_
    refine l_y rfl rfl (y_assign rfl) ?_
    refine K2 (K3 (K6 (L0 (K9 ?_))))
    have er : putE A L i ⟨id, tk⟩ = (freshF A L id, L) := by rw [putE, if_pos h2_1]
    rw [er]
    exact fin1 rfl rfl ⟨_, ⟨rfl, rfl⟩, ((actL_shut (hO.ks [.b s, .p p])).ks [.o a, .o s]).two⟩
  · refine l_y rfl rfl (y_assign rfl) ?_
    refine K2 (K3 (L9 (K0 (K1 ?_))))
    refine l_y rfl rfl (y_move rfl) ?_
    refine Z0 (fun h4_1 => ?_) (fun h4_1 => ?_)
    · refine l_y rfl rfl (y_move rfl) ?_
      repeat refine M2 ?_
      refine l_y rfl rfl (y_pick_t rfl rfl) ?_
      refine l_y rfl rfl (y_assign rfl) ?_
      refine K2 (K3 (L8 (K0 (K1 ?_))))
      refine l_y rfl rfl (y_assign rfl) ?_
      refine K2 (K3 (K6 (L0 (K9 ?_))))
      have er : putE A L i ⟨id, tk⟩ = (1, L) := by rw [putE, if_neg (by simpa using h2_1), if_pos (by omega)]
      rw [er]
      exact fin1 rfl rfl ⟨_, ⟨rfl, rfl⟩, ((actL_shut (hO.ks [.b s, .p p])).ks [.o a, .o s]).two⟩
    · refine l_y rfl rfl (y_move rfl) ?_
      refine l_y rfl rfl (y_move rfl) ?_
      refine l_y rfl rfl (y_move rfl) ?_
      refine l_y rfl rfl (y_nilCheck rfl rfl) ?_
      refine l_y rfl rfl (y_fldb (o' := 1) rfl) ?_
      refine l_y rfl rfl (D5 hO rfl) ?_
      refine l_y rfl rfl (y_lenL rfl) ?_
      refine Z0 (fun h4_9 => ?_) (fun h4_9 => ?_)
      · refine l_y rfl rfl (y_pick_f rfl rfl) ?_
        refine l_y rfl rfl (y_assign rfl) ?_
        refine K2 (K3 (L8 (K0 (K1 ?_))))
        refine l_y rfl rfl (y_assign rfl) ?_
        refine K2 (K3 (K6 (L0 (K9 ?_))))
        have er : putE A L i ⟨id, tk⟩ = (1, L) := by rw [putE, if_neg (by simpa using h2_1), if_pos (by omega)]
        rw [er]
        exact fin1 rfl rfl ⟨_, ⟨rfl, rfl⟩, ((actL_shut (hO.ks [.b s, .p p])).ks [.o a, .o s]).two⟩
      · refine l_y rfl rfl (y_pick_f rfl rfl) ?_
        refine l_y rfl rfl (y_assign rfl) ?_
        refine K2 (K3 (L9 (K5 (K8 (K3 (K0 ?_))))))
        obtain ⟨j, rfl⟩ : ∃ j : Nat, i = j := ⟨i.toNat, by omega⟩
        have er : putE A L j ⟨id, tk⟩ = (0, L.take j ++ [⟨id, tk⟩] ++ L.drop j) := by rw [putE, if_neg (by simpa using h2_1), if_neg (by omega)]; rfl
        rw [er]
        refine K1 ?_
        refine l_y rfl rfl (y_move rfl) ?_
        refine l_y rfl rfl (y_move rfl) ?_
        refine l_y rfl rfl (y_nilCheck rfl rfl) ?_
        refine l_y rfl rfl (y_fldb (o' := 1) rfl) ?_
        refine l_y rfl rfl (D5 hO rfl) ?_
        refine s_build (parts := []) (cs := [.int .i64 0, .int .i64 0, .string ⟨#[]⟩, .string ⟨#[]⟩, .string ⟨#[]⟩, .int .i64 0, .bool false, .int .i32 0, .bool false, .slice none 0 0]) rfl rfl (fun a ha => partsOf_sound ha _ _ rfl) (by kernel_rfl) ?_
        refine s_lit (parts := [(0, .tmp 34)]) (enc := Api_entry.cells) [⟨0, ⟨0, ⟨#[]⟩, ⟨#[]⟩, ⟨#[]⟩, 0, false, 0, false, none, [], 0⟩⟩] [.agg [.int .i64 0, .int .i64 0, .string ⟨#[]⟩, .string ⟨#[]⟩, .string ⟨#[]⟩, .int .i64 0, .bool false, .int .i32 0, .bool false, .slice none 0 0].toArray] hO rfl (fun b35 w hO => ?_)
        refine s_app hO rfl rfl (src_own hO) (fun p36 c36 w hO gs36 => ?_)
        refine l_y rfl rfl (y_nilCheck rfl rfl) ?_
        refine l_y rfl rfl (y_fldb (o' := 1) rfl) ?_
        refine Y1 hO rfl rfl (fun w hO => ?_)
        simp only [List.set_cons_zero, List.set_cons_succ] at hO
        refine K2 (K3 (K0 ?_))
        obtain ⟨N, hN⟩ : ∃ N, N = L ++ [(⟨0, ⟨0, ⟨#[]⟩, ⟨#[]⟩, ⟨#[]⟩, 0, false, 0, false, none, [], 0⟩⟩ : Api_entry)] := ⟨_, rfl⟩
        have hNl : N.length = L.length + 1 := by rw [hN]; simp
        rw [← hN] at hO gs36
        have hNc := (sls_fct (p := p36) hO).1
        refine da_region (by intro c a d v w h; cases d <;> exact h) ?_
        have hO := hO.drew
        refine da_phase _ [13] (SO.ks [.b s] hO) ?_
        refine dx_u 0 (by kernel_rfl) rfl rfl rfl (fun w => y_move rfl) ?_
        refine dx_u 1 (by kernel_rfl) rfl rfl rfl (fun w => y_nilCheck rfl rfl) ?_
        refine dx_u 2 (by kernel_rfl) rfl rfl rfl (fun w => y_fldb (o' := 1) rfl) ?_
        refine dx_y 3 (by kernel_rfl) rfl rfl rfl (fun w ⟨m, hw⟩ => D5 hw rfl) ?_
        refine dx_u 4 (by kernel_rfl) rfl rfl rfl (fun w => y_move rfl) ?_
        refine dx_u 5 (by kernel_rfl) rfl rfl rfl (fun w => D4) ?_
        refine dx_y 6 (by kernel_rfl) rfl rfl rfl (fun w ⟨m, hw⟩ => y_tl (j + 1) rfl rfl) ?_
        refine dx_u 7 (by kernel_rfl) rfl rfl rfl (fun w => y_move rfl) ?_
        refine dx_u 8 (by kernel_rfl) rfl rfl rfl (fun w => y_nilCheck rfl rfl) ?_
        refine dx_u 9 (by kernel_rfl) rfl rfl rfl (fun w => y_fldb (o' := 1) rfl) ?_
        refine dx_y 10 (by kernel_rfl) rfl rfl rfl (fun w ⟨m, hw⟩ => D5 hw rfl) ?_
        refine dx_u 11 (by kernel_rfl) rfl rfl rfl (fun w => y_move rfl) ?_
        refine dx_y 12 (by kernel_rfl) rfl rfl rfl (fun w ⟨m, hw⟩ => y_tl j rfl rfl) ?_
        refine dx_close 13 (by kernel_rfl) rfl rfl ?_
        refine s_cpUp (p := p36) hO rfl rfl (by omega) (fun w hO => ?_)
        obtain ⟨N2, hN2⟩ : ∃ N2, N2 = N.take (j + 1) ++ (N.drop j).take (N.length - (j + 1)) := ⟨_, rfl⟩
        have hN2l : N2.length = N.length := by rw [hN2]; simp; omega
        rw [← hN2] at hO
        rw [← hN2l] at hO
        have hgN : Gs p36 N2.length := (sls_fct (p := p36) hO).2
        refine o_done ?_
        refine da_end (by kernel_rfl) ?_
        refine K3 (K0 ?_)
        refine da_region (by intro c a d v w h; cases d <;> exact h) ?_
        have hO := hO.drew
        refine da_phase _ [9] (SO.ks [.b s, .b b7] hO) ?_
        refine dx_u 0 (by kernel_rfl) rfl rfl rfl (fun w => y_move rfl) ?_
        refine dx_u 1 (by kernel_rfl) rfl rfl rfl (fun w => y_nilCheck rfl rfl) ?_
        refine dx_u 2 (by kernel_rfl) rfl rfl rfl (fun w => y_fldb (o' := 1) rfl) ?_
        refine dx_y 3 (by kernel_rfl) rfl rfl rfl (fun w ⟨m, hw⟩ => D5 hw rfl) ?_
        refine dx_u 4 (by kernel_rfl) rfl rfl rfl (fun w => y_move rfl) ?_
        refine dx_u 5 (by kernel_rfl) rfl rfl rfl (fun w => y_move rfl) ?_
        refine dx_y 6 (by kernel_rfl) rfl rfl rfl (fun w ⟨m, hw⟩ => D8 (cs := [.int .i64 tk.Kind, .string tk.Name, .string tk.Data, .string tk.System, .int .i64 tk.Has, .bool tk.Quirks, .int .i32 tk.Char, .bool tk.Self, .slice tk.AttrsP tk.Attrs.length tk.AttrsC]) hw rfl) ?_
        refine dx_only 7 (by kernel_rfl) rfl rfl ?_
        refine s_build (parts := [(0, .tmp 58), (1, .tmp 59)]) (cs := [.int .i64 id, .int .i64 tk.Kind, .string tk.Name, .string tk.Data, .string tk.System, .int .i64 tk.Has, .bool tk.Quirks, .int .i32 tk.Char, .bool tk.Self, .slice tk.AttrsP tk.Attrs.length tk.AttrsC]) rfl rfl (fun a ha => partsOf_sound ha _ _ rfl) (by kernel_rfl) ?_
        refine o_done ?_
        refine ⟨SO.ks [.b s, .b b7] hO, ?_⟩
        refine dx_u 8 (by kernel_rfl) rfl rfl rfl (fun w => y_idx rfl rfl) ?_
        refine dx_close 9 (by kernel_rfl) rfl rfl ?_
        refine s_eA (⟨id, tk⟩ : Api_entry) hO rfl rfl (fun w hO => ?_)
        have hO : Own k w (aI p36 c36 (N2.set j ⟨id, tk⟩) :: _) := hO.ks [.p p36]
        have e7 : N2.set j ⟨id, tk⟩ = L.take j ++ [⟨id, tk⟩] ++ L.drop j := by rw [hN2, hN]; exact put_up (by omega)
        rw [e7] at hO
        refine o_done ?_
        refine da_end (by kernel_rfl) ?_
        refine K3 (K0 (K1 ?_))
        refine l_y rfl rfl (y_assign rfl) ?_
        refine K2 (K3 (K6 ?_))
        have hlf : N2.length = (L.take j ++ [(⟨id, tk⟩ : Api_entry)] ++ L.drop j).length := by rw [hN2l, hNl]; simp; omega
        rw [hlf] at hO
        exact fin1 rfl rfl ⟨_, ⟨rfl, rfl⟩, ((actL_shut (hO.ks [.b s, .p p36]) rfl).ks [.o a, .o s]).two⟩
def swapE (A : List Node_one) (L : List Api_entry) (old id : Int) : Int × List Api_entry := if elB A id = false ∨ findE L old < 0 then (6, L) else if freshF A L id = 0 then (0, L.set (findE L old).toNat { at_ L (findE L old).toNat with Node := id }) else (1, L)
theorem freshF_cases (A : List Node_one) (L : List Api_entry) (id : Int) : (freshF A L id = 6 ∧ elB A id = false) ∨ (freshF A L id = 1 ∧ elB A id = true ∧ 0 ≤ findE L id) ∨ (freshF A L id = 0 ∧ elB A id = true ∧ findE L id < 0) := by
  unfold freshF
  cases h : elB A id with
  | false => exact .inl ⟨rfl, rfl⟩
  | true =>
    right
    by_cases h2 : 0 ≤ findE L id
    · exact .inl ⟨by rw [if_neg (by simp), if_pos h2], rfl, h2⟩
    · exact .inr ⟨by rw [if_neg (by simp), if_neg h2], rfl, by omega⟩
theorem aSwap_spec {old id : Int} (hn : 0 < A.length) (ha : AttrsOk A) (hl : L.length ≤ 2000000) (hO : Own k w [arenaL a A, actL s a L]) :
    Tri Tryz.prog 123 #[.pointer (some ⟨s, 0, none⟩), .int .i64 old, .int .i64 id] k w fun v m => v = .int .i64 (swapE A L old id).1 ∧ m = [arenaL a A, actL s a (swapE A L old id).2] := by
  refine enter (args := [.pointer (some ⟨s, 0, none⟩), .int .i64 old, .int .i64 id]) Tryz.func123 rfl rfl ?_
  obtain ⟨p, c, hg, hlc, hO⟩ := actL_open (hO.ks [.o s])
  have hf := freshF_cases A L id
  refine K0 (K1 ?_)
  refine l_y rfl rfl (y_assign rfl) ?_
  refine K2 (K3 (K0 (K1 ?_)))
  refine l_y rfl rfl (y_move rfl) ?_
  refine l_y rfl rfl (y_move rfl) ?_
  refine CK [.o a, .b s, .p p] hO rfl (fun k' hx hr hO' => afresh_spec hn ha hg hl (hO := hO')) ?_
  rintro _ _ w ⟨rfl, rfl⟩ hO
  simp only [List.cons_append, List.nil_append] at hO
  refine l_y rfl rfl (y_assign rfl) ?_
  refine K2 (K3 (K0 (K1 ?_)))
  refine l_y rfl rfl (y_move rfl) ?_
  refine l_y rfl rfl (y_move rfl) ?_
  refine CK [.b s, .p p] hO rfl (fun k' hx hr hO' => aFindB_spec hg hl (hO := hO')) ?_
  rintro _ _ w ⟨rfl, rfl⟩ hO
  simp only [List.cons_append, List.nil_append] at hO
  refine l_y rfl rfl (y_assign rfl) ?_
  refine K2 (K3 (K0 (K4 (K0 (K1 ?_)))))
  refine l_y rfl rfl (y_move rfl) ?_
  refine N3 ?_
  refine l_y rfl rfl (y_move rfl) ?_
  refine l_y rfl rfl (y_move rfl) ?_
  refine Z0 (fun h3_4 => ?_) (fun h3_4 => ?_)
  · refine l_y rfl rfl (y_pick_f rfl rfl) ?_
    refine l_y rfl rfl (y_assign rfl) ?_
    refine K2 (K3 (L8 (K0 (K1 ?_))))
    refine l_y rfl rfl (y_move rfl) ?_
    refine l_y rfl rfl (y_assign rfl) ?_
    refine K2 (K3 (K6 (L0 (K9 ?_))))
    have hel : elB A id = false := by rcases hf with ⟨_, h⟩ | ⟨h, _, _⟩ | ⟨h, _, _⟩ <;> first | exact h | omega
    have er : swapE A L old id = (6, L) := by rw [swapE, if_pos (.inl hel)]
    rw [er]
    exact fin1 rfl rfl ⟨_, ⟨by simp [*], rfl⟩, ((actL_shut (hO.ks [.b s, .p p])).ks [.o a, .o s]).two⟩
  · refine l_y rfl rfl (y_pick_f rfl rfl) ?_
    refine l_y rfl rfl (y_assign rfl) ?_
    refine K2 (K3 (L9 (K0 (K1 ?_))))
    refine l_y rfl rfl (y_move rfl) ?_
    refine Z0 (fun h5_1 => ?_) (fun h5_1 => ?_)
    · refine l_y rfl rfl (y_assign rfl) ?_
      refine K2 (K3 (L8 (K0 (K1 ?_))))
      refine l_y rfl rfl (y_assign rfl) ?_
      refine K2 (K3 (K6 (L0 (K9 ?_))))
      have er : swapE A L old id = (6, L) := by rw [swapE, if_pos (.inr h5_1)]
      rw [er]
      exact fin1 rfl rfl ⟨_, ⟨rfl, rfl⟩, ((actL_shut (hO.ks [.b s, .p p])).ks [.o a, .o s]).two⟩
    · refine l_y rfl rfl (y_assign rfl) ?_
      refine K2 (K3 (L9 (K0 (K1 ?_))))
      refine l_y rfl rfl (y_move rfl) ?_
      refine Z0 (fun h7_1 => ?_) (fun h7_1 => ?_)
      · refine l_y rfl rfl (y_assign rfl) ?_
        refine K2 (K3 (L8 ?_))
        obtain ⟨i, hi, hfl⟩ : ∃ i : Nat, findE L old = i ∧ i < L.length := by
          rcases findE_cases L old with h | ⟨i, h1, h2, _⟩
          · omega
          · exact ⟨i, h1, h2⟩
        have hel : elB A id = true := by rcases hf with ⟨h, _⟩ | ⟨h, _, _⟩ | ⟨_, h, _⟩ <;> first | exact h | omega
        have er : swapE A L old id = (0, L.set i { at_ L i with Node := id }) := by rw [swapE, if_neg (by simp [hel]; omega), if_pos h7_1, hi]; rfl
        rw [er]
        refine K1 ?_
        refine l_y rfl rfl (y_move rfl) ?_
        refine l_y rfl rfl (y_nilCheck rfl rfl) ?_
        refine l_y rfl rfl (y_fldb (o' := 1) rfl) ?_
        refine l_y rfl rfl (D5 hO rfl) ?_
        refine l_y (v := .int .i64 (i : Int)) rfl rfl (by rw [← hi]; exact y_move rfl) ?_
        refine l_y rfl rfl (y_move rfl) ?_
        refine l_y rfl rfl (y_idx rfl rfl) ?_
        refine l_y rfl rfl (y_fld (j' := 0) rfl) ?_
        refine s_e1 (x0 := 0) hO rfl rfl (fun w hO => ?_)
        refine K2 (K8 (K3 (K0 (K1 ?_))))
        refine l_y rfl rfl (y_move rfl) ?_
        refine l_y rfl rfl (y_assign rfl) ?_
        refine K2 (K3 (K6 ?_))
        have hls : L.length = (L.set i { at_ L i with Node := id }).length := by simp
        rw [hls] at hO
        exact fin1 rfl rfl ⟨_, ⟨by rw [h7_1], rfl⟩, ((actL_shut (hO.ks [.b s, .p p]) rfl).ks [.o a, .o s]).two⟩
      · refine l_y rfl rfl (y_assign rfl) ?_
        refine K2 (K3 (L9 (K5 (K8 (K3 (K0 (K1 ?_)))))))
        refine l_y rfl rfl (y_move rfl) ?_
        refine l_y rfl rfl (y_assign rfl) ?_
        refine K2 (K3 (K6 ?_))
        have hel : elB A id = true ∧ freshF A L id = 1 := by rcases hf with ⟨h, _⟩ | ⟨h, h2, _⟩ | ⟨h, _, _⟩ <;> first | exact ⟨h2, h⟩ | omega
        have er : swapE A L old id = (1, L) := by rw [swapE, if_neg (by simp [hel.1]; omega), if_neg h7_1]
        rw [er]
        exact fin1 rfl rfl ⟨_, ⟨by rw [hel.2], rfl⟩, ((actL_shut (hO.ks [.b s, .p p])).ks [.o a, .o s]).two⟩
end
end Go.Proofs.YtoohapbaelmkcaaGreat
end
section
set_option linter.unusedVariables false
set_option linter.unusedSimpArgs false
set_option maxRecDepth 100000
namespace Go.Proofs.YtoohapbaelmkcaaGreat
open Go Go.Hb Go.RowKit
theorem findE_none {L : List Api_entry} {x : Int} (h : ∀ y ∈ L, y.Node ≠ x) : findE L x = -1 := by
  rw [findE]; split
  · rfl
  · exact idx_none fun j hj => decide_eq_false (h _ (at_mem hj))
section
variable {k : Ctx} {w : World}
end
end Go.Proofs.YtoohapbaelmkcaaGreat
end
section
set_option linter.unusedVariables false
set_option linter.unusedSimpArgs false
set_option maxRecDepth 100000
namespace Go.Proofs.YtoohapbaelmkcaaGreat
open Go Go.Hb Go.RowKit
abbrev zB (z r : Nat) (q : Option Addr) (n d : Nat) : HP := blk z 100 [.pointer (some ⟨r, 0, none⟩), .slice q n d]
def ralL (z r : Nat) (l : List Api_entry) : HP := fun h => ∃ x : Option Addr × Nat, sep [zB z r x.1 l.length x.2, aI x.1 x.2 l] h
theorem ralL_open {k : Ctx} {w : World} {M : List HP} {z r : Nat} {L : List Api_entry} (hO : Own k w (ralL z r L :: M)) : ∃ q d, Gs q L.length ∧ L.length ≤ d ∧ Own k w (zB z r q L.length d :: aI q d L :: M) := by
  obtain ⟨⟨q, d⟩, hO⟩ := Own.ex (A := fun (x : Option Addr × Nat) => sep [zB z r x.1 L.length x.2, aI x.1 x.2 L]) hO
  have hO := Own.open hO
  simp only [List.cons_append, List.nil_append] at hO
  exact ⟨q, d, (sls_fct (p := q) hO).2, (sls_fct (p := q) hO).1, hO⟩
theorem ralL_shut {k : Ctx} {w : World} {M : List HP} {z r n : Nat} {L : List Api_entry} {q : Option Addr} {d : Nat} (hO : Own k w (zB z r q n d :: aI q d L :: M)) (hn : n = L.length := by first | rfl | simp) : Own k w (ralL z r L :: M) := by
  subst hn
  exact (Own.shut (l := [zB z r q L.length d, aI q d L]) hO).tell fun h hA => ⟨(q, d), hA⟩
instance (priority := high) AtK.hral (z r : Nat) (l : List Api_entry) (M : List HP) : AtK (ralL z r l :: M) (.o z) (ralL z r l) M := ⟨.hd _ M⟩
/-- but for markers no two entries are of one node -/
def DistN (L : List Api_entry) : Prop := ∀ i j, i < j → j < L.length → (at_ L i).Node = (at_ L j).Node → (at_ L j).Node = -1
section
variable {k : Ctx} {w : World} {z r d : Nat} {q : Option Addr} {L : List Api_entry}
theorem zNew_spec {p : Option Addr} (hO : Own k w []) :
    Tri Tryz.prog 27 #[.pointer (some ⟨r, 0, none⟩)] k w fun v m => ∃ z, v = .pointer (some ⟨z, 0, none⟩) ∧ m = [ralL z r []] := by
  refine enter (args := [.pointer (some ⟨r, 0, none⟩)]) Tryz.func27 rfl rfl ?_
  refine K0 (K1 ?_)
  refine l_y rfl rfl (y_assign rfl) ?_
  refine K2 (K3 (K0 (K1 ?_)))
  refine l_y rfl rfl (y_move rfl) ?_
  refine s_build (parts := [(0, .tmp 3)]) (cs := [.pointer (some ⟨r, 0, none⟩), .slice none 0 0]) rfl rfl (fun a ha => partsOf_sound ha _ _ rfl) (by kernel_rfl) ?_
  refine s_box (vs := [.pointer (some ⟨r, 0, none⟩), .slice none 0 0]) hO rfl rfl rfl (by rfl) fun b5 w hO => ?_
  refine l_y rfl rfl (y_assign rfl) ?_
  refine K2 (K3 (K6 ?_))
  have hO : Own k w (aI none 0 [] :: _) := sl_nil 55 10 hO
  exact fin1 rfl rfl ⟨_, ⟨_, rfl, rfl⟩, (ralL_shut (L := []) (hO.ks [.b b5, .p none]) rfl).one⟩
theorem zFindB_spec {x : Int} (hD : DistN L) (hg : Gs q L.length) (hl : L.length ≤ 2000000) (hO : Own k w [zB z r q L.length d, aI q d L]) :
    Tri Tryz.prog 41 #[.pointer (some ⟨z, 0, none⟩), .int .i64 x] k w fun v m => v = .int .i64 (findE L x) ∧ m = [zB z r q L.length d, aI q d L] := by
  refine enter (args := [.pointer (some ⟨z, 0, none⟩), .int .i64 x]) Tryz.func41 rfl rfl ?_
  refine K0 (K1 ?_)
  refine l_y rfl rfl (y_assign rfl) ?_
  refine K2 (K3 (K0 (K0 (K1 ?_))))
  refine l_y rfl rfl (y_move rfl) ?_
  refine l_y rfl rfl (y_nilCheck rfl rfl) ?_
  refine l_y rfl rfl (y_fldb (o' := 1) rfl) ?_
  refine l_y rfl rfl (D5 hO rfl) ?_
  refine l_y rfl rfl (y_lenL rfl) ?_
  refine l_y rfl rfl (D4) ?_
  refine l_y rfl rfl (y_assign rfl) ?_
  refine K2 (K3 (K4 ?_))
  refine c_rounds (X := Nat) (fun i => [(0, .pointer (some ⟨z, 0, none⟩)), (1, .int .i64 x), (4, .int .i64 0), (5, .int .i64 ((i : Int) - 1))]) (fun i w => Own k w [zB z r q L.length d, aI q d L] ∧ (i ≤ L.length) ∧ (∀ j, i ≤ j → j < L.length → (at_ L j).Node ≠ x)) (fun i => i) (L.length) ⟨rfl, rfl, rfl, rfl, trivial⟩ ⟨hO.only [.b z, .p q], Nat.le_refl _, fun j h1 h2 => absurd h2 (by omega)⟩ ?_
  rintro i w m hm ⟨hO, hi, hn⟩
  refine K0 (K0 (K1 ?_))
  refine l_y rfl rfl (y_move rfl) ?_
  refine Z0 (fun h2_1 => ?_) (fun h2_1 => ?_)
  · refine l_y rfl rfl (y_move rfl) ?_
    refine l_y rfl rfl (y_move rfl) ?_
    refine Z1 (fun h2_4 => ?_) (fun h2_4 => ?_)
    · refine l_y rfl rfl (y_pick_t rfl rfl) ?_
      refine K2 (K3 (L8 (K5 (K3 (K0 (K4 (K0 ?_)))))))
      obtain ⟨y, hy⟩ : ∃ y, i = y + 1 := ⟨i - 1, by omega⟩
      have ey : (i : Int) - 1 = (y : Int) := by omega
      rw [ey]
      refine K1 ?_
      refine l_y rfl rfl (y_move rfl) ?_
      refine l_y rfl rfl (y_nilCheck rfl rfl) ?_
      refine l_y rfl rfl (y_fldb (o' := 1) rfl) ?_
      refine l_y rfl rfl (D5 hO rfl) ?_
      refine l_y rfl rfl (y_move rfl) ?_
      refine l_y rfl rfl (y_idx rfl rfl) ?_
      refine l_y rfl rfl (y_fld (j' := 0) rfl) ?_
      refine l_y rfl rfl (y_e1 (x0 := 0) hO rfl) ?_
      refine l_y rfl rfl (y_move rfl) ?_
      refine Z0 (fun h4_9 => ?_) (fun h4_9 => ?_)
      · refine K2 (K3 (L8 (K0 (K1 ?_))))
        refine l_y rfl rfl (y_move rfl) ?_
        refine l_y rfl rfl (y_assign rfl) ?_
        refine K2 (K3 (K6 (L0 (K9 (K9 (L0 (K9 ?_)))))))
        rw [show findE L x = y by rw [findE, if_neg h2_4]; exact idx_at (p := fun e : Api_entry => decide (e.Node = x)) (i := y) (by omega) (decide_eq_true h4_9) (fun j hj => decide_eq_false (fun h => h2_4 (by have := hD j y hj (by omega) (h.trans h4_9.symm); rw [← this]; exact h4_9.symm)))]
        exact fin1 rfl rfl ⟨_, ⟨rfl, rfl⟩, hO.only [.b z, .p q]⟩
      · refine K2 (K3 (L9 (K5 (K8 (K3 (K1 ?_))))))
        refine l_y rfl rfl (y_move rfl) ?_
        refine l_y rfl rfl (D4) ?_
        refine l_y rfl rfl (y_assign rfl) ?_
        refine K2 ?_
        exact q_next (y) ⟨rfl, rfl, rfl, rfl, trivial⟩ ⟨hO.only [.b z, .p q], by omega, fun j h1 h2 => (by by_cases e : j = y; (subst e; exact h4_9); exact hn j (by omega) h2)⟩ (by omega)
    · refine l_y rfl rfl (y_pick_t rfl rfl) ?_
      refine K2 (K3 (L9 (K7 (L1 (L1 (L2 (K3 (K0 (K1 ?_)))))))))
      refine l_y rfl rfl (y_assign rfl) ?_
      refine K2 (K3 (K6 ?_))
      have e : findE L x = -1 := by
        first
          | exact findE_none (fun e he => by obtain ⟨j, hj, rfl⟩ := mem_at he; exact hn j (by omega) hj)
          | (rw [findE, if_pos]; first | assumption | (simpa using h2_4))
      rw [e]
      exact fin1 rfl rfl ⟨_, ⟨rfl, rfl⟩, hO.only [.b z, .p q]⟩
  · refine l_y rfl rfl (y_move rfl) ?_
    repeat refine M2 ?_
    refine l_y rfl rfl (y_pick_f rfl rfl) ?_
    refine K2 (K3 (L9 (K7 (L1 (L1 (L2 (K3 (K0 (K1 ?_)))))))))
    refine l_y rfl rfl (y_assign rfl) ?_
    refine K2 (K3 (K6 ?_))
    have e : findE L x = -1 := by
      first
        | exact findE_none (fun e he => by obtain ⟨j, hj, rfl⟩ := mem_at he; exact hn j (by omega) hj)
        | (rw [findE, if_pos]; first | assumption | (simpa using h2_4))
    rw [e]
    exact fin1 rfl rfl ⟨_, ⟨rfl, rfl⟩, hO.only [.b z, .p q]⟩
theorem zMark_spec (hl : L.length ≤ 2000000) (hO : Own k w [ralL z r L]) :
    Tri Tryz.prog 32 #[.pointer (some ⟨z, 0, none⟩)] k w fun v m => v = .tuple #[] ∧ m = [ralL z r (L ++ [markE])] := by
  refine enter (args := [.pointer (some ⟨z, 0, none⟩)]) Tryz.func32 rfl rfl ?_
  obtain ⟨q, d, hg, hlc, hO⟩ := ralL_open hO
  refine K1 ?_
  refine l_y rfl rfl (y_move rfl) ?_
  refine l_y rfl rfl (y_move rfl) ?_
  refine l_y rfl rfl (y_nilCheck rfl rfl) ?_
  refine l_y rfl rfl (y_fldb (o' := 1) rfl) ?_
  refine l_y rfl rfl (D5 hO rfl) ?_
  refine s_build (parts := [(0, .const (.int .i64 (-1)))]) (cs := [.int .i64 (-1), .int .i64 0, .string ⟨#[]⟩, .string ⟨#[]⟩, .string ⟨#[]⟩, .int .i64 0, .bool false, .int .i32 0, .bool false, .slice none 0 0]) rfl rfl (fun a ha => partsOf_sound ha _ _ rfl) (by kernel_rfl) ?_
  refine s_lit (parts := [(0, .tmp 7)]) (enc := Api_entry.cells) [⟨(-1), ⟨0, ⟨#[]⟩, ⟨#[]⟩, ⟨#[]⟩, 0, false, 0, false, none, [], 0⟩⟩] [.agg [.int .i64 (-1), .int .i64 0, .string ⟨#[]⟩, .string ⟨#[]⟩, .string ⟨#[]⟩, .int .i64 0, .bool false, .int .i32 0, .bool false, .slice none 0 0].toArray] hO rfl (fun b8 w hO => ?_)
  refine s_app hO rfl rfl (src_own hO) (fun p9 c9 w hO gs9 => ?_)
  refine l_y rfl rfl (y_nilCheck rfl rfl) ?_
  refine l_y rfl rfl (y_fldb (o' := 1) rfl) ?_
  refine Y1 hO rfl rfl (fun w hO => ?_)
  simp only [List.set_cons_zero, List.set_cons_succ] at hO
  refine K2 ?_
  exact fin0 rfl ⟨_, ⟨rfl, rfl⟩, (ralL_shut (hO.ks [.b z, .p p9]) rfl).one⟩
end
end Go.Proofs.YtoohapbaelmkcaaGreat
end
section
set_option linter.unusedVariables false
set_option linter.unusedSimpArgs false
set_option maxRecDepth 100000
namespace Go.Proofs.YtoohapbaelmkcaaGreat
open Go Go.Hb Go.RowKit
section
variable {k : Ctx} {w : World} {z r d : Nat} {q : Option Addr} {L : List Api_entry}
theorem ahas_spec {xs : List Api_attr} {y : Api_attr} {px : Option Addr} {cx : Nat} (hx1 : Sli (Ro k) (.slice px xs.length cx) (xs.map Api_attr.cells)) (hxl : xs.length ≤ 9223372036854775807) (hO : Own k w []) :
    Tri Tryz.prog 117 #[.slice px xs.length cx, .agg (Api_attr.cells y).toArray] k w fun v m => ∃ n : Nat, v = .int .i64 (n : Int) ∧ (n = 0 ↔ (xs.any fun x => decide (y = x)) = false) ∧ m = [] := by
  refine enter (args := [.slice px xs.length cx, .agg (Api_attr.cells y).toArray]) Tryz.func117 rfl rfl ?_
  have hgx := sli_gs hx1
  refine K0 (K1 ?_)
  refine s_box (vs := [.int .i64 y.Space, .string y.Prefix, .string y.Name, .string y.Value]) hO rfl rfl rfl (by rfl) fun b3 w hO => ?_
  refine l_y rfl rfl (y_assign rfl) ?_
  refine K2 (K3 (K0 (K1 ?_)))
  refine l_y rfl rfl (y_assign rfl) ?_
  refine K2 (K3 (K0 (K0 (K1 ?_))))
  refine l_y rfl rfl (y_assign rfl) ?_
  refine K2 (K3 (K4 ?_))
  refine c_rounds (X := Nat × Nat) (fun x => [(0, .slice px xs.length cx), (3, .pointer (some ⟨b3, 0, none⟩)), (4, .int .i64 0), (5, .int .i64 (x.2 : Int)), (6, .int .i64 (x.1 : Int))]) (fun x w => Own k w [blk b3 115 (Api_attr.cells y)] ∧ (x.1 ≤ xs.length) ∧ (x.2 ≤ x.1 ∧ (x.2 = 0 ↔ ((xs.take x.1).any fun x => decide (y = x)) = false))) (fun x => xs.length - x.1) ((0, 0)) ⟨rfl, rfl, rfl, rfl, rfl, trivial⟩ ⟨hO.only [.b b3], Nat.zero_le _, ⟨Nat.le_refl _, by simp⟩⟩ ?_
  rintro x w m hm ⟨hO, hi, hc⟩
  refine K0 (K0 (K1 ?_))
  refine l_y rfl rfl (y_move rfl) ?_
  refine l_y rfl rfl (y_move rfl) ?_
  refine l_y rfl rfl (y_lenL rfl) ?_
  refine Z0 (fun h3_3 => ?_) (fun h3_3 => ?_)
  · refine K2 (K3 (L8 (K5 (K3 (K0 (K4 (K0 ?_)))))))
    refine da_region (by intro c a d v w h; cases d <;> exact h) ?_
    have hO := hO.drew
    refine da_phase _ [] (SO.ks [.b b3] hO) ?_
    refine dx_u 0 (by kernel_rfl) rfl rfl rfl (fun w => y_move rfl) ?_
    refine dx_u 1 (by kernel_rfl) rfl rfl rfl (fun w => y_move rfl) ?_
    refine dx_u 2 (by kernel_rfl) rfl rfl rfl (fun w => y_idx rfl rfl) ?_
    refine dx_y 3 (by kernel_rfl) rfl rfl rfl (fun w ⟨m, hw⟩ => y_rA (x0 := 0) (enc := Api_attr.cells) (xs := xs) (cs := [.int .i64 (at_ xs ((x.1 : Int) : Int).toNat).Space, .string (at_ xs ((x.1 : Int) : Int).toNat).Prefix, .string (at_ xs ((x.1 : Int) : Int).toNat).Name, .string (at_ xs ((x.1 : Int) : Int).toNat).Value]) hw rfl) ?_
    refine dx_y 4 (by kernel_rfl) rfl rfl rfl (fun w ⟨m, hw⟩ => D8 (cs := [.int .i64 y.Space, .string y.Prefix, .string y.Name, .string y.Value]) hw rfl) ?_
    refine dx_y 5 (by kernel_rfl) rfl rfl rfl (fun w ⟨m, hw⟩ => y_eqA (enc := Api_attr.cells) (a := at_ xs x.1) (b := y) (c := decide (y = at_ xs x.1)) rfl rfl (decide_eq_decide.2 eq_comm)) ?_
    refine dx_end (by kernel_rfl) ?_
    refine K3 ?_
    refine c_split rfl (fun hc18 => ?_) (fun hc18 => ?_)
    · refine K1 ?_
      refine l_y rfl rfl (y_move rfl) ?_
      refine l_y rfl rfl (D4) ?_
      refine l_y rfl rfl (y_assign rfl) ?_
      refine K2 (K8 (K3 (K1 ?_)))
      refine l_y rfl rfl (y_move rfl) ?_
      refine l_y rfl rfl (D4) ?_
      refine l_y rfl rfl (y_assign rfl) ?_
      refine K2 ?_
      have hcn : ∀ b : Bool, decide (y = at_ xs x.1) = b → ((xs.take (x.1 + 1)).any fun x => decide (y = x)) = (((xs.take x.1).any fun x => decide (y = x)) || b) := fun b hb => by rw [any_snoc (by omega), hb]
      first
        | exact q_next (x.1 + 1, x.2 + 1) ⟨rfl, rfl, rfl, rfl, rfl, trivial⟩ ⟨hO.only [.b b3], by dsimp only; omega, ⟨by dsimp only; omega, by dsimp only; rw [hcn true hc18]; simp⟩⟩ (by dsimp only; omega)
        | exact q_next (x.1 + 1, x.2) ⟨rfl, rfl, rfl, rfl, rfl, trivial⟩ ⟨hO.only [.b b3], by dsimp only; omega, ⟨by dsimp only; omega, by dsimp only; rw [hcn false hc18, Bool.or_false]; exact hc.2⟩⟩ (by dsimp only; omega)
    · refine K5 (K8 (K3 (K1 ?_)))
      refine l_y rfl rfl (y_move rfl) ?_
      refine l_y rfl rfl (D4) ?_
      refine l_y rfl rfl (y_assign rfl) ?_
      refine K2 ?_
      have hcn : ∀ b : Bool, decide (y = at_ xs x.1) = b → ((xs.take (x.1 + 1)).any fun x => decide (y = x)) = (((xs.take x.1).any fun x => decide (y = x)) || b) := fun b hb => by rw [any_snoc (by omega), hb]
      first
        | exact q_next (x.1 + 1, x.2 + 1) ⟨rfl, rfl, rfl, rfl, rfl, trivial⟩ ⟨hO.only [.b b3], by dsimp only; omega, ⟨by dsimp only; omega, by dsimp only; rw [hcn true hc18]; simp⟩⟩ (by dsimp only; omega)
        | exact q_next (x.1 + 1, x.2) ⟨rfl, rfl, rfl, rfl, rfl, trivial⟩ ⟨hO.only [.b b3], by dsimp only; omega, ⟨by dsimp only; omega, by dsimp only; rw [hcn false hc18, Bool.or_false]; exact hc.2⟩⟩ (by dsimp only; omega)
  · refine K2 (K3 (L9 (K7 (L1 (L1 (L2 (K3 (K0 (K1 ?_)))))))))
    refine l_y rfl rfl (y_move rfl) ?_
    refine l_y rfl rfl (y_assign rfl) ?_
    refine K2 (K3 (K6 ?_))
    exact fin1 rfl rfl ⟨_, ⟨x.2, rfl, by rw [hc.2, List.take_of_length_le (by omega)], rfl⟩, hO.only []⟩
theorem sets_spec {xs ys : List Api_attr} {px py : Option Addr} {cx cy : Nat} (hx1 : Sli (Ro k) (.slice px xs.length cx) (xs.map Api_attr.cells)) (hy1 : Sli (Ro k) (.slice py ys.length cy) (ys.map Api_attr.cells)) (hxl : xs.length ≤ 9223372036854775807) (hyl : ys.length ≤ 9223372036854775807) (hO : Own k w []) :
    Tri Tryz.prog 96 #[.slice px xs.length cx, .slice py ys.length cy] k w fun v m => v = .bool (withinB xs ys && withinB ys xs) ∧ m = [] := by
  refine enter (args := [.slice px xs.length cx, .slice py ys.length cy]) Tryz.func96 rfl rfl ?_
  have hgx := sli_gs hx1
  have hgy := sli_gs hy1
  have wf : ∀ {us vs : List Api_attr} {i : Nat}, i < us.length → (vs.any fun y => decide (at_ us i = y)) = false → withinB us vs = false := fun hi h => List.all_eq_false.2 ⟨_, at_mem hi, by rw [h]; simp⟩
  have ws : ∀ {us vs : List Api_attr} {i : Nat}, i < us.length → withinB (us.take i) vs = true → ¬ (vs.any fun y => decide (at_ us i = y)) = false → withinB (us.take (i + 1)) vs = true := fun hi h1 h2 => by
    rw [take_succ_at hi]
    simp only [withinB, List.all_append, List.all_cons, List.all_nil, Bool.and_true, Bool.and_eq_true]
    exact ⟨h1, by simpa using h2⟩
  refine K0 (K1 ?_)
  refine l_y rfl rfl (y_assign rfl) ?_
  refine K2 (K3 (K0 (K0 (K1 ?_))))
  refine l_y rfl rfl (y_assign rfl) ?_
  refine K2 (K3 (K4 ?_))
  refine c_rounds (X := Nat) (fun i => [(0, .slice px xs.length cx), (1, .slice py ys.length cy), (4, .bool false), (5, .int .i64 (i : Int))]) (fun i w => Own k w [] ∧ (i ≤ xs.length) ∧ (withinB (xs.take i) ys = true)) (fun i => xs.length - i) (0) ⟨rfl, rfl, rfl, rfl, trivial⟩ ⟨hO.only [], Nat.zero_le _, rfl⟩ ?_
  rintro i w m hm ⟨hO, hi, hn⟩
  refine K0 (K0 (K1 ?_))
  refine l_y rfl rfl (y_move rfl) ?_
  refine l_y rfl rfl (y_move rfl) ?_
  refine l_y rfl rfl (y_lenL rfl) ?_
  refine Z0 (fun h2_3 => ?_) (fun h2_3 => ?_)
  · refine K2 (K3 (L8 (K5 (K3 (K0 (K4 (K0 (K1 ?_))))))))
    refine l_y rfl rfl (y_move rfl) ?_
    refine l_y rfl rfl (y_move rfl) ?_
    refine l_y rfl rfl (y_move rfl) ?_
    refine l_y rfl rfl (y_idx rfl rfl) ?_
    refine l_y rfl rfl (y_rA (x0 := 0) (enc := Api_attr.cells) (xs := xs) (cs := [.int .i64 (at_ xs ((i : Int) : Int).toNat).Space, .string (at_ xs ((i : Int) : Int).toNat).Prefix, .string (at_ xs ((i : Int) : Int).toNat).Name, .string (at_ xs ((i : Int) : Int).toNat).Value]) hO rfl) ?_
    refine CK [] hO rfl (fun k' hx hr hO' => ahas_spec (y := at_ xs i) (hy1.ext hO hx) hyl (hO := hO')) ?_
    rintro _ _ w ⟨n8, rfl, n9, rfl⟩ hO
    simp only [List.cons_append, List.nil_append] at hO
    refine Z0 (fun h4_6 => ?_) (fun h4_6 => ?_)
    · refine K2 (K3 (L8 (K0 (K1 ?_))))
      refine l_y rfl rfl (y_assign rfl) ?_
      refine K2 (K3 (K6 (L0 (K9 (K9 (L0 (K9 ?_)))))))
      have e : withinB xs ys = false := wf (i := i) (by omega) (n9.1 (by omega))
      exact fin1 rfl rfl ⟨_, ⟨by rw [e]; rfl, rfl⟩, hO.only []⟩
    · refine K2 (K3 (L9 (K5 (K8 (K3 (K1 ?_))))))
      refine l_y rfl rfl (y_move rfl) ?_
      refine l_y rfl rfl (D4) ?_
      refine l_y rfl rfl (y_assign rfl) ?_
      refine K2 ?_
      exact q_next (i + 1) ⟨rfl, rfl, rfl, rfl, trivial⟩ ⟨hO.only [], by omega, ws (by omega) hn (fun h => h4_6 (by rw [n9.2 h]; rfl))⟩ (by omega)
  · refine K2 (K3 (L9 (K7 (L1 (L1 (L2 (K3 (K0 (K0 (K1 ?_))))))))))
    refine l_y rfl rfl (y_assign rfl) ?_
    refine K2 (K3 (K4 ?_))
    refine c_rounds (X := Nat) (fun j => [(0, .slice px xs.length cx), (1, .slice py ys.length cy), (4, .bool false), (6, .int .i64 (j : Int))]) (fun j w => Own k w [] ∧ (j ≤ ys.length) ∧ (withinB (ys.take j) xs = true)) (fun j => ys.length - j) (0) ⟨rfl, rfl, rfl, rfl, trivial⟩ ⟨hO.only [], Nat.zero_le _, rfl⟩ ?_
    rintro j w m hm ⟨hO, hj, hm2⟩
    refine K0 (K0 (K1 ?_))
    refine l_y rfl rfl (y_move rfl) ?_
    refine l_y rfl rfl (y_move rfl) ?_
    refine l_y rfl rfl (y_lenL rfl) ?_
    refine Z0 (fun h7_3 => ?_) (fun h7_3 => ?_)
    · refine K2 (K3 (L8 (K5 (K3 (K0 (K4 (K0 (K1 ?_))))))))
      refine l_y rfl rfl (y_move rfl) ?_
      refine l_y rfl rfl (y_move rfl) ?_
      refine l_y rfl rfl (y_move rfl) ?_
      refine l_y rfl rfl (y_idx rfl rfl) ?_
      refine l_y rfl rfl (y_rA (x0 := 0) (enc := Api_attr.cells) (xs := ys) (cs := [.int .i64 (at_ ys ((j : Int) : Int).toNat).Space, .string (at_ ys ((j : Int) : Int).toNat).Prefix, .string (at_ ys ((j : Int) : Int).toNat).Name, .string (at_ ys ((j : Int) : Int).toNat).Value]) hO rfl) ?_
      refine CK [] hO rfl (fun k' hx hr hO' => ahas_spec (y := at_ ys j) (hx1.ext hO hx) hxl (hO := hO')) ?_
      rintro _ _ w ⟨n8, rfl, n9, rfl⟩ hO
      simp only [List.cons_append, List.nil_append] at hO
      refine Z0 (fun h9_6 => ?_) (fun h9_6 => ?_)
      · refine K2 (K3 (L8 (K0 (K1 ?_))))
        refine l_y rfl rfl (y_assign rfl) ?_
        refine K2 (K3 (K6 (L0 (K9 (K9 (L0 (K9 ?_)))))))
        have e : withinB ys xs = false := wf (i := j) (by omega) (n9.1 (by omega))
        exact fin1 rfl rfl ⟨_, ⟨by rw [e, Bool.and_false], rfl⟩, hO.only []⟩
      · refine K2 (K3 (L9 (K5 (K8 (K3 (K1 ?_))))))
        refine l_y rfl rfl (y_move rfl) ?_
        refine l_y rfl rfl (D4) ?_
        refine l_y rfl rfl (y_assign rfl) ?_
        refine K2 ?_
        exact q_next (j + 1) ⟨rfl, rfl, rfl, rfl, trivial⟩ ⟨hO.only [], by omega, ws (by omega) hm2 (fun h => h9_6 (by rw [n9.2 h]; rfl))⟩ (by omega)
    · refine K2 (K3 (L9 (K7 (L1 (L1 (L2 (K3 (K0 (K1 ?_)))))))))
      refine l_y rfl rfl (y_assign rfl) ?_
      refine K2 (K3 (K6 ?_))
      have e1 : withinB xs ys = true := by rw [← hn, List.take_of_length_le (by omega)]
      have e2 : withinB ys xs = true := by rw [← hm2, List.take_of_length_le (by omega)]
      exact fin1 rfl rfl ⟨_, ⟨by rw [e1, e2]; rfl, rfl⟩, hO.only []⟩
set_option maxHeartbeats 1000000 in
theorem alike_spec {p : Option Addr} {c n : Nat} {A : List Node_one} {K : Int → List Int} {R : List Ref01_one} {x y : Api_entry} (sm : Sim A K R) (hg : Gs p R.length) (hbx : hasB A x.Node = true) (hby : hasB A y.Node = true) (hx1 : EOk k x) (hy1 : EOk k y) (hO : Own k w [rB r p R.length c, rS p c R, zB z r q n d]) :
    Tri Tryz.prog 70 #[.pointer (some ⟨z, 0, none⟩), .agg (Api_entry.cells x).toArray, .agg (Api_entry.cells y).toArray] k w fun v m => v = .bool (kinB A y x) ∧ m = [rB r p R.length c, rS p c R, zB z r q n d] := by
  refine enter (args := [.pointer (some ⟨z, 0, none⟩), .agg (Api_entry.cells x).toArray, .agg (Api_entry.cells y).toArray]) Tryz.func70 rfl rfl ?_
  have hxs := hx1.1
  have hys := hy1.1
  have hxl := hx1.2
  have hyl := hy1.2
  have hlen := sm.len
  have hx0 := hasB_true hbx
  have hy0 := hasB_true hby
  have sx := sm.atB hbx
  have sy := sm.atB hby
  refine K0 (K1 ?_)
  refine s_box (vs := [.int .i64 x.Node, .int .i64 x.Token.Kind, .string x.Token.Name, .string x.Token.Data, .string x.Token.System, .int .i64 x.Token.Has, .bool x.Token.Quirks, .int .i32 x.Token.Char, .bool x.Token.Self, .slice x.Token.AttrsP x.Token.Attrs.length x.Token.AttrsC]) hO rfl rfl rfl (by rfl) fun b4 w hO => ?_
  refine s_box (vs := [.int .i64 y.Node, .int .i64 y.Token.Kind, .string y.Token.Name, .string y.Token.Data, .string y.Token.System, .int .i64 y.Token.Has, .bool y.Token.Quirks, .int .i32 y.Token.Char, .bool y.Token.Self, .slice y.Token.AttrsP y.Token.Attrs.length y.Token.AttrsC]) hO rfl rfl rfl (by rfl) fun b5 w hO => ?_
  refine l_y rfl rfl (y_assign rfl) ?_
  refine K2 (K3 (K0 ?_))
  refine da_region (by intro c a d v w h; cases d <;> exact h) ?_
  have hO := hO.drew
  refine da_phase _ [12] (SO.ks [.b z, .b r, .b b4, .p p] hO) ?_
  refine dx_u 0 (by kernel_rfl) rfl rfl rfl (fun w => y_move rfl) ?_
  refine dx_u 1 (by kernel_rfl) rfl rfl rfl (fun w => y_nilCheck rfl rfl) ?_
  refine dx_u 2 (by kernel_rfl) rfl rfl rfl (fun w => y_fldb (o' := 0) rfl) ?_
  refine dx_y 3 (by kernel_rfl) rfl rfl rfl (fun w ⟨m, hw⟩ => D5 hw rfl) ?_
  refine dx_u 4 (by kernel_rfl) rfl rfl rfl (fun w => y_nilCheck rfl rfl) ?_
  refine dx_u 5 (by kernel_rfl) rfl rfl rfl (fun w => y_fldb (o' := 0) rfl) ?_
  refine dx_y 6 (by kernel_rfl) rfl rfl rfl (fun w ⟨m, hw⟩ => D5 hw rfl) ?_
  refine dx_u 7 (by kernel_rfl) rfl rfl rfl (fun w => y_fldb (o' := 0) rfl) ?_
  refine dx_y 8 (by kernel_rfl) rfl rfl rfl (fun w ⟨m, hw⟩ => D5 hw rfl) ?_
  refine dx_u 9 (by kernel_rfl) rfl rfl rfl (fun w => y_idx rfl rfl) ?_
  refine dx_y 10 (by kernel_rfl) rfl rfl rfl (fun w ⟨m, hw⟩ => y_eA (x0 := 0) (cs := [.int .i64 (at_ R (x.Node : Int).toNat).Kind, .int .i64 (at_ R (x.Node : Int).toNat).Space, .string (at_ R (x.Node : Int).toNat).Name, .slice (at_ R (x.Node : Int).toNat).AttrsP (at_ R (x.Node : Int).toNat).Attrs.length (at_ R (x.Node : Int).toNat).AttrsC, .string (at_ R (x.Node : Int).toNat).Data, .string (at_ R (x.Node : Int).toNat).System, .int .i64 (at_ R (x.Node : Int).toNat).Inner, .int .i64 (at_ R (x.Node : Int).toNat).Host, .int .i64 (at_ R (x.Node : Int).toNat).Up, .slice (at_ R (x.Node : Int).toNat).KidsP (at_ R (x.Node : Int).toNat).Kids.length (at_ R (x.Node : Int).toNat).KidsC]) hw rfl) ?_
  refine dx_only 11 (by kernel_rfl) rfl rfl ?_
  refine s_alloc (vs := [.int .i64 0, .int .i64 0, .string ⟨#[]⟩, .slice none 0 0, .string ⟨#[]⟩, .string ⟨#[]⟩, .int .i64 0, .int .i64 0, .int .i64 0, .slice none 0 0]) hO rfl rfl rfl fun b7 w hO => ?_
  refine o_done ?_
  refine ⟨SO.ks [.b z, .b r, .b b4, .p p] hO, ?_⟩
  refine dx_close 12 (by kernel_rfl) rfl rfl ?_
  refine Y3 hO rfl rfl (fun w hO => ?_)
  refine o_done ?_
  refine da_end (by kernel_rfl) ?_
  refine K3 (K0 ?_)
  refine da_region (by intro c a d v w h; cases d <;> exact h) ?_
  have hO := hO.drew
  refine da_phase _ [12] (SO.ks [.b z, .b r, .b b5, .p p] hO) ?_
  refine dx_u 0 (by kernel_rfl) rfl rfl rfl (fun w => y_move rfl) ?_
  refine dx_u 1 (by kernel_rfl) rfl rfl rfl (fun w => y_nilCheck rfl rfl) ?_
  refine dx_u 2 (by kernel_rfl) rfl rfl rfl (fun w => y_fldb (o' := 0) rfl) ?_
  refine dx_y 3 (by kernel_rfl) rfl rfl rfl (fun w ⟨m, hw⟩ => D5 hw rfl) ?_
  refine dx_u 4 (by kernel_rfl) rfl rfl rfl (fun w => y_nilCheck rfl rfl) ?_
  refine dx_u 5 (by kernel_rfl) rfl rfl rfl (fun w => y_fldb (o' := 0) rfl) ?_
  refine dx_y 6 (by kernel_rfl) rfl rfl rfl (fun w ⟨m, hw⟩ => D5 hw rfl) ?_
  refine dx_u 7 (by kernel_rfl) rfl rfl rfl (fun w => y_fldb (o' := 0) rfl) ?_
  refine dx_y 8 (by kernel_rfl) rfl rfl rfl (fun w ⟨m, hw⟩ => D5 hw rfl) ?_
  refine dx_u 9 (by kernel_rfl) rfl rfl rfl (fun w => y_idx rfl rfl) ?_
  refine dx_y 10 (by kernel_rfl) rfl rfl rfl (fun w ⟨m, hw⟩ => y_eA (x0 := 0) (cs := [.int .i64 (at_ R (y.Node : Int).toNat).Kind, .int .i64 (at_ R (y.Node : Int).toNat).Space, .string (at_ R (y.Node : Int).toNat).Name, .slice (at_ R (y.Node : Int).toNat).AttrsP (at_ R (y.Node : Int).toNat).Attrs.length (at_ R (y.Node : Int).toNat).AttrsC, .string (at_ R (y.Node : Int).toNat).Data, .string (at_ R (y.Node : Int).toNat).System, .int .i64 (at_ R (y.Node : Int).toNat).Inner, .int .i64 (at_ R (y.Node : Int).toNat).Host, .int .i64 (at_ R (y.Node : Int).toNat).Up, .slice (at_ R (y.Node : Int).toNat).KidsP (at_ R (y.Node : Int).toNat).Kids.length (at_ R (y.Node : Int).toNat).KidsC]) hw rfl) ?_
  refine dx_only 11 (by kernel_rfl) rfl rfl ?_
  refine s_alloc (vs := [.int .i64 0, .int .i64 0, .string ⟨#[]⟩, .slice none 0 0, .string ⟨#[]⟩, .string ⟨#[]⟩, .int .i64 0, .int .i64 0, .int .i64 0, .slice none 0 0]) hO rfl rfl rfl fun b8 w hO => ?_
  refine o_done ?_
  refine ⟨SO.ks [.b z, .b r, .b b5, .p p] hO, ?_⟩
  refine dx_close 12 (by kernel_rfl) rfl rfl ?_
  refine Y3 hO rfl rfl (fun w hO => ?_)
  refine o_done ?_
  refine da_end (by kernel_rfl) ?_
  refine K3 (K0 (K1 ?_))
  refine l_y rfl rfl (y_fldb (o' := 2) rfl) ?_
  refine l_y rfl rfl (D5 hO rfl) ?_
  refine l_y rfl rfl (y_fldb (o' := 2) rfl) ?_
  refine l_y rfl rfl (D5 hO rfl) ?_
  refine Z2 (fun h3_4 => ?_) (fun h3_4 => ?_)
  · refine l_y rfl rfl (y_move rfl) ?_
    refine l_y rfl rfl (y_fldb (o' := 1) rfl) ?_
    refine l_y rfl rfl (D5 hO rfl) ?_
    refine l_y rfl rfl (y_fldb (o' := 1) rfl) ?_
    refine l_y rfl rfl (D5 hO rfl) ?_
    refine Z0 (fun h3_10 => ?_) (fun h3_10 => ?_)
    · refine l_y rfl rfl (y_pick_t rfl rfl) ?_
      refine l_y rfl rfl (y_move rfl) ?_
      refine l_y rfl rfl (y_fldb (o' := 1) rfl) ?_
      refine l_y rfl rfl (y_fldb (o' := 9) rfl) ?_
      refine l_y rfl rfl (D5 hO rfl) ?_
      refine l_y rfl rfl (y_fldb (o' := 1) rfl) ?_
      refine l_y rfl rfl (y_fldb (o' := 9) rfl) ?_
      refine l_y rfl rfl (D5 hO rfl) ?_
      refine CK [] hO rfl (fun k' hx hr hO' => sets_spec (hxs.ext hO hx) (hys.ext hO hx) hxl hyl (hO := hO')) ?_
      rintro _ _ w ⟨rfl, rfl⟩ hO
      simp only [List.cons_append, List.nil_append] at hO
      refine l_y rfl rfl (y_pick_t rfl rfl) ?_
      refine l_y rfl rfl (y_assign rfl) ?_
      refine K2 (K3 (K6 ?_))
      have n1 : (nodeA A x.Node).Name = (at_ R x.Node.toNat).Name := by first | exact sx.name | exact sx.name.symm
      have n2 : (nodeA A y.Node).Name = (at_ R y.Node.toNat).Name := by first | exact sy.name | exact sy.name.symm
      have n3 : (nodeA A x.Node).Space = (at_ R x.Node.toNat).Space := by first | exact sx.space | exact sx.space.symm
      have n4 : (nodeA A y.Node).Space = (at_ R y.Node.toNat).Space := by first | exact sy.space | exact sy.space.symm
      refine fin1 rfl rfl ⟨_, ⟨?_, rfl⟩, hO.only [.b r, .p p, .b z]⟩
      rw [kinB, n1, n2, n3, n4]
      first
        | (rw [decide_eq_true h3_4.symm, decide_eq_true h3_10.symm, Bool.true_and, Bool.true_and, Bool.and_comm]; done)
        | (simp [show ¬ (at_ R y.Node.toNat).Space = (at_ R x.Node.toNat).Space from fun h => h3_10 h.symm]; done)
        | (simp [show ¬ (at_ R y.Node.toNat).Name = (at_ R x.Node.toNat).Name from fun h => h3_4 h.symm]; done)
    · refine l_y rfl rfl (y_pick_t rfl rfl) ?_
      refine l_y rfl rfl (y_move rfl) ?_
      repeat refine M2 ?_
      refine l_y rfl rfl (y_pick_f rfl rfl) ?_
      refine l_y rfl rfl (y_assign rfl) ?_
      refine K2 (K3 (K6 ?_))
      have n1 : (nodeA A x.Node).Name = (at_ R x.Node.toNat).Name := by first | exact sx.name | exact sx.name.symm
      have n2 : (nodeA A y.Node).Name = (at_ R y.Node.toNat).Name := by first | exact sy.name | exact sy.name.symm
      have n3 : (nodeA A x.Node).Space = (at_ R x.Node.toNat).Space := by first | exact sx.space | exact sx.space.symm
      have n4 : (nodeA A y.Node).Space = (at_ R y.Node.toNat).Space := by first | exact sy.space | exact sy.space.symm
      refine fin1 rfl rfl ⟨_, ⟨?_, rfl⟩, hO.only [.b r, .p p, .b z]⟩
      rw [kinB, n1, n2, n3, n4]
      first
        | (rw [decide_eq_true h3_4.symm, decide_eq_true h3_10.symm, Bool.true_and, Bool.true_and, Bool.and_comm]; done)
        | (simp [show ¬ (at_ R y.Node.toNat).Space = (at_ R x.Node.toNat).Space from fun h => h3_10 h.symm]; done)
        | (simp [show ¬ (at_ R y.Node.toNat).Name = (at_ R x.Node.toNat).Name from fun h => h3_4 h.symm]; done)
  · refine l_y rfl rfl (y_move rfl) ?_
    repeat refine M2 ?_
    refine l_y rfl rfl (y_pick_f rfl rfl) ?_
    refine l_y rfl rfl (y_move rfl) ?_
    repeat refine M2 ?_
    refine l_y rfl rfl (y_pick_f rfl rfl) ?_
    refine l_y rfl rfl (y_assign rfl) ?_
    refine K2 (K3 (K6 ?_))
    have n1 : (nodeA A x.Node).Name = (at_ R x.Node.toNat).Name := by first | exact sx.name | exact sx.name.symm
    have n2 : (nodeA A y.Node).Name = (at_ R y.Node.toNat).Name := by first | exact sy.name | exact sy.name.symm
    have n3 : (nodeA A x.Node).Space = (at_ R x.Node.toNat).Space := by first | exact sx.space | exact sx.space.symm
    have n4 : (nodeA A y.Node).Space = (at_ R y.Node.toNat).Space := by first | exact sy.space | exact sy.space.symm
    refine fin1 rfl rfl ⟨_, ⟨?_, rfl⟩, hO.only [.b r, .p p, .b z]⟩
    rw [kinB, n1, n2, n3, n4]
    first
      | (rw [decide_eq_true h3_4.symm, decide_eq_true h3_10.symm, Bool.true_and, Bool.true_and, Bool.and_comm]; done)
      | (simp [show ¬ (at_ R y.Node.toNat).Space = (at_ R x.Node.toNat).Space from fun h => h3_10 h.symm]; done)
      | (simp [show ¬ (at_ R y.Node.toNat).Name = (at_ R x.Node.toNat).Name from fun h => h3_4 h.symm]; done)
end
end Go.Proofs.YtoohapbaelmkcaaGreat
end
section
set_option linter.unusedVariables false
set_option linter.unusedSimpArgs false
set_option maxRecDepth 100000
namespace Go.Proofs.YtoohapbaelmkcaaGreat
open Go Go.Hb Go.RowKit
theorem Sim.el13 {A : List Node_one} {K : Int → List Int} {R : List Ref01_one} (s : Sim A K R) {id : Int} : elB A id = (hasR R id && decide ((at_ R id.toNat).Kind = 1)) := by
  rw [elB, ← s.has]
  cases h : hasR R id with
  | false => rfl
  | true => rw [(s.atB (by rw [← s.has]; exact h)).kind]
section
variable {k : Ctx} {w : World} {z r c d : Nat} {p q : Option Addr} {L : List Api_entry} {A : List Node_one} {K : Int → List Int} {R : List Ref01_one} {id : Int}
theorem zEl_spec (s : Sim A K R) (hg : Gs p R.length) (hO : Own k w [rB r p R.length c, rS p c R]) :
    Tri Tryz.prog 68 #[.pointer (some ⟨r, 0, none⟩), .int .i64 id] k w fun v m => v = .bool (elB A id) ∧ m = [rB r p R.length c, rS p c R] := by
  refine enter (args := [.pointer (some ⟨r, 0, none⟩), .int .i64 id]) Tryz.func68 rfl rfl ?_
  refine K0 (K1 ?_)
  refine l_y rfl rfl (y_assign rfl) ?_
  refine K2 (K3 (K0 (K1 ?_)))
  refine l_y rfl rfl (y_move rfl) ?_
  refine l_y rfl rfl (y_move rfl) ?_
  refine CK [.b r, .p p] hO rfl (fun k' hx hr hO' => Is_spec (hO := hO')) ?_
  rintro _ _ w ⟨rfl, rfl⟩ hO
  simp only [List.cons_append, List.nil_append] at hO
  refine l_y rfl rfl (y_move rfl) ?_
  refine l_split 8 rfl (fun hg8 => ?_) (fun hg8 => ?_)
  · have hid := hasR_true hg8
    refine l_y rfl rfl (y_move rfl) ?_
    refine l_y rfl rfl (y_nilCheck rfl rfl) ?_
    refine l_y rfl rfl (y_fldb (o' := 0) rfl) ?_
    refine l_y rfl rfl (D5 hO rfl) ?_
    refine l_y rfl rfl (y_move rfl) ?_
    refine l_y rfl rfl (y_idx rfl rfl) ?_
    refine l_y rfl rfl (y_fld (j' := 0) rfl) ?_
    refine l_y rfl rfl (y_e1 (x0 := 0) hO rfl) ?_
    refine Z0 (fun h1_12 => ?_) (fun h1_12 => ?_)
    · refine l_y rfl rfl (y_pick_t rfl rfl) ?_
      refine l_y rfl rfl (y_assign rfl) ?_
      refine K2 (K3 (K6 ?_))
      exact fin1 rfl rfl ⟨_, ⟨by rw [s.el13]; simp [*], rfl⟩, hO.only [.b r, .p p]⟩
    · refine l_y rfl rfl (y_pick_t rfl rfl) ?_
      refine l_y rfl rfl (y_assign rfl) ?_
      refine K2 (K3 (K6 ?_))
      exact fin1 rfl rfl ⟨_, ⟨by rw [s.el13]; simp [*], rfl⟩, hO.only [.b r, .p p]⟩
  · repeat refine M2 ?_
    refine l_y rfl rfl (y_pick_f rfl rfl) ?_
    refine l_y rfl rfl (y_assign rfl) ?_
    refine K2 (K3 (K6 ?_))
    exact fin1 rfl rfl ⟨_, ⟨by rw [s.el13]; simp [*], rfl⟩, hO.only [.b r, .p p]⟩
theorem zremove_spec {i : Nat} (hi : i < L.length) (hg : Gs q L.length) (hlc : L.length ≤ d) (hl : L.length ≤ 2000000) (hO : Own k w [zB z r q L.length d, aI q d L]) :
    Tri Tryz.prog 71 #[.pointer (some ⟨z, 0, none⟩), .int .i64 ((i : Nat) : Int)] k w fun v m => v = .tuple #[] ∧ m = [ralL z r (cutE L i)] := by
  refine enter (args := [.pointer (some ⟨z, 0, none⟩), .int .i64 ((i : Nat) : Int)]) Tryz.func71 rfl rfl ?_
  refine K0 (K1 ?_)
  refine s_lit0 Api_entry.cells hO (fun b5 w hO => ?_)
  refine l_y rfl rfl (y_move rfl) ?_
  refine l_y rfl rfl (y_nilCheck rfl rfl) ?_
  refine l_y rfl rfl (y_fldb (o' := 1) rfl) ?_
  refine l_y rfl rfl (D5 hO rfl) ?_
  refine l_y rfl rfl (y_move rfl) ?_
  have hv0 := sls_sli (p := q) hO
  refine l_y rfl rfl (y_hd i rfl rfl) ?_
  have hv := sli_hd (cuts_holds w) hv0 i d (by omega) (by omega)
  have hti : (L.take i).length = i := by simp; omega
  refine s_app0 (ys := L.take i) hO rfl rfl (src_sli hv) (fun p12 c12 w hO gs12 => ?_)
  refine l_y rfl rfl (y_assign rfl) ?_
  refine K2 (K3 (K1 ?_))
  refine l_y rfl rfl (y_move rfl) ?_
  refine l_y rfl rfl (y_move rfl) ?_
  refine l_y rfl rfl (y_move rfl) ?_
  refine l_y rfl rfl (y_nilCheck rfl rfl) ?_
  refine l_y rfl rfl (y_fldb (o' := 1) rfl) ?_
  refine l_y rfl rfl (D5 hO rfl) ?_
  refine l_y rfl rfl (y_move rfl) ?_
  refine l_y rfl rfl (D4) ?_
  refine l_y rfl rfl (y_tl (i + 1) rfl rfl) ?_
  have hv1 := sls_sli (p := q) hO
  have hv2 := sli_tl (cuts_holds w) hv1 (i + 1) (by omega)
  have htd : (L.drop (i + 1)).length = L.length - (i + 1) := by simp
  refine s_app (xs := L.take i) (ys := L.drop (i + 1)) hO rfl rfl (src_sli hv2) (fun p22 c22 w hO gs22 => ?_) rfl (by omega) (by omega)
  refine l_y rfl rfl (y_nilCheck rfl rfl) ?_
  refine l_y rfl rfl (y_fldb (o' := 1) rfl) ?_
  refine Y1 hO rfl rfl (fun w hO => ?_)
  simp only [List.set_cons_zero, List.set_cons_succ] at hO
  refine K2 ?_
  exact fin0 rfl ⟨_, ⟨rfl, rfl⟩, (ralL_shut (hO.ks [.b z, .p p22]) rfl).one⟩
set_option maxHeartbeats 4000000 in
theorem zPush_spec {tk : Api_token} (t : Two A K R) (hD : DistN L) (hl : L.length ≤ 2000000) (hb : ∀ e ∈ L, e.Node ≠ -1 → hasB A e.Node = true) (hE : ∀ e ∈ L, EOk k e) (ht : EOk k ⟨id, tk⟩) (hO : Own k w [rarL r R, ralL z r L]) :
    Tri Tryz.prog 33 #[.pointer (some ⟨z, 0, none⟩), .int .i64 id, .agg (Api_token.cells tk).toArray] k w fun v m => v = .int .i64 (freshF A L id) ∧ m = [rarL r R, ralL z r (if freshF A L id = 0 then pushE A L ⟨id, tk⟩ else L)] := by
  refine enter (args := [.pointer (some ⟨z, 0, none⟩), .int .i64 id, .agg (Api_token.cells tk).toArray]) Tryz.func33 rfl rfl ?_
  obtain ⟨p, c, F, hg, hF, hO⟩ := rarL_open hO
  obtain ⟨q, d, hgq, hlq, hO⟩ := ralL_open (hO.ks [.o z])
  refine K0 (K1 ?_)
  refine s_box (vs := [.int .i64 tk.Kind, .string tk.Name, .string tk.Data, .string tk.System, .int .i64 tk.Has, .bool tk.Quirks, .int .i32 tk.Char, .bool tk.Self, .slice tk.AttrsP tk.Attrs.length tk.AttrsC]) hO rfl rfl rfl (by rfl) fun b5 w hO => ?_
  refine l_y rfl rfl (y_assign rfl) ?_
  refine K2 (K3 (K0 (K0 (K1 ?_))))
  refine l_y rfl rfl (y_move rfl) ?_
  refine l_y rfl rfl (y_nilCheck rfl rfl) ?_
  refine l_y rfl rfl (y_fldb (o' := 0) rfl) ?_
  refine l_y rfl rfl (D5 hO rfl) ?_
  refine l_y rfl rfl (y_move rfl) ?_
  refine CK [.b r, .p p] hO rfl (fun k' hx hr hO' => zEl_spec t.sim hg (hO := hO')) ?_
  rintro _ _ w ⟨rfl, rfl⟩ hO
  simp only [List.cons_append, List.nil_append] at hO
  refine l_y rfl rfl (y_not rfl rfl) ?_
  refine K2 (K3 ?_)
  refine c_split rfl (fun hc17 => ?_) (fun hc17 => ?_)
  · simp only [Bool.not_eq_true', Bool.not_eq_false'] at hc17
    refine K0 (K1 ?_)
    refine l_y rfl rfl (y_assign rfl) ?_
    refine K2 (K3 (K6 (K9 ?_)))
    have hel : elB A id = false := by simpa using hc17
    have e : freshF A L id = 6 := by rw [freshF, if_pos hel]
    rw [e, if_neg (by decide)]
    exact fin1 rfl rfl ⟨_, ⟨rfl, rfl⟩, ((rarL_shut hF ((ralL_shut (hO.ks [.b z, .p q])).ks [.b r, .p p, .f])).ks [.o r, .o z]).two⟩
  · simp only [Bool.not_eq_true', Bool.not_eq_false'] at hc17
    refine K5 (K3 (K0 (K0 (K1 ?_))))
    refine l_y rfl rfl (y_move rfl) ?_
    refine l_y rfl rfl (y_move rfl) ?_
    refine CK [.b z, .p q] hO rfl (fun k' hx hr hO' => zFindB_spec hD hgq hl (hO := hO')) ?_
    rintro _ _ w ⟨rfl, rfl⟩ hO
    simp only [List.cons_append, List.nil_append] at hO
    refine Z0 (fun h3_3 => ?_) (fun h3_3 => ?_)
    · refine K2 (K3 (L8 (K0 (K1 ?_))))
      refine l_y rfl rfl (y_assign rfl) ?_
      refine K2 (K3 (K6 (K9 ?_)))
      have hel : elB A id = true := by simpa using hc17
      have e : freshF A L id = 1 := by rw [freshF, if_neg (by rw [hel]; simp), if_pos h3_3]
      rw [e, if_neg (by decide)]
      exact fin1 rfl rfl ⟨_, ⟨rfl, rfl⟩, ((rarL_shut hF ((ralL_shut (hO.ks [.b z, .p q])).ks [.b r, .p p, .f])).ks [.o r, .o z]).two⟩
    · refine K2 (K3 (L9 (K5 (K3 (K0 ?_)))))
      have hel : elB A id = true := by simpa using hc17
      have e0 : freshF A L id = 0 := by rw [freshF, if_neg (by rw [hel]; simp), if_neg h3_3]
      have hid := elB_has hel
      refine K1 ?_
      refine l_y rfl rfl (y_move rfl) ?_
      refine l_y rfl rfl (D8 (cs := [.int .i64 tk.Kind, .string tk.Name, .string tk.Data, .string tk.System, .int .i64 tk.Has, .bool tk.Quirks, .int .i32 tk.Char, .bool tk.Self, .slice tk.AttrsP tk.Attrs.length tk.AttrsC]) hO rfl) ?_
      refine s_build (parts := [(0, .tmp 22), (1, .tmp 23)]) (cs := [.int .i64 id, .int .i64 tk.Kind, .string tk.Name, .string tk.Data, .string tk.System, .int .i64 tk.Has, .bool tk.Quirks, .int .i32 tk.Char, .bool tk.Self, .slice tk.AttrsP tk.Attrs.length tk.AttrsC]) rfl rfl (fun a ha => partsOf_sound ha _ _ rfl) (by kernel_rfl) ?_
      refine s_alloc (vs := [.int .i64 0, .int .i64 0, .string ⟨#[]⟩, .string ⟨#[]⟩, .string ⟨#[]⟩, .int .i64 0, .bool false, .int .i32 0, .bool false, .slice none 0 0]) hO rfl rfl rfl fun b7 w hO => ?_
      refine Y3 hO rfl rfl (fun w hO => ?_)
      refine K2 (K3 (K0 (K1 ?_)))
      refine l_y rfl rfl (y_assign rfl) ?_
      refine K2 (K3 (K0 (K1 ?_)))
      refine l_y rfl rfl (y_assign rfl) ?_
      refine K2 (K3 (K0 (K0 (K1 ?_))))
      refine l_y rfl rfl (y_move rfl) ?_
      refine l_y rfl rfl (y_nilCheck rfl rfl) ?_
      refine l_y rfl rfl (y_fldb (o' := 1) rfl) ?_
      refine l_y rfl rfl (D5 hO rfl) ?_
      refine l_y rfl rfl (y_lenL rfl) ?_
      refine l_y rfl rfl (D4) ?_
      refine l_y rfl rfl (y_assign rfl) ?_
      refine K2 (K3 (K4 ?_))
      refine c_rounds (X := Nat × List Nat × Int) (fun x => [(0, .pointer (some ⟨z, 0, none⟩)), (6, .int .i64 0), (7, .pointer (some ⟨b7, 0, none⟩)), (8, .int .i64 ((pk A L ⟨id, tk⟩ x.2.1).1 : Int)), (9, .int .i64 x.2.2), (10, .int .i64 ((x.1 : Int) - 1))]) (fun x w => Own k w [rB r p R.length c, rS p c R, zB z r q L.length d, aI q d L, blk b7 55 (Api_entry.cells ⟨id, tk⟩), pool F] ∧ (bk L L.length = x.2.1 ++ bk L x.1) ∧ (x.1 ≤ L.length) ∧ (0 < (pk A L ⟨id, tk⟩ x.2.1).1 → x.2.2 = ((pk A L ⟨id, tk⟩ x.2.1).2 : Int))) (fun x => x.1) ((L.length, [], -1)) ⟨rfl, rfl, rfl, rfl, rfl, rfl, trivial⟩ ⟨hO.only [.b r, .p p, .b z, .p q, .b b7, .f], rfl, Nat.le_refl _, (fun h => absurd h (Nat.lt_irrefl 0))⟩ ?_
      rintro x w m hm ⟨hO, hx, hle, hf⟩
      refine K0 (K0 (K1 ?_))
      refine l_y rfl rfl (y_move rfl) ?_
      refine Z0 (fun h9_1 => ?_) (fun h9_1 => ?_)
      · obtain ⟨y, hy⟩ : ∃ y, x.1 = y + 1 := ⟨x.1 - 1, by omega⟩
        have ey : (x.1 : Int) - 1 = (y : Int) := by omega
        rw [ey]
        refine l_y rfl rfl (y_move rfl) ?_
        refine l_y rfl rfl (y_move rfl) ?_
        refine l_y rfl rfl (y_nilCheck rfl rfl) ?_
        refine l_y rfl rfl (y_fldb (o' := 1) rfl) ?_
        refine l_y rfl rfl (D5 hO rfl) ?_
        refine l_y rfl rfl (y_move rfl) ?_
        refine l_y rfl rfl (y_idx rfl rfl) ?_
        refine l_y rfl rfl (y_fld (j' := 0) rfl) ?_
        refine l_y rfl rfl (y_e1 (x0 := 0) hO rfl) ?_
        refine Z1 (fun h9_11 => ?_) (fun h9_11 => ?_)
        · refine l_y rfl rfl (y_pick_t rfl rfl) ?_
          refine K2 (K3 (L8 (K5 (K3 (K0 (K4 (K0 ?_)))))))
          have hs : bk L x.1 = y :: bk L y := by rw [hy, bk, if_neg (show ¬ (at_ L y).Node = -1 from h9_11)]
          have hEy := hE _ (at_mem (xs := L) (i := y) (by omega))
          have hby := hb _ (at_mem (xs := L) (i := y) (by omega)) h9_11
          refine da_region (by intro c a d v w h; cases d <;> exact h) ?_
          have hO := hO.drew
          refine da_phase _ [9] (SO.ks [.b z, .p q, .b b7] hO) ?_
          refine dx_u 0 (by kernel_rfl) rfl rfl rfl (fun w => y_move rfl) ?_
          refine dx_u 1 (by kernel_rfl) rfl rfl rfl (fun w => y_move rfl) ?_
          refine dx_u 2 (by kernel_rfl) rfl rfl rfl (fun w => y_nilCheck rfl rfl) ?_
          refine dx_u 3 (by kernel_rfl) rfl rfl rfl (fun w => y_fldb (o' := 1) rfl) ?_
          refine dx_y 4 (by kernel_rfl) rfl rfl rfl (fun w ⟨m, hw⟩ => D5 hw rfl) ?_
          refine dx_u 5 (by kernel_rfl) rfl rfl rfl (fun w => y_move rfl) ?_
          refine dx_u 6 (by kernel_rfl) rfl rfl rfl (fun w => y_idx rfl rfl) ?_
          refine dx_y 7 (by kernel_rfl) rfl rfl rfl (fun w ⟨m, hw⟩ => y_eA (x0 := 0) (cs := [.int .i64 (at_ L ((y : Int) : Int).toNat).Node, .int .i64 (at_ L ((y : Int) : Int).toNat).Token.Kind, .string (at_ L ((y : Int) : Int).toNat).Token.Name, .string (at_ L ((y : Int) : Int).toNat).Token.Data, .string (at_ L ((y : Int) : Int).toNat).Token.System, .int .i64 (at_ L ((y : Int) : Int).toNat).Token.Has, .bool (at_ L ((y : Int) : Int).toNat).Token.Quirks, .int .i32 (at_ L ((y : Int) : Int).toNat).Token.Char, .bool (at_ L ((y : Int) : Int).toNat).Token.Self, .slice (at_ L ((y : Int) : Int).toNat).Token.AttrsP (at_ L ((y : Int) : Int).toNat).Token.Attrs.length (at_ L ((y : Int) : Int).toNat).Token.AttrsC]) hw rfl) ?_
          refine dx_y 8 (by kernel_rfl) rfl rfl rfl (fun w ⟨m, hw⟩ => D8 (cs := [.int .i64 id, .int .i64 tk.Kind, .string tk.Name, .string tk.Data, .string tk.System, .int .i64 tk.Has, .bool tk.Quirks, .int .i32 tk.Char, .bool tk.Self, .slice tk.AttrsP tk.Attrs.length tk.AttrsC]) hw rfl) ?_
          refine dx_close 9 (by kernel_rfl) rfl rfl ?_
          refine CK [.b r, .p p, .b z] hO rfl (fun k' hx hr hO' => alike_spec (x := at_ L y) (y := ⟨id, tk⟩) t.sim hg hby hid ⟨hEy.1.ext hO hx, hEy.2⟩ ⟨ht.1.ext hO hx, ht.2⟩ (hO := hO')) ?_
          rintro _ _ w ⟨rfl, rfl⟩ hO
          simp only [List.cons_append, List.nil_append] at hO
          refine o_done ?_
          refine da_end (by kernel_rfl) ?_
          refine K3 ?_
          refine c_split rfl (fun hc55 => ?_) (fun hc55 => ?_)
          · refine K0 ?_
            have hpl2 : (pk A L ⟨id, tk⟩ x.2.1).1 ≤ 2000000 := by
              have h1 := pk_le (A := A) (L := L) (e := ⟨id, tk⟩) (xs := x.2.1)
              have h2 := bk_len (L := L) (n := L.length)
              rw [hx, List.length_append] at h2
              omega
            refine K1 ?_
            refine l_y rfl rfl (y_move rfl) ?_
            refine l_y rfl rfl (v := .int .i64 ((pk A L ⟨id, tk⟩ (x.2.1 ++ [y])).1 : Int)) (by rw [pk_snoc, if_pos hc55]; exact D4) ?_
            refine l_y rfl rfl (y_assign rfl) ?_
            refine K2 (K3 (K1 ?_))
            refine l_y rfl rfl (y_move rfl) ?_
            refine l_y rfl rfl (y_assign rfl) ?_
            refine K2 (K8 (K3 (K1 ?_)))
            refine l_y rfl rfl (y_move rfl) ?_
            refine l_y rfl rfl (D4) ?_
            refine l_y rfl rfl (y_assign rfl) ?_
            refine K2 ?_
            first
              | exact q_next (y, x.2.1 ++ [y], (y : Int)) (by (repeat (first | exact trivial | refine ⟨rfl, ?_⟩))) ⟨hO.only [.b r, .p p, .b z, .p q, .b b7, .f], by dsimp only; rw [hx, hs]; simp, by dsimp only; omega, fun _ => by dsimp only; rw [pk_snoc, if_pos hc55]⟩ (by dsimp only; omega)
              | (have hpkF : pk A L ⟨id, tk⟩ x.2.1 = pk A L ⟨id, tk⟩ (x.2.1 ++ [y]) := by rw [pk_snoc, if_neg (by rw [hc55]; simp)]
                 rw [hpkF] at hf ⊢
                 exact q_next (y, x.2.1 ++ [y], x.2.2) (by (repeat (first | exact trivial | refine ⟨rfl, ?_⟩))) ⟨hO.only [.b r, .p p, .b z, .p q, .b b7, .f], by dsimp only; rw [hx, hs]; simp, by dsimp only; omega, hf⟩ (by dsimp only; omega))
          · refine K5 (K8 (K3 (K1 ?_)))
            refine l_y rfl rfl (y_move rfl) ?_
            refine l_y rfl rfl (D4) ?_
            refine l_y rfl rfl (y_assign rfl) ?_
            refine K2 ?_
            first
              | exact q_next (y, x.2.1 ++ [y], (y : Int)) (by (repeat (first | exact trivial | refine ⟨rfl, ?_⟩))) ⟨hO.only [.b r, .p p, .b z, .p q, .b b7, .f], by dsimp only; rw [hx, hs]; simp, by dsimp only; omega, fun _ => by dsimp only; rw [pk_snoc, if_pos hc55]⟩ (by dsimp only; omega)
              | (have hpkF : pk A L ⟨id, tk⟩ x.2.1 = pk A L ⟨id, tk⟩ (x.2.1 ++ [y]) := by rw [pk_snoc, if_neg (by rw [hc55]; simp)]
                 rw [hpkF] at hf ⊢
                 exact q_next (y, x.2.1 ++ [y], x.2.2) (by (repeat (first | exact trivial | refine ⟨rfl, ?_⟩))) ⟨hO.only [.b r, .p p, .b z, .p q, .b b7, .f], by dsimp only; rw [hx, hs]; simp, by dsimp only; omega, hf⟩ (by dsimp only; omega))
        · refine l_y rfl rfl (y_pick_t rfl rfl) ?_
          refine K2 (K3 (L9 (K7 (L1 (L1 (L2 (K3 ?_)))))))
          refine c_cut (X := Option Addr × Nat × List Api_entry) (fun y9 => [(0, .pointer (some ⟨z, 0, none⟩)), (6, .int .i64 0), (7, .pointer (some ⟨b7, 0, none⟩))]) (fun y9 w => Own k w [rB r p R.length c, rS p c R, zB z r y9.1 y9.2.2.length y9.2.1, aI y9.1 y9.2.1 y9.2.2, blk b7 55 (Api_entry.cells ⟨id, tk⟩), pool F] ∧ (pushE A L ⟨id, tk⟩ = y9.2.2 ++ [⟨id, tk⟩]) ∧ (y9.2.2.length ≤ 2000000)) ?_ ?_
          · refine K0 ?_
            have he : bk L x.1 = [] := by
              first
                | rw [hy, bk, if_pos (show (at_ L y).Node = -1 from h9_11)]
                | rw [show x.1 = 0 by omega, bk]
            rw [he, List.append_nil] at hx
            have hpl : (pk A L ⟨id, tk⟩ (bk L L.length)).1 ≤ L.length := Nat.le_trans pk_le bk_len
            rw [← hx] at hf ⊢
            refine K1 ?_
            refine l_y rfl rfl (y_move rfl) ?_
            refine Z0 (fun h14_1 => ?_) (fun h14_1 => ?_)
            · refine K2 (K3 (L8 (K1 ?_)))
              refine l_y rfl rfl (y_move rfl) ?_
              refine l_y rfl rfl (y_move rfl) ?_
              have hlt : (pk A L ⟨id, tk⟩ (bk L L.length)).2 < L.length := bk_lt (pk_mem (by omega))
              refine CK [.b z, .p q] hO (by rw [hf (by omega)]; rfl) (fun k' hx hr hO' => zremove_spec hlt hgq hlq hl (hO := hO')) ?_
              rintro _ _ w ⟨rfl, rfl⟩ hO
              simp only [List.cons_append, List.nil_append] at hO
              obtain ⟨q2, d2, L2, hO, hpu, hl2⟩ : ∃ (q2 : Option Addr) (d2 : Nat) (L2 : List Api_entry), Own k w [rB r p R.length c, rS p c R, zB z r q2 L2.length d2, aI q2 d2 L2, blk b7 55 (Api_entry.cells ⟨id, tk⟩), pool F] ∧ pushE A L ⟨id, tk⟩ = L2 ++ [⟨id, tk⟩] ∧ L2.length ≤ 2000000 := by
                obtain ⟨q2, d2, hg2, hlc2, hO⟩ := ralL_open (hO.ks [.o z])
                exact ⟨q2, d2, _, hO.only [.b r, .p p, .b z, .p q2, .b b7, .f], by rw [pushE, if_pos (by omega)], by simp [cutE]; omega⟩
              refine K2 ?_
              exact q_cut ((q2, d2, L2)) ⟨rfl, rfl, rfl, trivial⟩ ⟨hO.only [.b r, .p p, .b z, .p q2, .b b7, .f], hpu, hl2⟩
            · obtain ⟨q2, d2, L2, hO, hpu, hl2⟩ : ∃ (q2 : Option Addr) (d2 : Nat) (L2 : List Api_entry), Own k w [rB r p R.length c, rS p c R, zB z r q2 L2.length d2, aI q2 d2 L2, blk b7 55 (Api_entry.cells ⟨id, tk⟩), pool F] ∧ pushE A L ⟨id, tk⟩ = L2 ++ [⟨id, tk⟩] ∧ L2.length ≤ 2000000 := ⟨q, d, L, hO.only [.b r, .p p, .b z, .p q, .b b7, .f], by rw [pushE, if_neg (by omega)], hl⟩
              refine K2 (K3 (L9 (K5 ?_)))
              exact q_cut ((q2, d2, L2)) ⟨rfl, rfl, rfl, trivial⟩ ⟨hO.only [.b r, .p p, .b z, .p q2, .b b7, .f], hpu, hl2⟩
          · rintro y9 w ⟨hO, hz, hzl⟩
            refine K0 ?_
            refine da_region (by intro c a d v w h; cases d <;> exact h) ?_
            have hO := hO.drew
            refine da_phase _ [7] (SO.ks [.b z, .b b7] hO) ?_
            refine dx_u 0 (by kernel_rfl) rfl rfl rfl (fun w => y_move rfl) ?_
            refine dx_u 1 (by kernel_rfl) rfl rfl rfl (fun w => y_move rfl) ?_
            refine dx_u 2 (by kernel_rfl) rfl rfl rfl (fun w => y_nilCheck rfl rfl) ?_
            refine dx_u 3 (by kernel_rfl) rfl rfl rfl (fun w => y_fldb (o' := 1) rfl) ?_
            refine dx_y 4 (by kernel_rfl) rfl rfl rfl (fun w ⟨m, hw⟩ => D5 hw rfl) ?_
            refine dx_y 5 (by kernel_rfl) rfl rfl rfl (fun w ⟨m, hw⟩ => D8 (cs := [.int .i64 id, .int .i64 tk.Kind, .string tk.Name, .string tk.Data, .string tk.System, .int .i64 tk.Has, .bool tk.Quirks, .int .i32 tk.Char, .bool tk.Self, .slice tk.AttrsP tk.Attrs.length tk.AttrsC]) hw rfl) ?_
            refine dx_only 6 (by kernel_rfl) rfl rfl ?_
            refine s_lit (parts := [(0, .tmp 69)]) (enc := Api_entry.cells) [⟨id, ⟨tk.Kind, tk.Name, tk.Data, tk.System, tk.Has, tk.Quirks, tk.Char, tk.Self, tk.AttrsP, tk.Attrs, tk.AttrsC⟩⟩] [.agg [.int .i64 id, .int .i64 tk.Kind, .string tk.Name, .string tk.Data, .string tk.System, .int .i64 tk.Has, .bool tk.Quirks, .int .i32 tk.Char, .bool tk.Self, .slice tk.AttrsP tk.Attrs.length tk.AttrsC].toArray] hO rfl (fun b70 w hO => ?_)
            refine o_done ?_
            refine ⟨SO.ks [.b z, .b b7] hO, ?_⟩
            refine dx_close 7 (by kernel_rfl) rfl rfl ?_
            refine s_app hO rfl rfl (src_own hO) (fun p71 c71 w hO gs71 => ?_)
            refine o_done ?_
            refine da_phase _ [10] (SO.ks [] hO) ?_
            refine dx_u 8 (by kernel_rfl) rfl rfl rfl (fun w => y_nilCheck rfl rfl) ?_
            refine dx_u 9 (by kernel_rfl) rfl rfl rfl (fun w => y_fldb (o' := 1) rfl) ?_
            refine dx_close 10 (by kernel_rfl) rfl rfl ?_
            refine Y1 hO rfl rfl (fun w hO => ?_)
            simp only [List.set_cons_zero, List.set_cons_succ] at hO
            refine o_done ?_
            refine da_end (by kernel_rfl) ?_
            refine K3 (K0 (K1 ?_))
            refine l_y rfl rfl (y_assign rfl) ?_
            refine K2 (K3 (K6 ?_))
            rw [e0, if_pos rfl, hz]
            exact fin1 rfl rfl ⟨_, ⟨rfl, rfl⟩, ((rarL_shut hF ((ralL_shut (hO.ks [.b z, .p p71]) rfl).ks [.b r, .p p, .f])).ks [.o r, .o z]).two⟩
      · refine l_y rfl rfl (y_move rfl) ?_
        repeat refine M2 ?_
        refine l_y rfl rfl (y_pick_f rfl rfl) ?_
        refine K2 (K3 (L9 (K7 (L1 (L1 (L2 (K3 ?_)))))))
        refine c_cut (X := Option Addr × Nat × List Api_entry) (fun y9 => [(0, .pointer (some ⟨z, 0, none⟩)), (6, .int .i64 0), (7, .pointer (some ⟨b7, 0, none⟩))]) (fun y9 w => Own k w [rB r p R.length c, rS p c R, zB z r y9.1 y9.2.2.length y9.2.1, aI y9.1 y9.2.1 y9.2.2, blk b7 55 (Api_entry.cells ⟨id, tk⟩), pool F] ∧ (pushE A L ⟨id, tk⟩ = y9.2.2 ++ [⟨id, tk⟩]) ∧ (y9.2.2.length ≤ 2000000)) ?_ ?_
        · refine K0 ?_
          have he : bk L x.1 = [] := by
            first
              | rw [hy, bk, if_pos (show (at_ L y).Node = -1 from h9_11)]
              | rw [show x.1 = 0 by omega, bk]
          rw [he, List.append_nil] at hx
          have hpl : (pk A L ⟨id, tk⟩ (bk L L.length)).1 ≤ L.length := Nat.le_trans pk_le bk_len
          rw [← hx] at hf ⊢
          refine K1 ?_
          refine l_y rfl rfl (y_move rfl) ?_
          refine Z0 (fun h14_1 => ?_) (fun h14_1 => ?_)
          · refine K2 (K3 (L8 (K1 ?_)))
            refine l_y rfl rfl (y_move rfl) ?_
            refine l_y rfl rfl (y_move rfl) ?_
            have hlt : (pk A L ⟨id, tk⟩ (bk L L.length)).2 < L.length := bk_lt (pk_mem (by omega))
            refine CK [.b z, .p q] hO (by rw [hf (by omega)]; rfl) (fun k' hx hr hO' => zremove_spec hlt hgq hlq hl (hO := hO')) ?_
            rintro _ _ w ⟨rfl, rfl⟩ hO
            simp only [List.cons_append, List.nil_append] at hO
            obtain ⟨q2, d2, L2, hO, hpu, hl2⟩ : ∃ (q2 : Option Addr) (d2 : Nat) (L2 : List Api_entry), Own k w [rB r p R.length c, rS p c R, zB z r q2 L2.length d2, aI q2 d2 L2, blk b7 55 (Api_entry.cells ⟨id, tk⟩), pool F] ∧ pushE A L ⟨id, tk⟩ = L2 ++ [⟨id, tk⟩] ∧ L2.length ≤ 2000000 := by
              obtain ⟨q2, d2, hg2, hlc2, hO⟩ := ralL_open (hO.ks [.o z])
              exact ⟨q2, d2, _, hO.only [.b r, .p p, .b z, .p q2, .b b7, .f], by rw [pushE, if_pos (by omega)], by simp [cutE]; omega⟩
            refine K2 ?_
            exact q_cut ((q2, d2, L2)) ⟨rfl, rfl, rfl, trivial⟩ ⟨hO.only [.b r, .p p, .b z, .p q2, .b b7, .f], hpu, hl2⟩
          · obtain ⟨q2, d2, L2, hO, hpu, hl2⟩ : ∃ (q2 : Option Addr) (d2 : Nat) (L2 : List Api_entry), Own k w [rB r p R.length c, rS p c R, zB z r q2 L2.length d2, aI q2 d2 L2, blk b7 55 (Api_entry.cells ⟨id, tk⟩), pool F] ∧ pushE A L ⟨id, tk⟩ = L2 ++ [⟨id, tk⟩] ∧ L2.length ≤ 2000000 := ⟨q, d, L, hO.only [.b r, .p p, .b z, .p q, .b b7, .f], by rw [pushE, if_neg (by omega)], hl⟩
            refine K2 (K3 (L9 (K5 ?_)))
            exact q_cut ((q2, d2, L2)) ⟨rfl, rfl, rfl, trivial⟩ ⟨hO.only [.b r, .p p, .b z, .p q2, .b b7, .f], hpu, hl2⟩
        · rintro y9 w ⟨hO, hz, hzl⟩
          refine K0 ?_
          refine da_region (by intro c a d v w h; cases d <;> exact h) ?_
          have hO := hO.drew
          refine da_phase _ [7] (SO.ks [.b z, .b b7] hO) ?_
          refine dx_u 0 (by kernel_rfl) rfl rfl rfl (fun w => y_move rfl) ?_
          refine dx_u 1 (by kernel_rfl) rfl rfl rfl (fun w => y_move rfl) ?_
          refine dx_u 2 (by kernel_rfl) rfl rfl rfl (fun w => y_nilCheck rfl rfl) ?_
          refine dx_u 3 (by kernel_rfl) rfl rfl rfl (fun w => y_fldb (o' := 1) rfl) ?_
          refine dx_y 4 (by kernel_rfl) rfl rfl rfl (fun w ⟨m, hw⟩ => D5 hw rfl) ?_
          refine dx_y 5 (by kernel_rfl) rfl rfl rfl (fun w ⟨m, hw⟩ => D8 (cs := [.int .i64 id, .int .i64 tk.Kind, .string tk.Name, .string tk.Data, .string tk.System, .int .i64 tk.Has, .bool tk.Quirks, .int .i32 tk.Char, .bool tk.Self, .slice tk.AttrsP tk.Attrs.length tk.AttrsC]) hw rfl) ?_
          refine dx_only 6 (by kernel_rfl) rfl rfl ?_
          refine s_lit (parts := [(0, .tmp 69)]) (enc := Api_entry.cells) [⟨id, ⟨tk.Kind, tk.Name, tk.Data, tk.System, tk.Has, tk.Quirks, tk.Char, tk.Self, tk.AttrsP, tk.Attrs, tk.AttrsC⟩⟩] [.agg [.int .i64 id, .int .i64 tk.Kind, .string tk.Name, .string tk.Data, .string tk.System, .int .i64 tk.Has, .bool tk.Quirks, .int .i32 tk.Char, .bool tk.Self, .slice tk.AttrsP tk.Attrs.length tk.AttrsC].toArray] hO rfl (fun b70 w hO => ?_)
          refine o_done ?_
          refine ⟨SO.ks [.b z, .b b7] hO, ?_⟩
          refine dx_close 7 (by kernel_rfl) rfl rfl ?_
          refine s_app hO rfl rfl (src_own hO) (fun p71 c71 w hO gs71 => ?_)
          refine o_done ?_
          refine da_phase _ [10] (SO.ks [] hO) ?_
          refine dx_u 8 (by kernel_rfl) rfl rfl rfl (fun w => y_nilCheck rfl rfl) ?_
          refine dx_u 9 (by kernel_rfl) rfl rfl rfl (fun w => y_fldb (o' := 1) rfl) ?_
          refine dx_close 10 (by kernel_rfl) rfl rfl ?_
          refine Y1 hO rfl rfl (fun w hO => ?_)
          simp only [List.set_cons_zero, List.set_cons_succ] at hO
          refine o_done ?_
          refine da_end (by kernel_rfl) ?_
          refine K3 (K0 (K1 ?_))
          refine l_y rfl rfl (y_assign rfl) ?_
          refine K2 (K3 (K6 ?_))
          rw [e0, if_pos rfl, hz]
          exact fin1 rfl rfl ⟨_, ⟨rfl, rfl⟩, ((rarL_shut hF ((ralL_shut (hO.ks [.b z, .p p71]) rfl).ks [.b r, .p p, .f])).ks [.o r, .o z]).two⟩
end
end Go.Proofs.YtoohapbaelmkcaaGreat
end
section
set_option linter.unusedVariables false
set_option linter.unusedSimpArgs false
set_option maxRecDepth 100000
namespace Go.Proofs.YtoohapbaelmkcaaGreat
open Go Go.Hb Go.RowKit
structure PlI (k : Ctx) (A : List Node_one) (L : List Api_entry) : Prop where
  pw : L.Pairwise fun x y => x.Node = y.Node → y.Node = -1
  ent : ∀ e ∈ L, e.Node = -1 ∨ elB A e.Node = true
  eok : ∀ e ∈ L, EOk k e
section
variable {k : Ctx} {w : World} {A : List Node_one} {L M : List Api_entry} {e : Api_entry} {id : Int}
theorem PlI.dist (h : PlI k A L) : DistN L := fun i j hij hj he => by
  have h1 := List.pairwise_iff_getElem.1 h.pw i j (by omega) hj hij
  have e1 : at_ L i = L[i]'(by omega) := at_eq (List.getElem?_eq_getElem (by omega))
  have e2 : at_ L j = L[j] := at_eq (List.getElem?_eq_getElem hj)
  rw [e1, e2] at he
  rw [e2]
  exact h1 he
theorem PlI.sub (h : PlI k A L) (hs : M.Sublist L) : PlI k A M := ⟨h.pw.sublist hs, fun e he => h.ent e (hs.subset he), fun e he => h.eok e (hs.subset he)⟩
/-- one of a new node is put among them -/
theorem PlI.put {u v : List Api_entry} (h : PlI k A (u ++ v)) (he : elB A e.Node = true) (hf : ∀ y ∈ u ++ v, y.Node ≠ e.Node) (ho : EOk k e) : PlI k A (u ++ [e] ++ v) := by
  obtain ⟨h1, h2, h3⟩ := List.pairwise_append.1 h.pw
  have hm : ∀ y ∈ u ++ [e] ++ v, y ∈ u ++ v ∨ y = e := fun y hy => by
    simp only [List.mem_append, List.mem_singleton] at hy ⊢
    rcases hy with (hy | hy) | hy
    · exact .inl (.inl hy)
    · exact .inr hy
    · exact .inl (.inr hy)
  refine ⟨List.pairwise_append.2 ⟨List.pairwise_append.2 ⟨h1, List.pairwise_singleton _ _, fun x hx y hy hxy => ?_⟩, h2, fun x hx y hy hxy => ?_⟩, fun y hy => ?_, fun y hy => ?_⟩
  · rw [List.mem_singleton.1 hy] at hxy
    exact absurd hxy (hf x (List.mem_append_left _ hx))
  · rcases List.mem_append.1 hx with hx | hx
    · exact h3 x hx y hy hxy
    · rw [List.mem_singleton.1 hx] at hxy
      exact absurd hxy.symm (hf y (List.mem_append_right _ hy))
  · rcases hm y hy with hy | rfl
    · exact h.ent y hy
    · exact .inr he
  · rcases hm y hy with hy | rfl
    · exact h.eok y hy
    · exact ho
theorem cutE_sub {i : Nat} : (cutE L i).Sublist L := by
  have h := List.Sublist.append (List.Sublist.refl (L.take i)) (List.drop_sublist_drop_left L (Nat.le_succ i))
  rwa [List.take_append_drop] at h
theorem fresh_ne (h0 : freshF A L id = 0) : elB A id = true ∧ ∀ y ∈ L, y.Node ≠ id := by
  rcases freshF_cases A L id with ⟨h, _⟩ | ⟨h, _⟩ | ⟨_, h1, h2⟩
  · omega
  · omega
  · refine ⟨h1, fun y hy e => ?_⟩
    have hid := hasB_true (elB_has h1)
    rw [findE, if_neg (by omega)] at h2
    rcases idx_cases (fun y : Api_entry => decide (y.Node = id)) L with ⟨_, h3⟩ | ⟨i, h3, _⟩
    · obtain ⟨j, hj, rfl⟩ := mem_at hy
      exact absurd (h3 j hj) (by simp [e])
    · omega
theorem PlI.push (h : PlI k A L) (h0 : freshF A L e.Node = 0) (ho : EOk k e) : PlI k A (pushE A L e) ∧ (pushE A L e).length ≤ L.length + 1 := by
  obtain ⟨he, hf⟩ := fresh_ne h0
  obtain ⟨M, hM⟩ : ∃ M, M = if 3 ≤ (pk A L e (bk L L.length)).1 then cutE L (pk A L e (bk L L.length)).2 else L := ⟨_, rfl⟩
  have hP : pushE A L e = M ++ [e] := by rw [pushE, ← hM]
  have hs : M.Sublist L := by rw [hM]; split; exact cutE_sub; exact List.Sublist.refl _
  rw [hP]
  have h1 := (h.sub hs)
  have h2 : PlI k A (M ++ ([] : List Api_entry)) := by rw [List.append_nil]; exact h1
  have h3 := h2.put he (fun y hy => hf y (hs.subset (by simpa using hy))) ho
  rw [List.append_nil] at h3
  exact ⟨h3, by have := hs.length_le; simp; omega⟩
theorem PlI.putE {i : Int} (h : PlI k A L) (ho : EOk k e) : PlI k A (putE A L i e).2 ∧ (putE A L i e).2.length ≤ L.length + 1 := by
  unfold Proofs.YtoohapbaelmkcaaGreat.putE
  split
  · exact ⟨h, by simp⟩
  · next h0 =>
    split
    · exact ⟨h, by simp⟩
    · next hi =>
      obtain ⟨he, hf⟩ := fresh_ne (A := A) (L := L) (id := e.Node) (by simpa using h0)
      refine ⟨PlI.put (by rw [List.take_append_drop]; exact h) he (fun y hy => hf y (by rw [List.take_append_drop] at hy; exact hy)) ho, ?_⟩
      simp only [List.length_append, List.length_take, List.length_drop, List.length_singleton]; omega
theorem PlI.swapE {old : Int} (h : PlI k A L) : PlI k A (swapE A L old id).2 ∧ (swapE A L old id).2.length ≤ L.length + 1 := by
  unfold Proofs.YtoohapbaelmkcaaGreat.swapE
  split
  · exact ⟨h, by simp⟩
  · next h9 =>
    split
    · next h0 =>
      refine ⟨?_, by simp⟩
      obtain ⟨he, hf⟩ := fresh_ne h0
      obtain ⟨i, hi, hfl⟩ : ∃ i : Nat, findE L old = i ∧ i < L.length := by
        rcases findE_cases L old with h | ⟨i, h1, h2, _⟩
        · omega
        · exact ⟨i, h1, h2⟩
      have e1 : L.set i { at_ L i with Node := id } = L.take i ++ [{ at_ L i with Node := id }] ++ L.drop (i + 1) := by
        rw [List.set_eq_take_append_cons_drop, if_pos hfl]; simp
      show PlI k A (L.set (findE L old).toNat _)
      rw [hi]
      show PlI k A (L.set i { at_ L i with Node := id })
      rw [e1]
      exact PlI.put (h.sub cutE_sub) he (fun y hy => hf y (cutE_sub.subset hy)) ((h.eok (at_ L i) (at_mem hfl)))
    · exact ⟨h, by simp⟩
end
end Go.Proofs.YtoohapbaelmkcaaGreat
end
section
set_option linter.unusedVariables false
set_option linter.unusedSimpArgs false
set_option maxRecDepth 100000
namespace Go.Proofs.YtoohapbaelmkcaaGreat
open Go Go.Hb Go.RowKit
abbrev agB (g a s l : Nat) (nm : ByteArray) (fo : Bool) (errs mark : Int) : HP := blk g 82 [.pointer (some ⟨a, 0, none⟩), .pointer (some ⟨s, 0, none⟩), .pointer (some ⟨l, 0, none⟩), .string nm, .bool fo, .int .i64 errs, .int .i64 mark]
def forgetF (L : List Api_entry) (mark id : Int) : List Api_entry × Int :=
  if findE L id < 0 then (L, mark) else if (removeE L id).1 = 0 ∧ findE L id < mark then ((removeE L id).2, mark - 1) else ((removeE L id).2, mark)
def furthF (A : List Node_one) (st : List Int) (f : Int) : Int := ((st.drop (findI st f + 1).toNat).find? (specA A)).getD (-1)
section
variable {k : Ctx} {w : World} {g a s l : Nat} {nm : ByteArray} {fo : Bool} {errs mark : Int} {A : List Node_one} {st : List Int} {L : List Api_entry}
set_option maxHeartbeats 1000000 in
theorem forget_spec {id : Int} (hm : -1000000000 ≤ mark ∧ mark ≤ 1000000000) (hl : L.length ≤ 2000000) (hO : Own k w [agB g a s l nm fo errs mark, actL l a L]) :
    Tri Tryz.prog 77 #[.pointer (some ⟨g, 0, none⟩), .int .i64 id] k w fun v m => m = [agB g a s l nm fo errs (forgetF L mark id).2, actL l a (forgetF L mark id).1] := by
  refine enter (args := [.pointer (some ⟨g, 0, none⟩), .int .i64 id]) Tryz.func77 rfl rfl ?_
  refine K0 (K1 ?_)
  refine l_y rfl rfl (y_move rfl) ?_
  refine l_y rfl rfl (y_nilCheck rfl rfl) ?_
  refine l_y rfl rfl (y_fldb (o' := 2) rfl) ?_
  refine l_y rfl rfl (D5 hO rfl) ?_
  refine l_y rfl rfl (y_move rfl) ?_
  refine CK [.o l] hO rfl (fun k' hx hr hO' => aFind_spec hl (hO := hO')) ?_
  rintro _ _ w ⟨rfl, rfl⟩ hO
  simp only [List.cons_append, List.nil_append] at hO
  refine l_y rfl rfl (y_assign rfl) ?_
  refine K2 (K3 (K0 (K1 ?_)))
  refine l_y rfl rfl (y_move rfl) ?_
  refine Z0 (fun h1_1 => ?_) (fun h1_1 => ?_)
  · refine l_y rfl rfl (y_move rfl) ?_
    refine l_y rfl rfl (y_move rfl) ?_
    refine l_y rfl rfl (y_nilCheck rfl rfl) ?_
    refine l_y rfl rfl (y_fldb (o' := 2) rfl) ?_
    refine l_y rfl rfl (D5 hO rfl) ?_
    refine l_y rfl rfl (y_move rfl) ?_
    refine CK [.o l] hO rfl (fun k' hx hr hO' => aRemove_spec (id := id) hl (hO := hO')) ?_
    rintro _ _ w ⟨rfl, rfl⟩ hO
    simp only [List.cons_append, List.nil_append] at hO
    refine Z0 (fun h1_9 => ?_) (fun h1_9 => ?_)
    · refine l_y rfl rfl (y_pick_t rfl rfl) ?_
      refine l_y rfl rfl (y_move rfl) ?_
      refine l_y rfl rfl (y_move rfl) ?_
      refine l_y rfl rfl (y_move rfl) ?_
      refine l_y rfl rfl (y_nilCheck rfl rfl) ?_
      refine l_y rfl rfl (y_fldb (o' := 6) rfl) ?_
      refine l_y rfl rfl (D5 hO rfl) ?_
      refine Z0 (fun h1_17 => ?_) (fun h1_17 => ?_)
      · refine l_y rfl rfl (y_pick_t rfl rfl) ?_
        refine K2 (K3 (L8 (K1 ?_)))
        refine l_y rfl rfl (y_move rfl) ?_
        refine l_y rfl rfl (y_nilCheck rfl rfl) ?_
        refine l_y rfl rfl (y_fldb (o' := 6) rfl) ?_
        refine l_y rfl rfl (D5 hO rfl) ?_
        refine l_y rfl rfl (D4) ?_
        refine l_y rfl rfl (y_nilCheck rfl rfl) ?_
        refine l_y rfl rfl (y_fldb (o' := 6) rfl) ?_
        refine Y1 hO rfl rfl (fun w hO => ?_)
        simp only [List.set_cons_zero, List.set_cons_succ] at hO
        refine K2 ?_
        first
          | (have e : forgetF L mark id = ((removeE L id).2, mark - 1) := by rw [forgetF, if_neg (by omega), if_pos ⟨by omega, by omega⟩]
             rw [e]; exact fin0 rfl ⟨_, rfl, (hO.ks [.b g, .o l])⟩)
          | (have e : forgetF L mark id = (L, mark) := by rw [forgetF, if_pos (by omega)]
             rw [e]; exact fin0 rfl ⟨_, rfl, (hO.ks [.b g, .o l])⟩)
          | (have e : forgetF L mark id = ((removeE L id).2, mark) := by rw [forgetF, if_neg (by omega), if_neg (by omega)]
             rw [e]; exact fin0 rfl ⟨_, rfl, (hO.ks [.b g, .o l])⟩)
      · refine l_y rfl rfl (y_pick_t rfl rfl) ?_
        refine K2 (K3 (L9 (K5 ?_)))
        first
          | (have e : forgetF L mark id = ((removeE L id).2, mark - 1) := by rw [forgetF, if_neg (by omega), if_pos ⟨by omega, by omega⟩]
             rw [e]; exact fin0 rfl ⟨_, rfl, (hO.ks [.b g, .o l])⟩)
          | (have e : forgetF L mark id = (L, mark) := by rw [forgetF, if_pos (by omega)]
             rw [e]; exact fin0 rfl ⟨_, rfl, (hO.ks [.b g, .o l])⟩)
          | (have e : forgetF L mark id = ((removeE L id).2, mark) := by rw [forgetF, if_neg (by omega), if_neg (by omega)]
             rw [e]; exact fin0 rfl ⟨_, rfl, (hO.ks [.b g, .o l])⟩)
    · refine l_y rfl rfl (y_pick_t rfl rfl) ?_
      refine l_y rfl rfl (y_move rfl) ?_
      repeat refine M2 ?_
      refine l_y rfl rfl (y_pick_f rfl rfl) ?_
      refine K2 (K3 (L9 (K5 ?_)))
      first
        | (have e : forgetF L mark id = ((removeE L id).2, mark - 1) := by rw [forgetF, if_neg (by omega), if_pos ⟨by omega, by omega⟩]
           rw [e]; exact fin0 rfl ⟨_, rfl, (hO.ks [.b g, .o l])⟩)
        | (have e : forgetF L mark id = (L, mark) := by rw [forgetF, if_pos (by omega)]
           rw [e]; exact fin0 rfl ⟨_, rfl, (hO.ks [.b g, .o l])⟩)
        | (have e : forgetF L mark id = ((removeE L id).2, mark) := by rw [forgetF, if_neg (by omega), if_neg (by omega)]
           rw [e]; exact fin0 rfl ⟨_, rfl, (hO.ks [.b g, .o l])⟩)
  · refine l_y rfl rfl (y_move rfl) ?_
    repeat refine M2 ?_
    refine l_y rfl rfl (y_pick_f rfl rfl) ?_
    refine l_y rfl rfl (y_move rfl) ?_
    repeat refine M2 ?_
    refine l_y rfl rfl (y_pick_f rfl rfl) ?_
    refine K2 (K3 (L9 (K5 ?_)))
    first
      | (have e : forgetF L mark id = ((removeE L id).2, mark - 1) := by rw [forgetF, if_neg (by omega), if_pos ⟨by omega, by omega⟩]
         rw [e]; exact fin0 rfl ⟨_, rfl, (hO.ks [.b g, .o l])⟩)
      | (have e : forgetF L mark id = (L, mark) := by rw [forgetF, if_pos (by omega)]
         rw [e]; exact fin0 rfl ⟨_, rfl, (hO.ks [.b g, .o l])⟩)
      | (have e : forgetF L mark id = ((removeE L id).2, mark) := by rw [forgetF, if_neg (by omega), if_neg (by omega)]
         rw [e]; exact fin0 rfl ⟨_, rfl, (hO.ks [.b g, .o l])⟩)
set_option maxHeartbeats 1000000 in
theorem furthest_spec {f : Int} (hn : 0 < A.length) (ha : AttrsOk A) (hl : st.length ≤ 1000000) (hO : Own k w [agB g a s l nm fo errs mark, arenaL a A, stkL s a st]) :
    Tri Tryz.prog 76 #[.pointer (some ⟨g, 0, none⟩), .int .i64 f] k w fun v m => v = .int .i64 (furthF A st f) ∧ m = [agB g a s l nm fo errs mark, arenaL a A, stkL s a st] := by
  refine enter (args := [.pointer (some ⟨g, 0, none⟩), .int .i64 f]) Tryz.func76 rfl rfl ?_
  have hfb := @findI_lt st f
  have hfg := @findI_ge st f
  refine K0 (K1 ?_)
  refine l_y rfl rfl (y_assign rfl) ?_
  refine K2 (K3 (K0 (K0 (K1 ?_))))
  refine l_y rfl rfl (y_move rfl) ?_
  refine l_y rfl rfl (y_nilCheck rfl rfl) ?_
  refine l_y rfl rfl (y_fldb (o' := 1) rfl) ?_
  refine l_y rfl rfl (D5 hO rfl) ?_
  refine l_y rfl rfl (y_move rfl) ?_
  refine CK [.o s] hO rfl (fun k' hx hr hO' => sFindC_spec hl (hO := hO')) ?_
  rintro _ _ w ⟨rfl, rfl⟩ hO
  simp only [List.cons_append, List.nil_append] at hO
  refine l_y rfl rfl (D4) ?_
  refine l_y rfl rfl (y_assign rfl) ?_
  refine K2 (K3 (K4 ?_))
  refine c_rounds (X := Int) (fun i => [(0, .pointer (some ⟨g, 0, none⟩)), (4, .int .i64 0), (5, .int .i64 i)]) (fun i w => Own k w [agB g a s l nm fo errs mark, arenaL a A, stkL s a st] ∧ (0 ≤ i ∧ i ≤ st.length) ∧ (furthF A st f = ((st.drop i.toNat).find? (specA A)).getD (-1))) (fun i => st.length - i.toNat) (findI st f + 1) ⟨rfl, rfl, rfl, trivial⟩ ⟨hO.only [.b g, .o a, .o s], by omega, rfl⟩ ?_
  rintro i w m hm ⟨hO, hi, hf⟩
  refine K0 (K0 (K1 ?_))
  refine l_y rfl rfl (y_move rfl) ?_
  refine l_y rfl rfl (y_move rfl) ?_
  refine l_y rfl rfl (y_nilCheck rfl rfl) ?_
  refine l_y rfl rfl (y_fldb (o' := 1) rfl) ?_
  refine l_y rfl rfl (D5 hO rfl) ?_
  refine CK [.o s] hO rfl (fun k' hx hr hO' => sLenC_spec (hO := hO')) ?_
  rintro _ _ w ⟨rfl, rfl⟩ hO
  simp only [List.cons_append, List.nil_append] at hO
  refine Z0 (fun h2_6 => ?_) (fun h2_6 => ?_)
  · refine K2 (K3 (L8 (K5 (K3 (K0 (K4 (K0 ?_)))))))
    have hdr : st.drop i.toNat = at_ st i.toNat :: st.drop (i.toNat + 1) := Go.Hb.drop_at (by omega)
    have hat : atI st i = at_ st i.toNat := by rw [atI, if_neg (by omega)]
    refine da_region (by intro c a d v w h; cases d <;> exact h) ?_
    have hO := hO.drew
    refine da_phase _ [10] (SO.ks [.b g] hO) ?_
    refine dx_u 0 (by kernel_rfl) rfl rfl rfl (fun w => y_move rfl) ?_
    refine dx_u 1 (by kernel_rfl) rfl rfl rfl (fun w => y_nilCheck rfl rfl) ?_
    refine dx_u 2 (by kernel_rfl) rfl rfl rfl (fun w => y_fldb (o' := 1) rfl) ?_
    refine dx_y 3 (by kernel_rfl) rfl rfl rfl (fun w ⟨m, hw⟩ => D5 hw rfl) ?_
    refine dx_u 4 (by kernel_rfl) rfl rfl rfl (fun w => y_move rfl) ?_
    refine dx_u 5 (by kernel_rfl) rfl rfl rfl (fun w => y_nilCheck rfl rfl) ?_
    refine dx_u 6 (by kernel_rfl) rfl rfl rfl (fun w => y_fldb (o' := 1) rfl) ?_
    refine dx_y 7 (by kernel_rfl) rfl rfl rfl (fun w ⟨m, hw⟩ => D5 hw rfl) ?_
    refine dx_u 8 (by kernel_rfl) rfl rfl rfl (fun w => y_move rfl) ?_
    refine dx_only 9 (by kernel_rfl) rfl rfl ?_
    refine CK [.o s] hO rfl (fun k' hx hr hO' => sAtC_spec hl (hO := hO')) ?_
    rintro _ _ w ⟨rfl, rfl⟩ hO
    simp only [List.cons_append, List.nil_append] at hO
    refine o_done ?_
    refine ⟨SO.ks [.b g] hO, ?_⟩
    refine dx_close 10 (by kernel_rfl) rfl rfl ?_
    refine CK [.o a, .o s] hO rfl (fun k' hx hr hO' => sSpecial_spec hn ha (hO := hO')) ?_
    rintro _ _ w ⟨rfl, rfl⟩ hO
    simp only [List.cons_append, List.nil_append] at hO
    rw [hat]
    refine o_done ?_
    refine da_end (by kernel_rfl) ?_
    refine K3 ?_
    refine c_split rfl (fun hc32 => ?_) (fun hc32 => ?_)
    · refine K0 (K1 ?_)
      refine l_y rfl rfl (y_move rfl) ?_
      refine l_y rfl rfl (y_nilCheck rfl rfl) ?_
      refine l_y rfl rfl (y_fldb (o' := 1) rfl) ?_
      refine l_y rfl rfl (D5 hO rfl) ?_
      refine l_y rfl rfl (y_move rfl) ?_
      refine CK [.o s] hO rfl (fun k' hx hr hO' => sAtC_spec hl (hO := hO')) ?_
      rintro _ _ w ⟨rfl, rfl⟩ hO
      simp only [List.cons_append, List.nil_append] at hO
      rw [hat]
      refine l_y rfl rfl (y_assign rfl) ?_
      refine K2 (K3 (K6 (L0 (K9 (K9 (L0 (K9 ?_)))))))
      exact fin1 rfl rfl ⟨_, ⟨by rw [hf, hdr, List.find?_cons, hc32]; rfl, rfl⟩, hO.ks [.b g, .o a, .o s]⟩
    · refine K5 (K8 (K3 (K1 ?_)))
      refine l_y rfl rfl (y_move rfl) ?_
      refine l_y rfl rfl (D4) ?_
      refine l_y rfl rfl (y_assign rfl) ?_
      refine K2 ?_
      exact q_next (i + 1) ⟨rfl, rfl, rfl, trivial⟩ ⟨hO.only [.b g, .o a, .o s], by omega, by rw [hf, hdr, List.find?_cons, hc32]; rw [show (i + 1).toNat = i.toNat + 1 by omega]⟩ (by omega)
  · refine K2 (K3 (L9 (K7 (L1 (L1 (L2 (K3 (K0 (K1 ?_)))))))))
    refine l_y rfl rfl (y_assign rfl) ?_
    refine K2 (K3 (K6 ?_))
    exact fin1 rfl rfl ⟨_, ⟨by rw [hf, List.drop_eq_nil_of_le (by omega)]; rfl, rfl⟩, hO.ks [.b g, .o a, .o s]⟩
end
end Go.Proofs.YtoohapbaelmkcaaGreat
end
section
set_option linter.unusedVariables false
set_option linter.unusedSimpArgs false
set_option maxRecDepth 100000
namespace Go.Proofs.YtoohapbaelmkcaaGreat
open Go Go.Hb Go.RowKit
noncomputable def befF (A : List Node_one) (want before : Int) : Int := if before ≠ -1 ∧ (nodeA A before).Parent ≠ want then -1 else before
noncomputable def putF (A : List Node_one) (s : Api_spot) (id : Int) : List Node_one := (linkL (unlinkL A id).2 s.Parent id (befF (unlinkL A id).2 s.Parent s.Before)).2
section
variable {A B : List Node_one} {K : Int → List Int} {s : Api_spot} {id : Int} {nm : ByteArray} {q : Option Addr} {d : Nat}
theorem putF_len : (putF A s id).length = A.length := by rw [putF, linkL_len, unlinkL_len]
theorem putF_core (t : Tree A K) {y : Int} (hy : 0 ≤ y) : coreN (at_ (putF A s id) y.toNat) = coreN (at_ A y.toNat) :=
  (linkL_core (t.unlinkS id) hy).trans (unlink_core t id y hy)
theorem putF_tree (t : Tree A K) : ∃ K', Tree (putF A s id) K' := ⟨_, (t.unlinkS id).linkS _ _ _⟩
theorem Tree.el (t : Tree A K) (nm : ByteArray) (q : Option Addr) (d : Nat) : ∃ K', Tree (elementL A 0 nm [] q d).2.2 K' := by
  rcases el_form A 0 nm q d with ⟨e, _, h⟩ | ⟨_, _, _, _, ⟨ht, h⟩ | ⟨ht, h⟩⟩ <;> rw [h]
  · exact ⟨K, t⟩
  · have t1 := t.add (elementN q d 0 nm []) (Nat.zero_le _)
    have t2 := t1.add fragmentN (Nat.zero_le _)
    have i1 : InA (A ++ [blankN (elementN q d 0 nm [])]) (A.length : Int) := inA_new.2 (.inr rfl)
    have id2 : InA (A ++ [blankN (elementN q d 0 nm [])] ++ [blankN fragmentN]) (A.length : Int) := inA_new.2 (.inl i1)
    have if2 : InA (A ++ [blankN (elementN q d 0 nm [])] ++ [blankN fragmentN]) ((A ++ [blankN (elementN q d 0 nm [])]).length : Int) := inA_new.2 (.inr rfl)
    have e1 : at_ (A ++ [blankN (elementN q d 0 nm [])] ++ [blankN fragmentN]) ((A.length : Int)).toNat = blankN (elementN q d 0 nm []) := by rw [at_old i1, at_new]
    have e2 : at_ (A ++ [blankN (elementN q d 0 nm [])] ++ [blankN fragmentN]) (((A ++ [blankN (elementN q d 0 nm [])]).length : Int)).toNat = blankN fragmentN := at_new
    have hl1 : (A ++ [blankN (elementN q d 0 nm [])]).length = A.length + 1 := by simp
    exact ⟨_, t2.hosted id2 if2 (by rw [nodeA, e2]; rfl) (by rw [e2]; rfl) (fun hA => by
      have hA := (anc_ne (by omega) (by omega)).1 hA
      have : nextUp (A ++ [blankN (elementN q d 0 nm [])] ++ [blankN fragmentN]) (A.length : Int) = -1 := by rw [nextUp, e1]; rfl
      rw [this] at hA
      have := anc_none hA
      omega)⟩
  · exact ⟨_, t.add _ (Nat.zero_le _)⟩
structure AI (A : List Node_one) : Prop where
  tree : ∃ K, Tree A K
  pos : 0 < A.length
  wi : WI A
theorem AI.attrs (h : AI A) : AttrsOk A := by obtain ⟨K, t⟩ := h.tree; exact t.attrs
theorem AI.new : AI [docD] := ⟨⟨_, Tree.new⟩, by decide, WI.new⟩
theorem AI.put (h : AI A) (s : Api_spot) (id : Int) : AI (putF A s id) := by
  obtain ⟨K, t⟩ := h.tree
  exact ⟨putF_tree t, by rw [putF_len]; exact h.pos, h.wi.core putF_len fun y hy => putF_core t hy⟩
/-- B holds what A held -/
structure Keeps (A B : List Node_one) : Prop where
  len : A.length ≤ B.length
  el : ∀ x : Int, elB A x = true → elB B x = true ∧ (nodeA B x).Name = (nodeA A x).Name
theorem Keeps.refl : Keeps A A := ⟨Nat.le_refl _, fun x h => ⟨h, rfl⟩⟩
theorem Keeps.trans {C : List Node_one} (h : Keeps A B) (g : Keeps B C) : Keeps A C := ⟨Nat.le_trans h.len g.len, fun x hx => by
  have h1 := h.el x hx
  have h2 := g.el x h1.1
  exact ⟨h2.1, h2.2.trans h1.2⟩⟩
theorem AI.keeps (h : AI A) (s : Api_spot) (id : Int) : Keeps A (putF A s id) := by
  obtain ⟨K, t⟩ := h.tree
  refine ⟨by rw [putF_len]; exact Nat.le_refl _, fun x hx => ?_⟩
  have hb := hasB_true (elB_has hx)
  exact ⟨by rw [elB_core putF_len (fun y hy => putF_core t hy)]; exact hx, core_name (putF_core t (by omega))⟩
theorem InA.keeps {x : Int} (h : InA A x) (g : Keeps A B) : InA B x := ⟨h.1, by have := h.2; have := g.len; omega⟩
structure ElOk (A : List Node_one) (nm : ByteArray) (q : Option Addr) (d : Nat) : Prop where
  id : (elementL A 0 nm [] q d).1 = A.length
  ok : (elementL A 0 nm [] q d).2.1 = 0
  ai : AI (elementL A 0 nm [] q d).2.2
  el : elB (elementL A 0 nm [] q d).2.2 (A.length : Int) = true
  name : (nodeA (elementL A 0 nm [] q d).2.2 (A.length : Int)).Name = nm
  lt : A.length < (elementL A 0 nm [] q d).2.2.length
  le : (elementL A 0 nm [] q d).2.2.length ≤ A.length + 2
  keeps : Keeps A (elementL A 0 nm [] q d).2.2
theorem AI.el (h : AI A) (hl : A.length ≤ 32766) (hs : nm.size ≤ 1048576) (q : Option Addr) (d : Nat) : ElOk A nm q d := by
  have h0 : (elementL A 0 nm [] q d).2.1 = 0 := by
    have h2 : longB (nm :: attrTexts []) = false := by simp [longB, attrTexts]; omega
    unfold elementL
    rw [if_neg (by omega), if_neg (by simp), if_neg (fun h1 => by have := h1.2; omega), if_neg (by rw [h2]; simp), if_neg (by omega)]
    split <;> rfl
  rcases el_form A 0 nm q d with ⟨e, he, h1⟩ | ⟨_, _, hid, _, hf⟩
  · rw [h1] at h0; exact absurd h0 he
  have hlt : A.length < (elementL A 0 nm [] q d).2.2.length := by
    rcases hf with ⟨_, h1⟩ | ⟨_, h1⟩ <;> rw [h1]
    · simp only [setHost, setInner, List.length_set, List.length_append, List.length_cons, List.length_nil]; omega
    · simp
  have hel : (at_ (elementL A 0 nm [] q d).2.2 A.length).Node.Kind = 1 ∧ (at_ (elementL A 0 nm [] q d).2.2 A.length).Node.Name = nm := by
    rcases hf with ⟨_, h1⟩ | ⟨_, h1⟩ <;> rw [h1]
    · have e1 : (((A.length : Nat) : Int)).toNat = A.length := by omega
      have e2 : (((A ++ [blankN (elementN q d 0 nm [])]).length : Nat) : Int).toNat = A.length + 1 := by simp
      rw [setHost, e2, at_set_ne (by omega), setInner, e1, at_set_eq (by simp), at_app_l (by simp), at_app_new]
      exact ⟨rfl, rfl⟩
    · rw [at_app_new]; exact ⟨rfl, rfl⟩
  obtain ⟨K, t⟩ := h.tree
  refine ⟨hid, h0, ⟨t.el nm q d, by omega, h.wi.el⟩, ?_, ?_, hlt, el_len, ⟨el_lenge, fun x hx => ⟨elB_el hx, ?_⟩⟩⟩
  · rw [elB, hasB, decide_eq_true (by omega), Int.toNat_natCast, hel.1]; rfl
  · rw [nodeA, Int.toNat_natCast]; exact hel.2
  · have hb := hasB_true (elB_has hx)
    rw [nodeA, el_old (by omega)]
end
section
variable {l : List Int} {x f id : Int} {a0 i : Nat} {A B : List Node_one}
theorem findI_of (hn : l.Nodup) (hi : i < l.length) (e : at_ l i = x) : findI l x = i :=
  idx_at hi (decide_eq_true e) fun j hj => decide_eq_false fun e2 => by
    have h1 : l[j]? = some x := by rw [at_get (by omega), e2]
    have h2 : l[i]? = some x := by rw [at_get hi, e]
    have := (List.getElem?_inj (i := j) (by omega) hn).1 (h1.trans h2.symm)
    omega
theorem findI_cases (l : List Int) (x : Int) : (findI l x = -1 ∧ x ∉ l) ∨ ∃ i : Nat, findI l x = i ∧ i < l.length ∧ at_ l i = x := by
  rcases idx_cases (fun y => decide (y = x)) l with ⟨h1, h2⟩ | ⟨i, h1, h2, h3, _⟩
  · exact .inl ⟨h1, fun hx => by
      obtain ⟨j, hj, e⟩ := mem_at hx
      exact absurd (h2 j hj) (by simp [e])⟩
  · exact .inr ⟨i, h1, h2, of_decide_eq_true h3⟩
theorem findI_at (h : findI l x = (i : Int)) : i < l.length ∧ at_ l i = x := by
  rcases findI_cases l x with ⟨h1, _⟩ | ⟨j, h1, h2, h3⟩
  · omega
  · obtain rfl : i = j := by omega
    exact ⟨h2, h3⟩
theorem StkI.keeps (h : StkI A l) (g : Keeps A B) : StkI B l := ⟨fun x hx => (g.el x (h.el x hx)).1, h.nodup⟩
theorem at_cut {j : Nat} (h : j < i) (hi : i ≤ l.length) (m : List Int) : at_ (l.take i ++ m) j = at_ l j := by
  rw [at_app_l (by simp; omega)]
  exact at_eq (by rw [List.getElem?_take_of_lt h, at_get (by omega)])
/-- what stands below a place stays where it is -/
theorem find_remove (hn : l.Nodup) (hf : findI l f = (a0 : Int)) (hi : findI l id = (i : Int)) (h : a0 < i) : findI (removeL l id).2 f = a0 ∧ i ≤ (removeL l id).2.length := by
  obtain ⟨h1, e1⟩ := findI_at hf
  obtain ⟨h2, e2⟩ := findI_at hi
  have e : (removeL l id).2 = l.take i ++ l.drop (i + 1) := by rw [removeL, hi, if_neg (by omega)]; simp
  rw [e]
  refine ⟨findI_of ?_ (by simp; omega) (by rw [at_cut h (by omega)]; exact e1), by simp; omega⟩
  rw [← List.eraseIdx_eq_take_drop_succ]
  exact hn.sublist (List.eraseIdx_sublist ..)
theorem find_swap {tw : Int} (hs : StkI A l) (hf : findI l f = (a0 : Int)) (hi : findI l id = (i : Int)) (h : a0 < i) : findI (swapL A l id tw).2 f = a0 ∧ (swapL A l id tw).2.length = l.length := by
  obtain ⟨h1, e1⟩ := findI_at hf
  obtain ⟨h2, e2⟩ := findI_at hi
  have hs2 := hs.swap (old := id) (id := tw)
  unfold swapL at hs2 ⊢
  split at hs2
  · next c => rw [if_pos c]; exact ⟨hf, rfl⟩
  · next c =>
    rw [if_neg c]
    split at hs2
    · next c2 =>
      rw [if_pos c2]
      dsimp only at hs2 ⊢
      rw [hi] at hs2 ⊢
      have e3 : ((i : Int)).toNat = i := by omega
      rw [e3] at hs2 ⊢
      refine ⟨findI_of hs2.nodup (by simp; omega) ?_, by simp; omega⟩
      rw [List.append_assoc, at_cut h (by omega)]; exact e1
    · next c2 => rw [if_neg c2]; exact ⟨hf, rfl⟩
end
structure LI (A : List Node_one) (L : List Api_entry) : Prop where
  pw : L.Pairwise fun x y => x.Node = y.Node → y.Node = -1
  ent : ∀ e ∈ L, e.Node = -1 ∨ elB A e.Node = true ∧ (nodeA A e.Node).Name = e.Token.Name ∧ e.Token.Name.size ≤ 1048576
  tok : ∀ e ∈ L, e.Token.Attrs = [] ∧ e.Token.AttrsP = none ∧ e.Token.AttrsC = 0
section
variable {A B : List Node_one} {L M : List Api_entry} {id f mark : Int} {i : Nat} {e : Api_entry}
theorem eok_of (k : Ctx) (h : e.Token.Attrs = [] ∧ e.Token.AttrsP = none ∧ e.Token.AttrsC = 0) : EOk k e := by
  obtain ⟨h1, h2, h3⟩ := h
  refine ⟨?_, by rw [h1]; decide⟩
  rw [h1, h2, h3]
  exact Sli.nil rfl
theorem LI.pl (h : LI A L) (k : Ctx) : PlI k A L := ⟨h.pw, fun e he => (h.ent e he).imp (fun h => h) fun h => h.1, fun e he => eok_of k (h.tok e he)⟩
theorem LI.nil : LI A [] := ⟨List.Pairwise.nil, (fun e he => absurd he (by simp)), (fun e he => absurd he (by simp))⟩
theorem LI.sub (h : LI A L) (hs : M.Sublist L) : LI A M := ⟨h.pw.sublist hs, fun e he => h.ent e (hs.subset he), fun e he => h.tok e (hs.subset he)⟩
theorem LI.keeps (h : LI A L) (g : Keeps A B) : LI B L := ⟨h.pw, fun e he => (h.ent e he).imp (fun h => h) fun h => by
  have := g.el _ h.1
  exact ⟨this.1, this.2.trans h.2.1, h.2.2⟩, h.tok⟩
theorem LI.has (h : LI A L) : ∀ e ∈ L, e.Node ≠ -1 → hasB A e.Node = true := fun e he hn => elB_has (((h.ent e he).resolve_left hn).1)
theorem removeE_sub : (removeE L id).2.Sublist L := by
  unfold removeE
  split
  · exact List.Sublist.refl _
  · exact cutE_sub
theorem forget_fst : (forgetF L mark id).1 = (removeE L id).2 := by
  unfold forgetF
  split
  · next h => rw [removeE, if_pos h]
  · split <;> rfl
theorem LI.forget (h : LI A L) : LI A (forgetF L mark id).1 := by rw [forget_fst]; exact h.sub removeE_sub
theorem findE_mem : 0 ≤ findE L f ↔ f ≠ -1 ∧ ∃ e ∈ L, e.Node = f := by
  constructor
  · intro h
    rcases findE_cases L f with h1 | ⟨i, h1, h2, h3, h4⟩
    · omega
    · exact ⟨h4, _, at_mem h2, h3⟩
  · rintro ⟨h1, e, he, h2⟩
    rw [findE, if_neg h1]
    rcases idx_cases (fun y : Api_entry => decide (y.Node = f)) L with ⟨_, h3⟩ | ⟨i, h3, _⟩
    · obtain ⟨j, hj, e2⟩ := mem_at he
      exact absurd (h3 j hj) (by simp [e2, h2])
    · omega
theorem findE_at (h : 0 ≤ findE L f) : (findE L f).toNat < L.length ∧ (at_ L (findE L f).toNat).Node = f ∧ f ≠ -1 := by
  rcases findE_cases L f with h1 | ⟨i, h1, h2, h3, h4⟩
  · omega
  · have : (findE L f).toNat = i := by omega
    rw [this]; exact ⟨h2, h3, h4⟩
theorem mem_cut_ne (hi : i < L.length) (he : e ∈ L) (hne : e.Node ≠ (at_ L i).Node) : e ∈ cutE L i := by
  rw [cutE]
  have h1 : L = L.take i ++ at_ L i :: L.drop (i + 1) := by rw [← Go.Hb.drop_at hi, List.take_append_drop]
  rw [h1] at he
  rcases List.mem_append.1 he with h2 | h2
  · exact List.mem_append_left _ h2
  · rcases List.mem_cons.1 h2 with h3 | h3
    · exact absurd (by rw [h3]) hne
    · exact List.mem_append_right _ h3
/-- another's entry stays -/
theorem find_forget (hf : 0 ≤ findE L f) (hne : f ≠ id) : 0 ≤ findE (forgetF L mark id).1 f := by
  rw [forget_fst]
  obtain ⟨h1, e, he, h2⟩ := findE_mem.1 hf
  refine findE_mem.2 ⟨h1, e, ?_, h2⟩
  unfold removeE
  split
  · exact he
  · next h => exact mem_cut_ne (findE_at (by omega)).1 he (by rw [(findE_at (by omega)).2.1, h2]; exact hne)
/-- what is forgotten is gone -/
theorem find_gone (h : LI A L) : findE (forgetF L mark id).1 id = -1 := by
  rw [forget_fst]
  rcases findE_cases (removeE L id).2 id with h1 | ⟨j, h1, h2, h3, h4⟩
  · exact h1
  exfalso
  unfold removeE at h1 h2 h3
  split at h1
  · next c => dsimp only at h1; omega
  next c =>
  rw [if_neg c] at h2 h3
  dsimp only at h1 h2 h3
  have hi := findE_at (show 0 ≤ findE L id by omega)
  obtain ⟨i, hie⟩ : ∃ i, i = (findE L id).toNat := ⟨_, rfl⟩
  rw [← hie] at hi h2 h3
  have h5 : L = L.take i ++ at_ L i :: L.drop (i + 1) := by rw [← Go.Hb.drop_at hi.1, List.take_append_drop]
  have hp := h.pw
  rw [h5] at hp
  have hm := at_mem (xs := cutE L i) h2
  generalize at_ (cutE L i) j = z at h3 hm
  rw [cutE] at hm
  rcases List.mem_append.1 hm with hm | hm
  · have := (List.pairwise_append.1 hp).2.2 _ hm (at_ L i) (by simp) (by rw [h3, hi.2.1])
    rw [hi.2.1] at this; exact h4 this
  · have := (List.pairwise_cons.1 (List.pairwise_append.1 hp).2.1).1 _ hm (by rw [h3, hi.2.1])
    rw [h3] at this; exact h4 this
theorem forget_mark (hm : 0 ≤ mark ∧ mark ≤ L.length) : 0 ≤ (forgetF L mark id).2 ∧ (forgetF L mark id).2 ≤ (forgetF L mark id).1.length ∧ (forgetF L mark id).1.length ≤ L.length := by
  have hl : (removeE L id).2.length = if findE L id < 0 then L.length else L.length - 1 := by
    unfold removeE
    split
    · rfl
    · next h =>
      have := (findE_at (show 0 ≤ findE L id by omega)).1
      simp [cutE]; omega
  have h1 : ¬ findE L id < 0 → (removeE L id).1 = 0 := fun h => by rw [removeE, if_neg h]
  rcases findE_cases L id with h3 | ⟨i, h3, h4, _⟩ <;> rw [forget_fst, hl] <;> unfold forgetF
  · rw [if_pos (by omega), if_pos (by omega)]; exact ⟨hm.1, hm.2, Nat.le_refl _⟩
  · have hneg : ¬ findE L id < 0 := by omega
    simp only [if_neg hneg]
    split
    · next h5 => dsimp only; omega
    · next h5 => have := h1 (by omega); dsimp only; omega
theorem LI.swap (h : LI A L) (k : Ctx) {old : Int} (hn : 0 ≤ findE L old → elB A id = true → (nodeA A id).Name = (at_ L (findE L old).toNat).Token.Name) : LI A (swapE A L old id).2 := by
  have hp := (h.pl k).swapE (old := old) (id := id)
  refine ⟨hp.1.pw, ?_, ?_⟩ <;> unfold swapE <;> split
  · exact h.ent
  · next c =>
    split
    · next c2 =>
      have c3 := fresh_ne c2
      have hi := findE_at (show 0 ≤ findE L old by omega)
      intro e he
      rcases List.mem_or_eq_of_mem_set he with he | rfl
      · exact h.ent e he
      · have hg := (h.ent _ (at_mem hi.1)).resolve_left (by rw [hi.2.1]; exact hi.2.2)
        exact .inr ⟨c3.1, hn (by omega) c3.1, hg.2.2⟩
    · exact h.ent
  · exact h.tok
  · next c =>
    split
    · next c2 =>
      have hi := findE_at (show 0 ≤ findE L old by omega)
      intro e he
      rcases List.mem_or_eq_of_mem_set he with he | rfl
      · exact h.tok e he
      · have h9 := h.tok (at_ L (findE L old).toNat) (at_mem hi.1)
        exact h9
    · exact h.tok
theorem swapE_len {old : Int} : (swapE A L old id).2.length = L.length := by unfold swapE; repeat' split <;> simp
theorem find_swapE {old : Int} (hf : 0 ≤ findE L f) (hne : f ≠ old) : 0 ≤ findE (swapE A L old id).2 f := by
  unfold swapE
  split
  · exact hf
  · next c =>
    split
    · have hi := findE_at (show 0 ≤ findE L old by omega)
      obtain ⟨h1, e, he, h2⟩ := findE_mem.1 hf
      refine findE_mem.2 ⟨h1, e, ?_, h2⟩
      obtain ⟨j, hj, e2⟩ := mem_at he
      have hji : j ≠ (findE L old).toNat := fun e3 => by rw [e3] at e2; rw [← e2, hi.2.1] at h2; exact hne h2.symm
      have : at_ (L.set (findE L old).toNat { at_ L (findE L old).toNat with Node := id }) j = e := by rw [at_set_ne (by omega)]; exact e2
      rw [← this]
      exact at_mem (by simpa using hj)
    · exact hf
theorem LI.put (h : LI A L) (k : Ctx) {i : Int} (ht : e.Token.Attrs = [] ∧ e.Token.AttrsP = none ∧ e.Token.AttrsC = 0) (hn : elB A e.Node = true → (nodeA A e.Node).Name = e.Token.Name ∧ e.Token.Name.size ≤ 1048576) : LI A (putE A L i e).2 := by
  have hp := (h.pl k).putE (i := i) (eok_of k ht)
  refine ⟨hp.1.pw, ?_, ?_⟩ <;> unfold putE <;> split
  · exact h.ent
  · next c =>
    split
    · exact h.ent
    · have c3 := fresh_ne (A := A) (L := L) (id := e.Node) (by omega)
      intro y hy
      simp only [List.mem_append, List.mem_singleton] at hy
      rcases hy with (hy | rfl) | hy
      · exact h.ent y (List.mem_of_mem_take hy)
      · exact .inr ⟨c3.1, hn c3.1⟩
      · exact h.ent y (List.mem_of_mem_drop hy)
  · exact h.tok
  · next c =>
    split
    · exact h.tok
    · intro y hy
      simp only [List.mem_append, List.mem_singleton] at hy
      rcases hy with (hy | rfl) | hy
      · exact h.tok y (List.mem_of_mem_take hy)
      · exact ht
      · exact h.tok y (List.mem_of_mem_drop hy)
theorem putE_len {i : Int} : (putE A L i e).2.length ≤ L.length + 1 := by
  unfold putE; repeat' split <;> first | exact Nat.le_succ _ | skip
  dsimp only
  simp only [List.length_append, List.length_take, List.length_drop, List.length_cons, List.length_nil]; omega
end
structure Ag where
  A : List Node_one
  st : List Int
  L : List Api_entry
  mark : Int
  last : Int
  at' : Int
  count : Nat
noncomputable def lmF (x : Ag) (id : Int) : List Api_entry × Int := if 3 < x.count + 1 then forgetF x.L x.mark id else (x.L, x.mark)
def tkF (L : List Api_entry) (id : Int) : Api_token := (at_ L (findE L id).toNat).Token
noncomputable def innS (block : Int) (q : Option Addr) (d : Nat) (x : Ag) : Ag :=
  if findE (lmF x (atI x.st (x.at' - 1))).1 (atI x.st (x.at' - 1)) < 0 then ⟨x.A, (removeL x.st (atI x.st (x.at' - 1))).2, (lmF x (atI x.st (x.at' - 1))).1, (lmF x (atI x.st (x.at' - 1))).2, x.last, x.at' - 1, x.count + 1⟩
  else ⟨putF (elementL x.A 0 (tkF (lmF x (atI x.st (x.at' - 1))).1 (atI x.st (x.at' - 1))).Name [] q d).2.2 ⟨(elementL x.A 0 (tkF (lmF x (atI x.st (x.at' - 1))).1 (atI x.st (x.at' - 1))).Name [] q d).1, -1⟩ x.last,
    (swapL (elementL x.A 0 (tkF (lmF x (atI x.st (x.at' - 1))).1 (atI x.st (x.at' - 1))).Name [] q d).2.2 x.st (atI x.st (x.at' - 1)) (elementL x.A 0 (tkF (lmF x (atI x.st (x.at' - 1))).1 (atI x.st (x.at' - 1))).Name [] q d).1).2,
    (swapE (elementL x.A 0 (tkF (lmF x (atI x.st (x.at' - 1))).1 (atI x.st (x.at' - 1))).Name [] q d).2.2 (lmF x (atI x.st (x.at' - 1))).1 (atI x.st (x.at' - 1)) (elementL x.A 0 (tkF (lmF x (atI x.st (x.at' - 1))).1 (atI x.st (x.at' - 1))).Name [] q d).1).2,
    if x.last = block then findE (lmF x (atI x.st (x.at' - 1))).1 (atI x.st (x.at' - 1)) + 1 else (lmF x (atI x.st (x.at' - 1))).2,
    (elementL x.A 0 (tkF (lmF x (atI x.st (x.at' - 1))).1 (atI x.st (x.at' - 1))).Name [] q d).1, x.at' - 1, x.count + 1⟩
structure AgI (f : Int) (a0 n0 ln : Nat) (x : Ag) : Prop where
  ai : AI x.A
  len : x.A.length ≤ n0 + 2 * min x.count 3
  si : StkI x.A x.st
  li : LI x.A x.L
  pos : findI x.st f = (a0 : Int)
  lt : (a0 : Int) < x.at' ∧ x.at' ≤ x.st.length
  fl : 0 ≤ findE x.L f
  mkk : 0 ≤ x.mark ∧ x.mark ≤ x.L.length
  ll : x.L.length ≤ ln
  lst : InA x.A x.last
section
variable {f block : Int} {a0 n0 ln : Nat} {x : Ag}
theorem AgI.idx (h : AgI f a0 n0 ln x) (hne : atI x.st (x.at' - 1) ≠ f) : ∃ i : Nat, x.at' - 1 = (i : Int) ∧ a0 < i ∧ i < x.st.length ∧ findI x.st (atI x.st (x.at' - 1)) = (i : Int) := by
  have hl := h.lt
  obtain ⟨i, hi⟩ : ∃ i : Nat, x.at' - 1 = (i : Int) := ⟨(x.at' - 1).toNat, by omega⟩
  have hil : i < x.st.length := by omega
  have e : atI x.st (x.at' - 1) = at_ x.st i := by rw [atI, if_neg (by omega), hi, Int.toNat_natCast]
  refine ⟨i, hi, ?_, hil, by rw [e]; exact findI_of h.si.nodup hil rfl⟩
  have hp := findI_at h.pos
  rcases Nat.lt_or_ge a0 i with h1 | h1
  · exact h1
  · have : i = a0 := by omega
    rw [e, this] at hne
    exact absurd hp.2 hne
theorem AgI.lm (h : AgI f a0 n0 ln x) {id : Int} (hne : id ≠ f) : LI x.A (lmF x id).1 ∧ 0 ≤ findE (lmF x id).1 f ∧ (0 ≤ (lmF x id).2 ∧ (lmF x id).2 ≤ (lmF x id).1.length) ∧ (lmF x id).1.length ≤ ln ∧ (3 < x.count + 1 → findE (lmF x id).1 id = -1) := by
  unfold lmF
  split
  · next c =>
    have hm := forget_mark (id := id) h.mkk
    exact ⟨h.li.forget, find_forget h.fl (fun e => hne e.symm), ⟨hm.1, hm.2.1⟩, Nat.le_trans hm.2.2 h.ll, fun _ => find_gone h.li⟩
  · next c => exact ⟨h.li, h.fl, h.mkk, h.ll, fun c2 => absurd c2 c⟩
theorem AgI.elm (h : AgI f a0 n0 ln x) (hn0 : n0 + 6 ≤ 32768) (hne : atI x.st (x.at' - 1) ≠ f) (hi : 0 ≤ findE (lmF x (atI x.st (x.at' - 1))).1 (atI x.st (x.at' - 1))) (q : Option Addr) (d : Nat) :
    ElOk x.A (tkF (lmF x (atI x.st (x.at' - 1))).1 (atI x.st (x.at' - 1))).Name q d ∧ x.count < 3 := by
  have hl := h.lm hne
  have hc : x.count < 3 := by
    rcases Nat.lt_or_ge x.count 3 with h1 | h1
    · exact h1
    · have := hl.2.2.2.2 (by omega); omega
  have hle := h.len
  have hg := findE_at hi
  have := (hl.1.ent _ (at_mem hg.1)).resolve_left (by rw [hg.2.1]; exact hg.2.2)
  exact ⟨h.ai.el (by omega) this.2.2 q d, hc⟩
theorem AgI.step (h : AgI f a0 n0 ln x) (k : Ctx) (hn0 : n0 + 6 ≤ 32768) (hne : atI x.st (x.at' - 1) ≠ f) (q : Option Addr) (d : Nat) : AgI f a0 n0 ln (innS block q d x) := by
  obtain ⟨i, hi, ha, hil, hfi⟩ := h.idx hne
  have hl := h.lm hne
  unfold innS
  split
  · next c =>
    have hr := find_remove h.si.nodup h.pos hfi ha
    have hle := h.len
    exact ⟨h.ai, by dsimp only; omega, h.si.remove, hl.1, hr.1, by dsimp only; omega, hl.2.1, hl.2.2.1, hl.2.2.2.1, h.lst⟩
  · next c =>
    obtain ⟨g, hc⟩ := h.elm hn0 hne (by omega) q d
    have hgk := g.ai.keeps ⟨(elementL x.A 0 (tkF (lmF x (atI x.st (x.at' - 1))).1 (atI x.st (x.at' - 1))).Name [] q d).1, -1⟩ x.last
    have hs1 := h.si.keeps g.keeps
    have hr := find_swap (tw := (elementL x.A 0 (tkF (lmF x (atI x.st (x.at' - 1))).1 (atI x.st (x.at' - 1))).Name [] q d).1) hs1 h.pos hfi ha
    have hle := h.len
    have hle2 := g.le
    have hli := (hl.1.keeps g.keeps).swap k (old := atI x.st (x.at' - 1)) (id := (elementL x.A 0 (tkF (lmF x (atI x.st (x.at' - 1))).1 (atI x.st (x.at' - 1))).Name [] q d).1) (fun _ _ => by rw [g.id]; exact g.name)
    refine ⟨g.ai.put _ _, ?_, hs1.swap.keeps hgk, hli.keeps hgk, hr.1, ?_, find_swapE hl.2.1 (fun e => hne e.symm), ?_, ?_, ?_⟩
    · dsimp only; rw [putF_len]; omega
    · dsimp only; rw [hr.2]; omega
    · dsimp only
      rw [swapE_len]
      split
      · have := (findE_at (show 0 ≤ findE (lmF x (atI x.st (x.at' - 1))).1 (atI x.st (x.at' - 1)) by omega)).1
        omega
      · exact hl.2.2.1
    · dsimp only; rw [swapE_len]; exact hl.2.2.2.1
    · dsimp only
      rw [g.id]
      have hin : InA (elementL x.A 0 (tkF (lmF x (atI x.st (x.at' - 1))).1 (atI x.st (x.at' - 1))).Name [] q d).2.2 (x.A.length : Int) := ⟨by omega, by have := g.lt; omega⟩
      rw [g.id] at hgk
      exact InA.keeps hin hgk
end
theorem AgI.grow {f block : Int} {a0 n0 ln : Nat} {x : Ag} (h : AgI f a0 n0 ln x) (hn0 : n0 + 6 ≤ 32768) (hne : atI x.st (x.at' - 1) ≠ f) (q : Option Addr) (d : Nat) : Keeps x.A (innS block q d x).A := by
  unfold innS
  split
  · exact Keeps.refl
  · next c =>
    obtain ⟨g, hc⟩ := h.elm hn0 hne (by omega) q d
    exact g.keeps.trans (g.ai.keeps _ _)
inductive InnD (f block : Int) : Ag → Ag → Prop
  | stop (x : Ag) (h : atI x.st (x.at' - 1) = f) : InnD f block x x
  | step (x : Ag) (q : Option Addr) (d : Nat) (y : Ag) (h : atI x.st (x.at' - 1) ≠ f) (g : InnD f block (innS block q d x) y) : InnD f block x y
theorem InnD.keep {f block : Int} {a0 n0 ln : Nat} {x y : Ag} (g : InnD f block x y) (k : Ctx) (hn0 : n0 + 6 ≤ 32768) (h : AgI f a0 n0 ln x) : AgI f a0 n0 ln y := by
  induction g with
  | stop x _ => exact h
  | step x q d y hne _ ih => exact ih (h.step k hn0 hne q d)
theorem InnD.keepK {f block : Int} {a0 n0 ln : Nat} {x y : Ag} (g : InnD f block x y) (k : Ctx) (hn0 : n0 + 6 ≤ 32768) (h : AgI f a0 n0 ln x) : Keeps x.A y.A := by
  induction g with
  | stop x _ => exact Keeps.refl
  | step x q d y hne _ ih => exact (h.grow hn0 hne q d).trans (ih (h.step k hn0 hne q d))
end Go.Proofs.YtoohapbaelmkcaaGreat
end
section
set_option linter.unusedVariables false
set_option linter.unusedSimpArgs false
set_option maxRecDepth 100000
namespace Go.Proofs.YtoohapbaelmkcaaGreat
open Go Go.Hb Go.RowKit
def allB (A : List Node_one) (ids : List Int) : Bool := ids.all fun x => decide (x = -1) || hasB A x
section
variable {k : Ctx} {w : World} {a s r z c : Nat} {p : Option Addr} {A : List Node_one} {l : List Int}
theorem all_spec {ids : List Int} {tp : Option Addr} {tc : Nat} (hn : 0 < A.length) (hs : Sli (Ro k) (.slice tp ids.length tc) (ids.map (eI .i64))) (hl : ids.length ≤ 1000000) (hO : Own k w [arenaL a A]) :
    Tri Tryz.prog 129 #[.pointer (some ⟨a, 0, none⟩), .slice tp ids.length tc] k w fun v m => v = .bool (allB A ids) ∧ m = [arenaL a A] := by
  refine enter (args := [.pointer (some ⟨a, 0, none⟩), .slice tp ids.length tc]) Tryz.func129 rfl rfl ?_
  have hgs := sli_gs hs
  refine K0 (K1 ?_)
  refine l_y rfl rfl (y_assign rfl) ?_
  refine K2 (K3 (K0 (K0 (K1 ?_))))
  refine l_y rfl rfl (y_move rfl) ?_
  refine l_y rfl rfl (y_lenL rfl) ?_
  refine l_y rfl rfl (y_move rfl) ?_
  refine K2 (K3 (K4 ?_))
  refine c_rounds (X := Nat) (fun i => [(0, .pointer (some ⟨a, 0, none⟩)), (4, .bool false), (7, .slice tp ids.length tc), (8, .int .i64 ((ids.length : Nat) : Int)), (9, .int .i64 (i : Int))]) (fun i w => Own k w [arenaL a A] ∧ (i ≤ ids.length ∧ allB A (ids.take i) = true)) (fun i => ids.length - i) (0) ⟨rfl, rfl, rfl, rfl, rfl, trivial⟩ ⟨hO.only [.o a], ⟨Nat.zero_le _, rfl⟩⟩ ?_
  rintro i w m hm ⟨hO, hi⟩
  refine K0 (K1 ?_)
  refine Z0 (fun h2_0 => ?_) (fun h2_0 => ?_)
  · refine K2 (K3 (K0 (L8 (K5 (K3 (K0 (K4 (K0 (K1 ?_)))))))))
    refine l_y rfl rfl (y_idx rfl rfl) ?_
    refine l_y rfl rfl (y_r1 (x0 := 0) (enc := (eI .i64)) (xs := ids) hO rfl) ?_
    refine l_y rfl rfl (y_assign rfl) ?_
    refine K2 (K3 (K0 (K1 ?_)))
    refine l_y rfl rfl (y_move rfl) ?_
    refine Z1 (fun h4_1 => ?_) (fun h4_1 => ?_)
    · refine l_y rfl rfl (y_move rfl) ?_
      refine l_y rfl rfl (y_move rfl) ?_
      refine Z0 (fun h4_4 => ?_) (fun h4_4 => ?_)
      · refine l_y rfl rfl (y_move rfl) ?_
        repeat refine M2 ?_
        refine l_y rfl rfl (y_pick_t rfl rfl) ?_
        refine l_y rfl rfl (y_pick_t rfl rfl) ?_
        refine K2 (K3 (L8 (K0 (K1 ?_))))
        refine l_y rfl rfl (y_assign rfl) ?_
        refine K2 (K3 (K6 (L0 (K9 (K9 (L0 (K9 ?_)))))))
        have hlf : allB A ids = false := by
          refine List.all_eq_false.2 ⟨at_ ids i, at_mem (by omega), ?_⟩
          simp only [Int.toNat_natCast] at *
          rw [decide_eq_false h4_1, hasB, decide_eq_false (by omega)]; simp
        exact fin1 rfl rfl ⟨_, ⟨by rw [hlf], rfl⟩, hO.only [.o a]⟩
      · refine l_y rfl rfl (y_move rfl) ?_
        refine l_y rfl rfl (y_move rfl) ?_
        refine l_y rfl rfl (y_move rfl) ?_
        refine CK [.o a] hO rfl (fun k' hx hr hO' => LenC_spec hn (hO := hO')) ?_
        rintro _ _ w ⟨rfl, rfl⟩ hO
        simp only [List.cons_append, List.nil_append] at hO
        refine Z0 (fun h4_9 => ?_) (fun h4_9 => ?_)
        · refine l_y rfl rfl (y_pick_f rfl rfl) ?_
          refine l_y rfl rfl (y_pick_t rfl rfl) ?_
          refine K2 (K3 (L8 (K0 (K1 ?_))))
          refine l_y rfl rfl (y_assign rfl) ?_
          refine K2 (K3 (K6 (L0 (K9 (K9 (L0 (K9 ?_)))))))
          have hlf : allB A ids = false := by
            refine List.all_eq_false.2 ⟨at_ ids i, at_mem (by omega), ?_⟩
            simp only [Int.toNat_natCast] at *
            rw [decide_eq_false h4_1, hasB, decide_eq_false (by omega)]; simp
          exact fin1 rfl rfl ⟨_, ⟨by rw [hlf], rfl⟩, hO.only [.o a]⟩
        · refine l_y rfl rfl (y_pick_f rfl rfl) ?_
          refine l_y rfl rfl (y_pick_t rfl rfl) ?_
          refine K2 (K3 (L9 (K5 (K8 (K3 (K1 ?_))))))
          refine l_y rfl rfl (D4) ?_
          refine l_y rfl rfl (y_move rfl) ?_
          refine K2 ?_
          have h9 : allB A (ids.take (i + 1)) = true := by
            have h9 := hi.2
            rw [take_succ_at (by omega)]
            simp only [allB, List.all_append, List.all_cons, List.all_nil, Bool.and_true, Bool.and_eq_true] at h9 ⊢
            refine ⟨h9, ?_⟩
            simp only [Int.toNat_natCast] at *
            by_cases h5 : at_ ids i = -1
            · rw [decide_eq_true h5]; rfl
            · rw [hasB, decide_eq_true (show 0 ≤ at_ ids i ∧ at_ ids i < A.length by omega), Bool.or_true]
          exact q_next (i + 1) ⟨rfl, rfl, rfl, rfl, rfl, trivial⟩ ⟨hO.only [.o a], ⟨by omega, h9⟩⟩ (by omega)
    · refine l_y rfl rfl (y_move rfl) ?_
      repeat refine M2 ?_
      refine l_y rfl rfl (y_pick_f rfl rfl) ?_
      refine K2 (K3 (L9 (K5 (K8 (K3 (K1 ?_))))))
      refine l_y rfl rfl (D4) ?_
      refine l_y rfl rfl (y_move rfl) ?_
      refine K2 ?_
      have h9 : allB A (ids.take (i + 1)) = true := by
        have h9 := hi.2
        rw [take_succ_at (by omega)]
        simp only [allB, List.all_append, List.all_cons, List.all_nil, Bool.and_true, Bool.and_eq_true] at h9 ⊢
        refine ⟨h9, ?_⟩
        simp only [Int.toNat_natCast] at *
        by_cases h5 : at_ ids i = -1
        · rw [decide_eq_true h5]; rfl
        · rw [hasB, decide_eq_true (show 0 ≤ at_ ids i ∧ at_ ids i < A.length by omega), Bool.or_true]
      exact q_next (i + 1) ⟨rfl, rfl, rfl, rfl, rfl, trivial⟩ ⟨hO.only [.o a], ⟨by omega, h9⟩⟩ (by omega)
  · refine K2 (K3 (K0 (L9 (K7 (L1 (L1 (L2 (K3 (K0 (K1 ?_))))))))))
    refine l_y rfl rfl (y_assign rfl) ?_
    refine K2 (K3 (K6 ?_))
    have hlt : allB A ids = true := by rw [show ids = ids.take i by rw [List.take_of_length_le (by omega)]]; exact hi.2
    exact fin1 rfl rfl ⟨_, ⟨by rw [hlt], rfl⟩, hO.only [.o a]⟩
end
end Go.Proofs.YtoohapbaelmkcaaGreat
end
section
set_option linter.unusedVariables false
set_option linter.unusedSimpArgs false
set_option maxRecDepth 100000
namespace Go.Proofs.YtoohapbaelmkcaaGreat
open Go Go.Hb Go.RowKit
section
variable {k : Ctx} {w : World} {g a s l : Nat} {nm : ByteArray} {fo : Bool} {errs mark : Int} {A : List Node_one} {K : Int → List Int} {st : List Int} {L : List Api_entry}
set_option maxHeartbeats 2000000 in
theorem PutG_spec {want before id : Int} (h : AI A) (hid : InA A id) (hw : InA A want) (hbe : before = -1 ∨ InA A before) (hO : Own k w [arenaL a A]) :
    Tri Tryz.prog 102 #[.pointer (some ⟨a, 0, none⟩), .agg (Api_spot.cells ⟨want, before⟩).toArray, .int .i64 id] k w fun v m => (∃ e, v = .int .i64 e) ∧ m = [arenaL a (putF A ⟨want, before⟩ id)] := by
  refine enter (args := [.pointer (some ⟨a, 0, none⟩), .agg (Api_spot.cells ⟨want, before⟩).toArray, .int .i64 id]) Tryz.func102 rfl rfl ?_
  obtain ⟨K, t⟩ := h.tree
  have hn := h.pos
  have hw0 := hw.1
  have hi0 := hid.1
  have hbb : (decide (before = -1) || hasB A before) = true := by
    rcases hbe with h | h
    · rw [decide_eq_true h]; rfl
    · rw [h.b, Bool.or_true]
  have hun := unlinkL_len (A := A) (id := id)
  have t1 := t.unlinkS id
  have hn1 : 0 < (unlinkL A id).2.length := by rw [hun]; exact hn
  obtain ⟨A1, hA1⟩ : ∃ A1, A1 = (unlinkL A id).2 := ⟨_, rfl⟩
  refine K0 (K1 ?_)
  refine s_box (vs := [.int .i64 (Api_spot.mk want before).Parent, .int .i64 (Api_spot.mk want before).Before]) hO rfl rfl rfl (by rfl) fun b4 w hO => ?_
  refine l_y rfl rfl (y_assign rfl) ?_
  refine K2 (K3 (K0 (K4 (K0 (K1 ?_)))))
  refine l_y rfl rfl (y_move rfl) ?_
  refine CK [.o a] hO rfl (fun k' hx hr hO' => LenC_spec hn (hO := hO')) ?_
  rintro _ _ w ⟨rfl, rfl⟩ hO
  simp only [List.cons_append, List.nil_append] at hO
  refine N3 ?_
  refine l_y rfl rfl (y_assign rfl) ?_
  refine K2 (K3 (L9 (K0 (K1 ?_))))
  refine l_y rfl rfl (y_move rfl) ?_
  refine N3 ?_
  refine l_y rfl rfl (y_move rfl) ?_
  refine l_y rfl rfl (y_fldb (o' := 0) rfl) ?_
  refine l_y rfl rfl (D5 hO rfl) ?_
  refine N3 ?_
  refine l_y rfl rfl (y_pick_f rfl rfl) ?_
  refine l_y rfl rfl (y_move rfl) ?_
  refine l_y rfl rfl (y_move rfl) ?_
  refine l_y rfl rfl (y_move rfl) ?_
  refine l_y rfl rfl (y_fldb (o' := 0) rfl) ?_
  refine l_y rfl rfl (D5 hO rfl) ?_
  refine l_y rfl rfl (y_fldb (o' := 1) rfl) ?_
  refine l_y rfl rfl (D5 hO rfl) ?_
  refine s_lit (parts := [(0, .tmp 23), (1, .tmp 25), (2, .tmp 27)]) (enc := (eI .i64)) [id, (Api_spot.mk want before).Parent, (Api_spot.mk want before).Before] [.int .i64 id, .int .i64 (Api_spot.mk want before).Parent, .int .i64 (Api_spot.mk want before).Before] hO rfl (fun b28 w hO => ?_)
  refine CK [.o a] hO rfl (fun k' hx hr hO' => all_spec (ids := [id, want, before]) hn (sls_roK (p := (some ⟨b28, 0, none⟩)) hr (sls_fct (p := (some ⟨b28, 0, none⟩)) hO)) (by simp) (hO := hO')) ?_
  rintro _ _ w ⟨rfl, rfl⟩ hO
  simp only [List.cons_append, List.nil_append] at hO
  rw [show allB A [id, want, before] = true by simp only [allB, List.all_cons, List.all_nil, hid.b, hw.b, hbb, Bool.or_true, Bool.and_self]]
  refine l_y rfl rfl (y_not rfl rfl) ?_
  refine l_y rfl rfl (y_pick_f rfl rfl) ?_
  refine l_y rfl rfl (y_assign rfl) ?_
  refine K2 (K3 (L9 (K5 (K8 (K3 (K0 (K1 ?_)))))))
  refine l_y rfl rfl (y_move rfl) ?_
  refine l_y rfl rfl (y_move rfl) ?_
  refine CK [.o a] hO rfl (fun k' hx hr hO' => UnlinkC_spec hn t.links (hO := hO')) ?_
  rintro _ _ w ⟨rfl, rfl⟩ hO
  simp only [List.cons_append, List.nil_append] at hO
  rw [← hA1] at hO t1 hn1
  refine K2 (K3 (K0 (K0 (K1 ?_))))
  refine l_y rfl rfl (y_move rfl) ?_
  refine l_y rfl rfl (y_fldb (o' := 1) rfl) ?_
  refine l_y rfl rfl (D5 hO rfl) ?_
  refine CK [.o a] hO rfl (fun k' hx hr hO' => NodeD_spec (id := before) hn1 t1.attrs (hO := hO')) ?_
  rintro _ _ w ⟨n, hnv, rfl, rfl⟩ hO
  simp only [List.cons_append, List.nil_append] at hO
  have hnp : before ≠ -1 → n.Parent = (nodeA A1 before).Parent := fun hne => hnv.parent (by have := hbe.resolve_left hne; exact (this.len (show A1.length = A.length by rw [hA1, hun])).b)
  refine l_y rfl rfl (y_move rfl) ?_
  refine l_y rfl rfl (y_extract rfl rfl) ?_
  refine l_y rfl rfl (y_extract rfl rfl) ?_
  refine s_alloc (vs := [.int .i64 0, .int .i64 0, .string ⟨#[]⟩, .slice none 0 0, .string ⟨#[]⟩, .string ⟨#[]⟩, .int .i64 0, .int .i64 0, .int .i64 0, .int .i64 0, .int .i64 0, .int .i64 0]) hO rfl rfl rfl fun b7 w hO => ?_
  refine Y3 hO rfl rfl (fun w hO => ?_)
  refine l_y rfl rfl (y_assign rfl) ?_
  refine K2 (K3 (K0 (K1 ?_)))
  refine l_y rfl rfl (y_fldb (o' := 1) rfl) ?_
  refine l_y rfl rfl (D5 hO rfl) ?_
  refine Z1 (fun h7_2 => ?_) (fun h7_2 => ?_)
  · refine l_y rfl rfl (y_move rfl) ?_
    refine l_y rfl rfl (y_fldb (o' := 6) rfl) ?_
    refine l_y rfl rfl (D5 hO rfl) ?_
    refine l_y rfl rfl (y_fldb (o' := 0) rfl) ?_
    refine l_y rfl rfl (D5 hO rfl) ?_
    refine Z1 (fun h7_8 => ?_) (fun h7_8 => ?_)
    · refine l_y rfl rfl (y_pick_t rfl rfl) ?_
      refine K2 (K3 (L8 (K1 ?_)))
      refine l_y rfl rfl (y_fldb (o' := 1) rfl) ?_
      refine Y1 hO rfl rfl (fun w hO => ?_)
      simp only [List.set_cons_zero, List.set_cons_succ] at hO
      refine K2 (K3 (K0 (K0 (K1 ?_))))
      refine l_y rfl rfl (y_move rfl) ?_
      refine l_y rfl rfl (y_fldb (o' := 0) rfl) ?_
      refine l_y rfl rfl (D5 hO rfl) ?_
      refine l_y rfl rfl (y_move rfl) ?_
      refine l_y rfl rfl (y_fldb (o' := 1) rfl) ?_
      refine l_y rfl rfl (D5 hO rfl) ?_
      have hbf : befF A1 want before = (-1) := by
        unfold befF
        first
        | (rw [if_pos ⟨h7_2, by rw [← hnp h7_2]; exact h7_8⟩]; done)
        | (rw [if_neg (fun h => absurd (by rw [hnp h.1]; exact h.2) (by rw [h7_8]; simp))]; done)
        | (rw [if_neg (fun h => h.1 h7_2)]; done)
        | (rw [if_neg (fun h => h7_2 h.1)]; done)
        | (split <;> simp_all; done)
      refine CK [.o a] hO rfl (fun k' hx hr hO' => LinkC_spec (up := want) (id := id) (before := (-1)) hn1 t1.rank t1.links (hO := hO')) ?_
      rintro _ _ w ⟨rfl, rfl⟩ hO
      simp only [List.cons_append, List.nil_append] at hO
      refine Z1 (fun h9_7 => ?_) (fun h9_7 => ?_)
      · refine K2 (K3 (L8 (K0 (K1 ?_))))
        refine l_y rfl rfl (y_assign rfl) ?_
        refine K2 (K3 (K6 (K9 ?_)))
        exact fin1 rfl rfl ⟨_, ⟨⟨_, rfl⟩, by dsimp only [putF]; rw [← hA1, hbf]⟩, hO.only [.o a]⟩
      · refine K2 (K3 (L9 (K5 (K3 (K0 (K1 ?_))))))
        refine l_y rfl rfl (y_assign rfl) ?_
        refine K2 (K3 (K6 ?_))
        exact fin1 rfl rfl ⟨_, ⟨⟨_, rfl⟩, by dsimp only [putF]; rw [← hA1, hbf]⟩, hO.only [.o a]⟩
    · refine l_y rfl rfl (y_pick_t rfl rfl) ?_
      refine K2 (K3 (L9 (K5 (K3 (K0 (K0 (K1 ?_)))))))
      refine l_y rfl rfl (y_move rfl) ?_
      refine l_y rfl rfl (y_fldb (o' := 0) rfl) ?_
      refine l_y rfl rfl (D5 hO rfl) ?_
      refine l_y rfl rfl (y_move rfl) ?_
      refine l_y rfl rfl (y_fldb (o' := 1) rfl) ?_
      refine l_y rfl rfl (D5 hO rfl) ?_
      have hbf : befF A1 want before = (Api_spot.mk want before).Before := by
        unfold befF
        first
        | (rw [if_pos ⟨h7_2, by rw [← hnp h7_2]; exact h7_8⟩]; done)
        | (rw [if_neg (fun h => absurd (by rw [hnp h.1]; exact h.2) (by rw [h7_8]; simp))]; done)
        | (rw [if_neg (fun h => h.1 h7_2)]; done)
        | (rw [if_neg (fun h => h7_2 h.1)]; done)
        | (split <;> simp_all; done)
      refine CK [.o a] hO rfl (fun k' hx hr hO' => LinkC_spec (up := want) (id := id) (before := (Api_spot.mk want before).Before) hn1 t1.rank t1.links (hO := hO')) ?_
      rintro _ _ w ⟨rfl, rfl⟩ hO
      simp only [List.cons_append, List.nil_append] at hO
      refine Z1 (fun h9_7 => ?_) (fun h9_7 => ?_)
      · refine K2 (K3 (L8 (K0 (K1 ?_))))
        refine l_y rfl rfl (y_assign rfl) ?_
        refine K2 (K3 (K6 (K9 ?_)))
        exact fin1 rfl rfl ⟨_, ⟨⟨_, rfl⟩, by dsimp only [putF]; rw [← hA1, hbf]⟩, hO.only [.o a]⟩
      · refine K2 (K3 (L9 (K5 (K3 (K0 (K1 ?_))))))
        refine l_y rfl rfl (y_assign rfl) ?_
        refine K2 (K3 (K6 ?_))
        exact fin1 rfl rfl ⟨_, ⟨⟨_, rfl⟩, by dsimp only [putF]; rw [← hA1, hbf]⟩, hO.only [.o a]⟩
  · refine l_y rfl rfl (y_move rfl) ?_
    repeat refine M2 ?_
    refine l_y rfl rfl (y_pick_f rfl rfl) ?_
    refine K2 (K3 (L9 (K5 (K3 (K0 (K0 (K1 ?_)))))))
    refine l_y rfl rfl (y_move rfl) ?_
    refine l_y rfl rfl (y_fldb (o' := 0) rfl) ?_
    refine l_y rfl rfl (D5 hO rfl) ?_
    refine l_y rfl rfl (y_move rfl) ?_
    refine l_y rfl rfl (y_fldb (o' := 1) rfl) ?_
    refine l_y rfl rfl (D5 hO rfl) ?_
    have hbf : befF A1 want before = (Api_spot.mk want before).Before := by
      unfold befF
      first
      | (rw [if_pos ⟨h7_2, by rw [← hnp h7_2]; exact h7_8⟩]; done)
      | (rw [if_neg (fun h => absurd (by rw [hnp h.1]; exact h.2) (by rw [h7_8]; simp))]; done)
      | (rw [if_neg (fun h => h.1 h7_2)]; done)
      | (rw [if_neg (fun h => h7_2 h.1)]; done)
      | (split <;> simp_all; done)
    refine CK [.o a] hO rfl (fun k' hx hr hO' => LinkC_spec (up := want) (id := id) (before := (Api_spot.mk want before).Before) hn1 t1.rank t1.links (hO := hO')) ?_
    rintro _ _ w ⟨rfl, rfl⟩ hO
    simp only [List.cons_append, List.nil_append] at hO
    refine Z1 (fun h9_7 => ?_) (fun h9_7 => ?_)
    · refine K2 (K3 (L8 (K0 (K1 ?_))))
      refine l_y rfl rfl (y_assign rfl) ?_
      refine K2 (K3 (K6 (K9 ?_)))
      exact fin1 rfl rfl ⟨_, ⟨⟨_, rfl⟩, by dsimp only [putF]; rw [← hA1, hbf]⟩, hO.only [.o a]⟩
    · refine K2 (K3 (L9 (K5 (K3 (K0 (K1 ?_))))))
      refine l_y rfl rfl (y_assign rfl) ?_
      refine K2 (K3 (K6 ?_))
      exact fin1 rfl rfl ⟨_, ⟨⟨_, rfl⟩, by dsimp only [putF]; rw [← hA1, hbf]⟩, hO.only [.o a]⟩
end
section
variable {k : Ctx} {w : World} {g a s l : Nat} {nm : ByteArray} {fo : Bool} {errs mark : Int} {A : List Node_one} {K : Int → List Int} {st : List Int} {L : List Api_entry}
/-- two results, of which the second lies in memory -/
theorem fintc {P : Program} {n : Nat} {E : Env} {w : World} {fn : Func} {T : Value → World → Prop} {t u : Nat} {tz : TypeId} {q : Nat} [hl2 : Lay P tz true q] {v : Value} {b : Addr} {es : List Value} (hrs : fn.results = #[.tmp t, .cell u tz]) (hv : Hb.look E t = some v) (hx : Hb.look E u = some (.pointer (some b))) (hn : es.length = q) (hk : Holds w b es) (hT : T (.tuple #[v, .agg es.toArray]) w) :
    QW (bodyPost P fn fun e w' => ∃ v, e = .returned v ∧ T v w') n [] .ret E w := fun c hc =>
  ⟨hc.defers, _, by
    subst hn
    have h0 := hc.at_ t _ hv
    have h2 := hc.at_ u _ hx
    simp only [Array.getD_eq_getD_getElem?] at h0 h2
    have h3 := run_loadCells_list (P := P) w b es hk
    simp [results, hrs, h0, h2, asAddr, loadVar, hl2.isAgg, hl2.size, h3], _, rfl, hT⟩
theorem inside_spec {x : Int} (hO : Own k w []) : Tri Tryz.prog 109 #[.int .i64 x] k w fun v m => v = .agg (Api_spot.cells ⟨x, -1⟩).toArray ∧ m = [] := by
  refine enter (args := [.int .i64 x]) Tryz.func109 rfl rfl ?_
  refine K0 (K1 ?_)
  refine s_alloc (vs := [.int .i64 0, .int .i64 0]) hO rfl rfl rfl fun b2 w hO => ?_
  refine K2 (K3 (K0 (K1 ?_)))
  refine l_y rfl rfl (y_move rfl) ?_
  refine s_build (parts := [(0, .tmp 3), (1, .const (.int .i64 (-1)))]) (cs := [.int .i64 x, .int .i64 (-1)]) rfl rfl (fun a ha => partsOf_sound ha _ _ rfl) (by kernel_rfl) ?_
  refine Y3 hO rfl rfl (fun w hO => ?_)
  refine K2 (K3 (K6 ?_))
  exact finC hO rfl rfl ⟨_, ⟨rfl, rfl⟩, hO.none⟩
set_option maxHeartbeats 2000000 in
theorem fresh_specA {i : Int} {e : Api_entry} (hn : 0 < A.length) (hA : A.length ≤ 32768) (hL : L.length ≤ 2000000) (hi : 0 ≤ i ∧ i < L.length) (he : at_ L i.toNat = e) (ht : e.Token.Attrs = [] ∧ e.Token.AttrsP = none ∧ e.Token.AttrsC = 0) (hO : Own k w [agB g a s l nm fo errs mark, arenaL a A, actL l a L]) :
    Tri Tryz.prog 103 #[.pointer (some ⟨g, 0, none⟩), .int .i64 i] k w fun v m => ∃ q d, v = .tuple #[.int .i64 (elementL A 0 e.Token.Name [] q d).1, .agg (Api_token.cells e.Token).toArray] ∧ m = [agB g a s l nm fo errs mark, arenaL a (elementL A 0 e.Token.Name [] q d).2.2, actL l a L] := by
  refine enter (args := [.pointer (some ⟨g, 0, none⟩), .int .i64 i]) Tryz.func103 rfl rfl ?_
  obtain ⟨nd, kd, tn, da, sy, ha, qu, ch, se, tp, ta, tc⟩ := e
  obtain ⟨h1, h2, h3⟩ := ht
  dsimp only at h1 h2 h3
  subst h1 h2 h3
  refine K0 (K1 ?_)
  refine l_y rfl rfl (y_assign rfl) ?_
  refine s_alloc (vs := [.int .i64 0, .string ⟨#[]⟩, .string ⟨#[]⟩, .string ⟨#[]⟩, .int .i64 0, .bool false, .int .i32 0, .bool false, .slice none 0 0]) hO rfl rfl rfl fun b5 w hO => ?_
  refine K2 (K3 (K0 (K1 ?_)))
  refine l_y rfl rfl (y_move rfl) ?_
  refine l_y rfl rfl (y_nilCheck rfl rfl) ?_
  refine l_y rfl rfl (y_fldb (o' := 2) rfl) ?_
  refine l_y rfl rfl (D5 hO rfl) ?_
  refine l_y rfl rfl (y_move rfl) ?_
  refine CK [.o l] hO rfl (fun k' hx hr hO' => aAt_spec (i := i) hL (hO := hO')) ?_
  rintro _ _ w ⟨h9, rfl⟩ hO
  simp only [List.cons_append, List.nil_append] at hO
  obtain ⟨_, rfl⟩ := h9.resolve_left (fun h => by omega)
  rw [he]
  refine l_y rfl rfl (y_move rfl) ?_
  refine l_y rfl rfl (y_extract rfl rfl) ?_
  refine l_y rfl rfl (y_extract rfl rfl) ?_
  refine s_alloc (vs := [.int .i64 0, .int .i64 0, .string ⟨#[]⟩, .string ⟨#[]⟩, .string ⟨#[]⟩, .int .i64 0, .bool false, .int .i32 0, .bool false, .slice none 0 0]) hO rfl rfl rfl fun b6 w hO => ?_
  refine Y3 hO rfl rfl (fun w hO => ?_)
  refine l_y rfl rfl (y_assign rfl) ?_
  refine K2 (K3 (K0 ?_))
  refine da_region (by intro c a d v w h; cases d <;> exact h) ?_
  have hO := hO.drew
  refine da_phase _ [10] (SO.ks [.b g, .b b6] hO) ?_
  refine dx_u 0 (by kernel_rfl) rfl rfl rfl (fun w => y_move rfl) ?_
  refine dx_u 1 (by kernel_rfl) rfl rfl rfl (fun w => y_nilCheck rfl rfl) ?_
  refine dx_u 2 (by kernel_rfl) rfl rfl rfl (fun w => y_fldb (o' := 0) rfl) ?_
  refine dx_y 3 (by kernel_rfl) rfl rfl rfl (fun w ⟨m, hw⟩ => D5 hw rfl) ?_
  refine dx_u 4 (by kernel_rfl) rfl rfl rfl (fun w => y_fldb (o' := 1) rfl) ?_
  refine dx_u 5 (by kernel_rfl) rfl rfl rfl (fun w => y_fldb (o' := 2) rfl) ?_
  refine dx_y 6 (by kernel_rfl) rfl rfl rfl (fun w ⟨m, hw⟩ => D5 hw rfl) ?_
  refine dx_u 7 (by kernel_rfl) rfl rfl rfl (fun w => y_fldb (o' := 1) rfl) ?_
  refine dx_u 8 (by kernel_rfl) rfl rfl rfl (fun w => y_fldb (o' := 9) rfl) ?_
  refine dx_y 9 (by kernel_rfl) rfl rfl rfl (fun w ⟨m, hw⟩ => D5 hw rfl) ?_
  refine dx_close 10 (by kernel_rfl) rfl rfl ?_
  refine CK [.o a] hO rfl (fun k' hx hr hO' => Element_spec (xs := []) hn hA (Sli.nil rfl) (hO := hO')) ?_
  rintro _ _ w ⟨q1, d1, rfl, rfl⟩ hO
  simp only [List.cons_append, List.nil_append] at hO
  refine o_done ?_
  refine da_phase _ [] (SO.ks [] hO) ?_
  refine dx_u 11 (by kernel_rfl) rfl rfl rfl (fun w => y_move rfl) ?_
  refine dx_u 12 (by kernel_rfl) rfl rfl rfl (fun w => y_extract rfl rfl) ?_
  refine dx_u 13 (by kernel_rfl) rfl rfl rfl (fun w => y_extract rfl rfl) ?_
  refine dx_u 14 (by kernel_rfl) rfl rfl rfl (fun w => y_assign rfl) ?_
  refine dx_u 15 (by kernel_rfl) rfl rfl rfl (fun w => y_assign rfl) ?_
  refine dx_end (by kernel_rfl) ?_
  refine K3 (K0 ?_)
  refine da_region (by intro c a d v w h; cases d <;> exact h) ?_
  have hO := hO.drew
  refine da_phase _ [4] (SO.ks [.b b6] hO) ?_
  refine dx_u 0 (by kernel_rfl) rfl rfl rfl (fun w => y_move rfl) ?_
  refine dx_u 1 (by kernel_rfl) rfl rfl rfl (fun w => y_fldb (o' := 1) rfl) ?_
  refine dx_y 2 (by kernel_rfl) rfl rfl rfl (fun w ⟨m, hw⟩ => D8 (cs := [.int .i64 (Api_entry.mk nd (Api_token.mk kd tn da sy ha qu ch se none [] 0)).Token.Kind, .string (Api_entry.mk nd (Api_token.mk kd tn da sy ha qu ch se none [] 0)).Token.Name, .string (Api_entry.mk nd (Api_token.mk kd tn da sy ha qu ch se none [] 0)).Token.Data, .string (Api_entry.mk nd (Api_token.mk kd tn da sy ha qu ch se none [] 0)).Token.System, .int .i64 (Api_entry.mk nd (Api_token.mk kd tn da sy ha qu ch se none [] 0)).Token.Has, .bool (Api_entry.mk nd (Api_token.mk kd tn da sy ha qu ch se none [] 0)).Token.Quirks, .int .i32 (Api_entry.mk nd (Api_token.mk kd tn da sy ha qu ch se none [] 0)).Token.Char, .bool (Api_entry.mk nd (Api_token.mk kd tn da sy ha qu ch se none [] 0)).Token.Self, .slice (Api_entry.mk nd (Api_token.mk kd tn da sy ha qu ch se none [] 0)).Token.AttrsP (Api_entry.mk nd (Api_token.mk kd tn da sy ha qu ch se none [] 0)).Token.Attrs.length (Api_entry.mk nd (Api_token.mk kd tn da sy ha qu ch se none [] 0)).Token.AttrsC]) hw rfl) ?_
  refine dx_u 3 (by kernel_rfl) rfl rfl rfl (fun w => y_assign rfl) ?_
  refine dx_close 4 (by kernel_rfl) rfl rfl ?_
  refine Y3 hO rfl rfl (fun w hO => ?_)
  refine o_done ?_
  refine da_end (by kernel_rfl) ?_
  refine K3 (K6 ?_)
  have hb5 := (hO.only [.b b5]).holds (.hd _ _ _) (.ofBlkA (o := 0) (cs := Api_token.cells ⟨kd, tn, da, sy, ha, qu, ch, se, none, [], 0⟩) 9 rfl)
  exact fintc rfl rfl rfl rfl hb5 ⟨_, ⟨q1, d1, rfl, rfl⟩, hO.only [.b g, .o a, .o l]⟩
end
end Go.Proofs.YtoohapbaelmkcaaGreat
end
section
set_option linter.unusedVariables false
set_option linter.unusedSimpArgs false
set_option maxRecDepth 100000
namespace Go.Proofs.YtoohapbaelmkcaaGreat
open Go Go.Hb Go.RowKit
section
variable {k : Ctx} {w : World} {g a s l : Nat} {nm : ByteArray} {fo : Bool} {errs mark : Int} {A : List Node_one} {st : List Int} {L : List Api_entry}
set_option maxHeartbeats 4000000 in
theorem descend_spec {f block : Int} {a0 n0 ln : Nat} (hI0 : AgI f a0 n0 ln ⟨A, st, L, mark, block, findI st block, 0⟩) (hn0 : n0 + 6 ≤ 32768) (hln : ln ≤ 2000000) (hO : Own k w [agB g a s l nm fo errs mark, arenaL a A, stkL s a st, actL l a L]) :
    Tri Tryz.prog 100 #[.pointer (some ⟨g, 0, none⟩), .int .i64 f, .int .i64 block] k w fun v m => ∃ y : Ag, InnD f block ⟨A, st, L, mark, block, findI st block, 0⟩ y ∧ v = .int .i64 y.last ∧ m = [agB g a s l nm fo errs y.mark, arenaL a y.A, stkL s a y.st, actL l a y.L] := by
  refine enter (args := [.pointer (some ⟨g, 0, none⟩), .int .i64 f, .int .i64 block]) Tryz.func100 rfl rfl ?_
  have hfb := @findI_lt st block
  have hfg := @findI_ge st block
  have hsl : st.length ≤ 1000000 := Nat.le_trans hI0.si.len (Nat.le_trans hI0.len (by dsimp only; omega))
  refine K0 (K1 ?_)
  refine l_y rfl rfl (y_assign rfl) ?_
  refine K2 (K3 (L6 (K0 (K1 ?_))))
  refine l_y rfl rfl (y_move rfl) ?_
  refine l_y rfl rfl (y_assign rfl) ?_
  refine K2 (K3 (K0 (K1 ?_)))
  refine l_y rfl rfl (y_move rfl) ?_
  refine l_y rfl rfl (y_nilCheck rfl rfl) ?_
  refine l_y rfl rfl (y_fldb (o' := 1) rfl) ?_
  refine l_y rfl rfl (D5 hO rfl) ?_
  refine l_y rfl rfl (y_move rfl) ?_
  refine CK [.o s] hO rfl (fun k' hx hr hO' => sFindC_spec hsl (hO := hO')) ?_
  rintro _ _ w ⟨rfl, rfl⟩ hO
  simp only [List.cons_append, List.nil_append] at hO
  refine l_y rfl rfl (y_assign rfl) ?_
  refine K2 (K3 (K0 (K1 ?_)))
  refine l_y rfl rfl (y_assign rfl) ?_
  refine K2 (K3 (K0 (L5 (K3 (K4 ?_)))))
  refine c_rounds (X := Ag) (fun x => [(0, .pointer (some ⟨g, 0, none⟩)), (1, .int .i64 f), (2, .int .i64 block), (6, .int .i64 0), (7, .int .i64 x.last), (8, .int .i64 x.at'), (9, .int .i64 (x.count : Int))]) (fun x w => Own k w [agB g a s l nm fo errs x.mark, arenaL a x.A, stkL s a x.st, actL l a x.L] ∧ (AgI f a0 n0 ln x) ∧ (∀ y, InnD f block x y → InnD f block ⟨A, st, L, mark, block, findI st block, 0⟩ y) ∧ (x.at' + x.count = findI st block)) (fun x => x.at'.toNat) (⟨A, st, L, mark, block, findI st block, 0⟩) ⟨rfl, rfl, rfl, rfl, rfl, rfl, rfl, trivial⟩ ⟨hO.only [.b g, .o a, .o s, .o l], hI0, (fun y h => h), (by dsimp only; omega)⟩ ?_
  rintro x w m hm ⟨hO, hI, hD, hcn⟩
  refine K4 (K0 ?_)
  have hxl : x.st.length ≤ 1000000 := Nat.le_trans hI.si.len (Nat.le_trans hI.len (by omega))
  have hxL : x.L.length ≤ 2000000 := Nat.le_trans hI.ll hln
  have hxm := hI.mkk
  have hxt := hI.lt
  refine K1 ?_
  refine l_y rfl rfl (y_move rfl) ?_
  refine l_y rfl rfl (D4) ?_
  refine l_y rfl rfl (y_move rfl) ?_
  refine l_y rfl rfl (D4) ?_
  refine l_y rfl rfl (y_assign rfl) ?_
  refine l_y rfl rfl (y_assign rfl) ?_
  refine K2 (K3 (K0 (K1 ?_)))
  refine l_y rfl rfl (y_move rfl) ?_
  refine l_y rfl rfl (y_nilCheck rfl rfl) ?_
  refine l_y rfl rfl (y_fldb (o' := 1) rfl) ?_
  refine l_y rfl rfl (D5 hO rfl) ?_
  refine l_y rfl rfl (y_move rfl) ?_
  obtain ⟨id, hid⟩ : ∃ id, id = atI x.st (x.at' - 1) := ⟨_, rfl⟩
  refine CK [.o s] hO rfl (fun k' hx hr hO' => sAtC_spec (x := x.at' - 1) hxl (hO := hO')) ?_
  rintro _ _ w ⟨rfl, rfl⟩ hO
  simp only [List.cons_append, List.nil_append] at hO
  rw [← hid]
  refine l_y rfl rfl (y_assign rfl) ?_
  refine K2 (K3 (K0 (K0 (K1 ?_))))
  refine l_y rfl rfl (y_move rfl) ?_
  refine l_y rfl rfl (y_move rfl) ?_
  refine Z0 (fun h6_2 => ?_) (fun h6_2 => ?_)
  · refine K2 (K3 (L8 (K0 (K1 ?_))))
    refine l_y rfl rfl (y_move rfl) ?_
    refine l_y rfl rfl (y_assign rfl) ?_
    refine K2 (K3 (K6 (K9 (L0 (K9 (L0 (L4 ?_)))))))
    exact fin1 rfl rfl ⟨_, ⟨x, hD x (.stop x (by rw [← hid]; exact h6_2)), rfl, rfl⟩, hO.ks [.b g, .o a, .o s, .o l]⟩
  · refine K2 (K3 (L9 (K5 (K3 ?_))))
    refine c_cut (X := List Api_entry × Int) (fun LM => [(0, .pointer (some ⟨g, 0, none⟩)), (1, .int .i64 f), (2, .int .i64 block), (6, .int .i64 0), (7, .int .i64 x.last), (8, .int .i64 (x.at' - 1)), (9, .int .i64 ((x.count : Int) + 1)), (10, .int .i64 id)]) (fun LM w => Own k w [agB g a s l nm fo errs LM.2, arenaL a x.A, stkL s a x.st, actL l a LM.1] ∧ (LM = lmF x id) ∧ (id ≠ f)) ?_ ?_
    · refine K0 (K1 ?_)
      refine l_y rfl rfl (y_move rfl) ?_
      refine Z0 (fun h8_1 => ?_) (fun h8_1 => ?_)
      · refine K2 (K3 (L8 (K1 ?_)))
        refine l_y rfl rfl (y_move rfl) ?_
        refine l_y rfl rfl (y_move rfl) ?_
        refine CK [.b g, .o l] hO rfl (fun k' hx hr hO' => forget_spec (id := id) ⟨by omega, by omega⟩ hxL (hO := hO')) ?_
        rintro _ _ w rfl hO
        simp only [List.cons_append, List.nil_append] at hO
        refine K2 ?_
        obtain ⟨LM9, hO, hLM9⟩ : ∃ LM9 : List Api_entry × Int, Own k w [agB g a s l nm fo errs LM9.2, arenaL a x.A, stkL s a x.st, actL l a LM9.1] ∧ LM9 = lmF x id := by
          first
          | exact ⟨forgetF x.L x.mark id, hO.ks [.b g, .o a, .o s, .o l], by rw [lmF, if_pos (show 3 < x.count + 1 by omega)]⟩
          | exact ⟨(x.L, x.mark), hO.ks [.b g, .o a, .o s, .o l], by rw [lmF, if_neg (show ¬ 3 < x.count + 1 by omega)]⟩
        exact q_cut (LM9) ⟨rfl, rfl, rfl, rfl, rfl, rfl, rfl, rfl, trivial⟩ ⟨hO.only [.b g, .o a, .o s, .o l], hLM9, (by assumption)⟩
      · refine K2 (K3 (L9 (K5 ?_)))
        obtain ⟨LM9, hO, hLM9⟩ : ∃ LM9 : List Api_entry × Int, Own k w [agB g a s l nm fo errs LM9.2, arenaL a x.A, stkL s a x.st, actL l a LM9.1] ∧ LM9 = lmF x id := by
          first
          | exact ⟨forgetF x.L x.mark id, hO.ks [.b g, .o a, .o s, .o l], by rw [lmF, if_pos (show 3 < x.count + 1 by omega)]⟩
          | exact ⟨(x.L, x.mark), hO.ks [.b g, .o a, .o s, .o l], by rw [lmF, if_neg (show ¬ 3 < x.count + 1 by omega)]⟩
        exact q_cut (LM9) ⟨rfl, rfl, rfl, rfl, rfl, rfl, rfl, rfl, trivial⟩ ⟨hO.only [.b g, .o a, .o s, .o l], hLM9, (by assumption)⟩
    · rintro LM w ⟨hO, hLM, hne⟩
      refine K0 ?_
      have hne2 : atI x.st (x.at' - 1) ≠ f := by rw [← hid]; exact hne
      have hlm := hI.lm hne
      rw [← hLM] at hlm
      have hLL : LM.1.length ≤ 2000000 := Nat.le_trans hlm.2.2.2.1 hln
      have hA3 : x.A.length ≤ 32768 := Nat.le_trans hI.len (by omega)
      refine K1 ?_
      refine l_y rfl rfl (y_move rfl) ?_
      refine l_y rfl rfl (y_nilCheck rfl rfl) ?_
      refine l_y rfl rfl (y_fldb (o' := 2) rfl) ?_
      refine l_y rfl rfl (D5 hO rfl) ?_
      refine l_y rfl rfl (y_move rfl) ?_
      refine CK [.o l] hO rfl (fun k' hx hr hO' => aFind_spec hLL (hO := hO')) ?_
      rintro _ _ w ⟨rfl, rfl⟩ hO
      simp only [List.cons_append, List.nil_append] at hO
      refine l_y rfl rfl (y_assign rfl) ?_
      refine K2 (K3 (K0 (K0 (K1 ?_))))
      refine l_y rfl rfl (y_move rfl) ?_
      refine Z0 (fun h11_1 => ?_) (fun h11_1 => ?_)
      · refine K2 (K3 (L8 (K0 (K1 ?_))))
        refine l_y rfl rfl (y_move rfl) ?_
        refine l_y rfl rfl (y_nilCheck rfl rfl) ?_
        refine l_y rfl rfl (y_fldb (o' := 1) rfl) ?_
        refine l_y rfl rfl (D5 hO rfl) ?_
        refine l_y rfl rfl (y_move rfl) ?_
        refine CK [.o s] hO rfl (fun k' hx hr hO' => sRemove_spec (id := id) hxl (hO := hO')) ?_
        rintro _ _ w ⟨rfl, rfl⟩ hO
        simp only [List.cons_append, List.nil_append] at hO
        refine K2 (K3 (K7 (L1 (L2 ?_))))
        obtain ⟨A9, st9, L9, mk9, q9, d9, hO, hS⟩ : ∃ A9 st9 L9 mk9, ∃ (q9 : Option Addr) (d9 : Nat), Own k w [agB g a s l nm fo errs mk9, arenaL a A9, stkL s a st9, actL l a L9] ∧ innS block q9 d9 x = (⟨A9, st9, L9, mk9, x.last, x.at' - 1, x.count + 1⟩ : Ag) := by
          first
          | exact ⟨_, _, _, _, none, 0, hO.only [.b g, .o a, .o s, .o l], by unfold innS; rw [← hid, ← hLM, if_pos h11_1]⟩
          | exact ⟨_, _, _, _, q1, d1, hO.only [.b g, .o a, .o s, .o l], by unfold innS; rw [← hid, ← hLM, if_neg (by omega), ← hEL, ← hmk]⟩
        have hI9 := hI.step (block := block) k hn0 hne2 q9 d9
        rw [hS] at hI9
        exact q_next ((⟨A9, st9, L9, mk9, x.last, x.at' - 1, x.count + 1⟩ : Ag)) ⟨rfl, rfl, rfl, rfl, rfl, rfl, rfl, trivial⟩ ⟨hO.only [.b g, .o a, .o s, .o l], hI9, (fun y h => hD y (.step x q9 d9 y hne2 (by rw [hS]; exact h))), (by dsimp only; omega)⟩ (by have := hI.lt; dsimp only; omega)
      · refine K2 (K3 (L9 (K5 (K3 (K0 ?_)))))
        have hfa := findE_at (show 0 ≤ findE LM.1 id by omega)
        refine K1 ?_
        refine l_y rfl rfl (y_move rfl) ?_
        refine l_y rfl rfl (y_move rfl) ?_
        refine CK [.b g, .o a, .o l] hO rfl (fun k' hx hr hO' => fresh_specA (e := at_ LM.1 (findE LM.1 id).toNat) hI.ai.pos hA3 hLL ⟨by omega, by omega⟩ rfl (hlm.1.tok _ (at_mem hfa.1)) (hO := hO')) ?_
        rintro _ _ w ⟨q1, d1, rfl, rfl⟩ hO
        simp only [List.cons_append, List.nil_append] at hO
        obtain ⟨EL, hEL⟩ : ∃ EL, EL = elementL x.A 0 (tkF LM.1 id).Name [] q1 d1 := ⟨_, rfl⟩
        have hEL2 : elementL x.A 0 (at_ LM.1 (findE LM.1 id).toNat).Token.Name [] q1 d1 = EL := hEL.symm
        rw [hEL2] at hO ⊢
        have hel := hI.elm hn0 hne2 (by rw [← hid, ← hLM]; omega) q1 d1
        rw [← hid, ← hLM] at hel
        obtain ⟨⟨hE1, hE2, hE3, hE4, hE5, hE6, hE7, hE8⟩, hcl⟩ := hel
        rw [← hEL] at hE1 hE2 hE3 hE4 hE5 hE6 hE7 hE8
        have hlst := hI.lst.keeps hE8
        have htw : InA EL.2.2 EL.1 := ⟨by omega, by omega⟩
        refine l_y rfl rfl (y_move rfl) ?_
        refine l_y rfl rfl (y_extract rfl rfl) ?_
        refine l_y rfl rfl (y_extract rfl rfl) ?_
        refine s_alloc (vs := [.int .i64 0, .string ⟨#[]⟩, .string ⟨#[]⟩, .string ⟨#[]⟩, .int .i64 0, .bool false, .int .i32 0, .bool false, .slice none 0 0]) hO rfl rfl rfl fun b13 w hO => ?_
        refine l_y rfl rfl (y_assign rfl) ?_
        refine Y3 hO rfl rfl (fun w hO => ?_)
        refine K2 (K3 (K0 (K1 ?_)))
        refine l_y rfl rfl (y_move rfl) ?_
        refine l_y rfl rfl (y_nilCheck rfl rfl) ?_
        refine l_y rfl rfl (y_fldb (o' := 2) rfl) ?_
        refine l_y rfl rfl (D5 hO rfl) ?_
        refine l_y rfl rfl (y_move rfl) ?_
        refine l_y rfl rfl (y_move rfl) ?_
        refine CK [.o a, .o l] hO rfl (fun k' hx hr hO' => aSwap_spec (old := id) (id := EL.1) hE3.pos hE3.attrs hLL (hO := hO')) ?_
        rintro _ _ w ⟨rfl, rfl⟩ hO
        simp only [List.cons_append, List.nil_append] at hO
        refine K2 (K3 (K0 (K1 ?_)))
        refine l_y rfl rfl (y_move rfl) ?_
        refine l_y rfl rfl (y_nilCheck rfl rfl) ?_
        refine l_y rfl rfl (y_fldb (o' := 1) rfl) ?_
        refine l_y rfl rfl (D5 hO rfl) ?_
        refine l_y rfl rfl (y_move rfl) ?_
        refine l_y rfl rfl (y_move rfl) ?_
        refine CK [.o a, .o s] hO rfl (fun k' hx hr hO' => sSwap_spec (old := id) (id := EL.1) hE3.pos hE3.attrs hxl (hO := hO')) ?_
        rintro _ _ w ⟨rfl, rfl⟩ hO
        simp only [List.cons_append, List.nil_append] at hO
        refine K2 (K3 ?_)
        refine c_cut (X := Int) (fun mk => [(0, .pointer (some ⟨g, 0, none⟩)), (1, .int .i64 f), (2, .int .i64 block), (6, .int .i64 0), (7, .int .i64 x.last), (8, .int .i64 (x.at' - 1)), (9, .int .i64 ((x.count : Int) + 1)), (12, .int .i64 EL.1)]) (fun mk w => Own k w [agB g a s l nm fo errs mk, arenaL a EL.2.2, stkL s a (swapL EL.2.2 x.st id EL.1).2, actL l a (swapE EL.2.2 LM.1 id EL.1).2] ∧ (mk = if x.last = block then findE LM.1 id + 1 else LM.2) ∧ (¬ findE LM.1 id < 0)) ?_ ?_
        · refine K0 (K1 ?_)
          refine l_y rfl rfl (y_move rfl) ?_
          refine l_y rfl rfl (y_move rfl) ?_
          refine Z0 (fun h16_2 => ?_) (fun h16_2 => ?_)
          · refine K2 (K3 (L8 (K1 ?_)))
            refine l_y rfl rfl (y_move rfl) ?_
            refine l_y rfl rfl (y_move rfl) ?_
            refine l_y rfl rfl (D4) ?_
            refine l_y rfl rfl (y_nilCheck rfl rfl) ?_
            refine l_y rfl rfl (y_fldb (o' := 6) rfl) ?_
            refine Y1 hO rfl rfl (fun w hO => ?_)
            simp only [List.set_cons_zero, List.set_cons_succ] at hO
            refine K2 ?_
            exact q_cut (_) ⟨rfl, rfl, rfl, rfl, rfl, rfl, rfl, rfl, trivial⟩ ⟨hO.only [.b g, .o a, .o s, .o l], (by first | (rw [if_pos h16_2]; done) | (rw [if_neg h16_2]; done)), (by omega)⟩
          · refine K2 (K3 (L9 (K5 ?_)))
            exact q_cut (_) ⟨rfl, rfl, rfl, rfl, rfl, rfl, rfl, rfl, trivial⟩ ⟨hO.only [.b g, .o a, .o s, .o l], (by first | (rw [if_pos h16_2]; done) | (rw [if_neg h16_2]; done)), (by omega)⟩
        · rintro mk w ⟨hO, hmk, h11⟩
          refine K0 ?_
          refine da_region (by intro c a d v w h; cases d <;> exact h) ?_
          have hO := hO.drew
          refine da_phase _ [7] (SO.ks [.b g] hO) ?_
          refine dx_u 0 (by kernel_rfl) rfl rfl rfl (fun w => y_move rfl) ?_
          refine dx_u 1 (by kernel_rfl) rfl rfl rfl (fun w => y_nilCheck rfl rfl) ?_
          refine dx_u 2 (by kernel_rfl) rfl rfl rfl (fun w => y_fldb (o' := 0) rfl) ?_
          refine dx_y 3 (by kernel_rfl) rfl rfl rfl (fun w ⟨m, hw⟩ => D5 hw rfl) ?_
          refine dx_u 4 (by kernel_rfl) rfl rfl rfl (fun w => y_move rfl) ?_
          refine dx_u 6 (by kernel_rfl) rfl rfl rfl (fun w => y_move rfl) ?_
          refine dx_only 5 (by kernel_rfl) rfl rfl ?_
          refine CK [] hO rfl (fun k' hx hr hO' => inside_spec (hO := hO')) ?_
          rintro _ _ w ⟨rfl, rfl⟩ hO
          simp only [List.cons_append, List.nil_append] at hO
          refine o_done ?_
          refine ⟨SO.ks [.b g] hO, ?_⟩
          refine dx_close 7 (by kernel_rfl) rfl rfl ?_
          refine CK [.o a] hO rfl (fun k' hx hr hO' => PutG_spec (want := EL.1) (before := -1) (id := x.last) hE3 hlst htw (.inl rfl) (hO := hO')) ?_
          rintro _ _ w ⟨⟨e9, rfl⟩, rfl⟩ hO
          simp only [List.cons_append, List.nil_append] at hO
          refine o_done ?_
          refine da_end (by kernel_rfl) ?_
          refine K3 (K1 ?_)
          refine l_y rfl rfl (y_move rfl) ?_
          refine l_y rfl rfl (y_assign rfl) ?_
          refine K2 (K8 ?_)
          obtain ⟨A9, st9, L9, mk9, q9, d9, hO, hS⟩ : ∃ A9 st9 L9 mk9, ∃ (q9 : Option Addr) (d9 : Nat), Own k w [agB g a s l nm fo errs mk9, arenaL a A9, stkL s a st9, actL l a L9] ∧ innS block q9 d9 x = (⟨A9, st9, L9, mk9, EL.1, x.at' - 1, x.count + 1⟩ : Ag) := by
            first
            | exact ⟨_, _, _, _, none, 0, hO.only [.b g, .o a, .o s, .o l], by unfold innS; rw [← hid, ← hLM, if_pos h11_1]⟩
            | exact ⟨_, _, _, _, q1, d1, hO.only [.b g, .o a, .o s, .o l], by unfold innS; rw [← hid, ← hLM, if_neg (by omega), ← hEL, ← hmk]⟩
          have hI9 := hI.step (block := block) k hn0 hne2 q9 d9
          rw [hS] at hI9
          exact q_next ((⟨A9, st9, L9, mk9, EL.1, x.at' - 1, x.count + 1⟩ : Ag)) ⟨rfl, rfl, rfl, rfl, rfl, rfl, rfl, trivial⟩ ⟨hO.only [.b g, .o a, .o s, .o l], hI9, (fun y h => hD y (.step x q9 d9 y hne2 (by rw [hS]; exact h))), (by dsimp only; omega)⟩ (by have := hI.lt; dsimp only; omega)
end
end Go.Proofs.YtoohapbaelmkcaaGreat
end
