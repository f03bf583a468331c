/- The list of active formatting elements as it lies in memory, and the walks of its plain functions; no condition. -/
import Derived.Test.YtoohapbaelmkcaaGreatStk1
set_option linter.unusedVariables false
set_option linter.unusedSimpArgs false
set_option maxRecDepth 100000
namespace Go.Proofs.YtoohapbaelmkcaaGreat
open Go Go.Hb Go.RowKit
section
variable {P : Program} {ops : Array Oper} {Q : Exit → Act → World → Prop} {n : Nat} {ds : List Deferred} {E : Env} {w : World} {k : Ctx} {l : List HP}
variable {rest : List Oper} {d : Option Tmp} {ty : TypeId} {pos : String} {aft : Array Edge} {g : Option (Nat × Bool)}
/-- copy(x[i:], x[i+1:]) of one's own x -/
theorem s_cpTail {t u T : TypeId} {agg : Bool} {sz : Nat} [hu : Und P t (.slice T)] [hl : Lay P T agg sz] {x y : Operand} {p : Option Addr} {c i : Nat} {α : Type} {enc : α → List Value} {xs : List α} {rl : List HP} (hO : Own k w l) (hx : ev E x = some (.slice (subp p c i sz) (xs.length - i) (c - i))) (hy : ev E y = some (.slice (subp p c (i + 1) sz) (xs.length - (i + 1)) (c - (i + 1)))) {sz' : Nat} [hp : PkP l p T α c sz' enc xs rl] [ho : OneC enc sz] (hi : i < xs.length)
    (h : ∀ w', Own k w' (sls p c T sz enc (xs.take i ++ xs.drop (i + 1) ++ xs.drop (xs.length - 1)) :: rl) → LW P ops Q n ds rest (E.put d (.int .i64 ((xs.length - (i + 1) : Nat) : Int))) w') (hsz : sz' = sz := by rfl) (hg : gd ops E g = some true := by rfl) (hd : dok n d = true := by rfl) : LW P ops Q n ds (⟨d, .call ⟨.builtin .copy, #[x, y], #[t, u]⟩, ty, pos, aft, g⟩ :: rest) E w := by
  subst hsz
  have hO1 := hO.pull hp.pull
  have hv := sls_sli (p := p) hO1
  have hf := sls_fct (p := p) hO1
  obtain ⟨b, o, rfl⟩ := hf.2 (by omega)
  have hv2 := sli_tl (cuts_holds w) hv (i + 1) (by omega)
  have hO2 := arr_sls hO1 rfl
  have hlen : (xs.drop (i + 1)).length = xs.length - (i + 1) := by simp
  have hs : Src P w sz' (.slice (subp (some ⟨b, o, none⟩) c (i + 1) sz') (xs.length - (i + 1)) (c - (i + 1))) ((xs.drop (i + 1)).map enc).length ((xs.drop (i + 1)).map enc).flatten := by
    rw [List.length_map]
    rw [← hlen] at hv2 ⊢
    exact src_sli hv2
  refine s_copy (i := i) (news := (xs.drop (i + 1)).map enc) hO2 (.hd _ _) hg hd hx hy hs (OneC.rows _) (by simp; omega) (by simp; omega) (fun _ => ?_) fun w' hO3 => ?_
  · rw [subp, if_neg (by have := hf.1; omega)]; simp only [Option.map_some, Addr.add_lit]
  · rw [List.length_map, hlen] at hO3 ⊢
    refine h w' ?_
    have e : (xs.map enc).take i ++ (xs.drop (i + 1)).map enc ++ (xs.map enc).drop (i + (xs.length - (i + 1))) = (xs.take i ++ xs.drop (i + 1) ++ xs.drop (xs.length - 1)).map enc := by
      rw [show i + (xs.length - (i + 1)) = xs.length - 1 by omega]; simp
    rw [e] at hO3
    refine sls_mk (sl_shut hO3 rfl) ?_ rfl
    simp
end
section
variable {k : Ctx} {w : World} {s a c : Nat} {p : Option Addr} {L : List Api_entry} {A : List Node_one}
/-! the list -/
abbrev aB (s a : Nat) (p : Option Addr) (n c : Nat) : HP := blk s 113 [.pointer (some ⟨a, 0, none⟩), .slice p n c]
abbrev aI (p : Option Addr) (c : Nat) (l : List Api_entry) : HP := sls p c 55 10 Api_entry.cells l
def actL (s a : Nat) (l : List Api_entry) : HP := fun h => ∃ x : Option Addr × Nat, sep [aB s a x.1 l.length x.2, aI x.1 x.2 l] h
theorem actL_open {M : List HP} (hO : Own k w (actL s a L :: M)) : ∃ p c, Gs p L.length ∧ L.length ≤ c ∧ Own k w (aB s a p L.length c :: aI p c L :: M) := by
  obtain ⟨⟨p, c⟩, hO⟩ := Own.ex (A := fun (x : Option Addr × Nat) => sep [aB s a x.1 L.length x.2, aI x.1 x.2 L]) hO
  have hO := Own.open hO
  simp only [List.cons_append, List.nil_append] at hO
  exact ⟨p, c, (sls_fct (p := p) hO).2, (sls_fct (p := p) hO).1, hO⟩
theorem actL_shut {M : List HP} {n : Nat} (hO : Own k w (aB s a p n c :: aI p c L :: M)) (hn : n = L.length := by first | rfl | simp) : Own k w (actL s a L :: M) := by
  subst hn
  exact (Own.shut (l := [aB s a p L.length c, aI p c L]) hO).tell fun h hA => ⟨(p, c), hA⟩
instance (priority := high) AtK.hact (s a : Nat) (l : List Api_entry) (M : List HP) : AtK (actL s a l :: M) (.o s) (actL s a l) M := ⟨.hd _ M⟩
theorem aNew_spec {a : Nat} (hn : 0 < A.length) (hO : Own k w [arenaL a A]) :
    Tri Tryz.prog 24 #[.pointer (some ⟨a, 0, none⟩)] k w fun v m => ∃ s, v = .tuple #[.pointer (some ⟨s, 0, none⟩), .int .i64 0] ∧ m = [arenaL a A, actL s a []] := by
  refine enter (args := [.pointer (some ⟨a, 0, none⟩)]) Tryz.func24 rfl rfl ?_
  refine K0 (K1 ?_)
  refine l_y rfl rfl (y_assign rfl) ?_
  refine l_y rfl rfl (y_assign rfl) ?_
  refine K2 (K3 (K0 (K0 (K1 ?_))))
  refine l_y rfl rfl (y_move rfl) ?_
  refine CK [.o a] hO rfl (fun k' hx hr hO' => LenC_spec hn (hO := hO')) ?_
  rintro _ _ w ⟨rfl, rfl⟩ hO
  simp only [List.cons_append, List.nil_append] at hO
  refine N3 ?_
  refine K2 (K3 (L9 (K5 (K3 (K0 (K1 ?_))))))
  refine l_y rfl rfl (y_move rfl) ?_
  refine s_build (parts := [(0, .tmp 7)]) (cs := [.pointer (some ⟨a, 0, none⟩), .slice none 0 0]) rfl rfl (fun a ha => partsOf_sound ha _ _ rfl) (by kernel_rfl) ?_
  refine s_box (vs := [.pointer (some ⟨a, 0, none⟩), .slice none 0 0]) hO rfl rfl rfl (by rfl) fun b9 w hO => ?_
  refine l_y rfl rfl (y_assign rfl) ?_
  refine l_y rfl rfl (y_assign rfl) ?_
  refine K2 (K3 (K6 ?_))
  have hO : Own k w (aI none 0 [] :: _) := sl_nil 55 10 hO
  exact fin2 rfl rfl rfl ⟨_, ⟨_, rfl, rfl⟩, ((actL_shut (L := []) (hO.ks [.b b9, .p none]) rfl).ks [.o a, .o b9]).two⟩
theorem anone_spec {n : Nat} (hO : Own k w [aB s a p n c]) :
    Tri Tryz.prog 50 #[.pointer (some ⟨s, 0, none⟩)] k w fun v m => v = .bool false ∧ m = [aB s a p n c] := by
  refine enter (args := [.pointer (some ⟨s, 0, none⟩)]) Tryz.func50 rfl rfl ?_
  refine K0 (K1 ?_)
  refine l_y rfl rfl (y_assign rfl) ?_
  refine K2 (K3 (K0 (K1 ?_)))
  refine l_y rfl rfl (y_move rfl) ?_
  refine l_y rfl rfl (y_eqPnil rfl rfl rfl) ?_
  refine l_y rfl rfl (y_move rfl) ?_
  refine l_y rfl rfl (y_move rfl) ?_
  refine l_y rfl rfl (y_nilCheck rfl rfl) ?_
  refine l_y rfl rfl (y_fldb (o' := 0) rfl) ?_
  refine l_y rfl rfl (D5 hO rfl) ?_
  refine l_y rfl rfl (y_eqPnil rfl rfl rfl) ?_
  refine l_y rfl rfl (y_pick_f rfl rfl) ?_
  refine l_y rfl rfl (y_assign rfl) ?_
  refine K2 (K3 (K6 ?_))
  exact fin1 rfl rfl ⟨_, ⟨rfl, rfl⟩, hO⟩
theorem aLen_spec (hO : Own k w [actL s a L]) :
    Tri Tryz.prog 16 #[.pointer (some ⟨s, 0, none⟩)] k w fun v m => v = .int .i64 ((L.length : Nat) : Int) ∧ m = [actL s a L] := by
  refine enter (args := [.pointer (some ⟨s, 0, none⟩)]) Tryz.func16 rfl rfl ?_
  obtain ⟨p, c, hg, hlc, hO⟩ := actL_open hO
  refine K0 (K1 ?_)
  refine l_y rfl rfl (y_assign rfl) ?_
  refine K2 (K3 (K0 (K0 (K1 ?_))))
  refine l_y rfl rfl (y_move rfl) ?_
  refine CK [.b s] hO rfl (fun k' hx hr hO' => anone_spec (hO := hO')) ?_
  rintro _ _ w ⟨rfl, rfl⟩ hO
  simp only [List.cons_append, List.nil_append] at hO
  refine K2 (K3 (L9 (K5 (K3 (K0 (K1 ?_))))))
  refine l_y rfl rfl (y_move rfl) ?_
  refine l_y rfl rfl (y_nilCheck rfl rfl) ?_
  refine l_y rfl rfl (y_fldb (o' := 1) rfl) ?_
  refine l_y rfl rfl (D5 hO rfl) ?_
  refine l_y rfl rfl (y_lenL rfl) ?_
  refine l_y rfl rfl (y_assign rfl) ?_
  refine K2 (K3 (K6 ?_))
  exact fin1 rfl rfl ⟨_, ⟨rfl, rfl⟩, (actL_shut (hO.ks [.b s, .p p])).one⟩
def markE : Api_entry := ⟨-1, default⟩
theorem aMark_spec (hl : L.length ≤ 2000000) (hO : Own k w [actL s a L]) :
    Tri Tryz.prog 31 #[.pointer (some ⟨s, 0, none⟩)] k w fun v m => v = .int .i64 0 ∧ m = [actL s a (L ++ [markE])] := by
  refine enter (args := [.pointer (some ⟨s, 0, none⟩)]) Tryz.func31 rfl rfl ?_
  obtain ⟨p, c, hg, hlc, hO⟩ := actL_open hO
  refine K0 (K1 ?_)
  refine l_y rfl rfl (y_assign rfl) ?_
  refine K2 (K3 (K0 (K0 (K1 ?_))))
  refine l_y rfl rfl (y_move rfl) ?_
  refine CK [.b s] hO rfl (fun k' hx hr hO' => anone_spec (hO := hO')) ?_
  rintro _ _ w ⟨rfl, rfl⟩ hO
  simp only [List.cons_append, List.nil_append] at hO
  refine K2 (K3 (L9 (K5 (K3 (K0 (K1 ?_))))))
  refine l_y rfl rfl (y_move rfl) ?_
  refine l_y rfl rfl (y_move rfl) ?_
  refine l_y rfl rfl (y_nilCheck rfl rfl) ?_
  refine l_y rfl rfl (y_fldb (o' := 1) rfl) ?_
  refine l_y rfl rfl (D5 hO rfl) ?_
  refine s_build (parts := [(0, .const (.int .i64 (-1)))]) (cs := [.int .i64 (-1), .int .i64 0, .string ⟨#[]⟩, .string ⟨#[]⟩, .string ⟨#[]⟩, .int .i64 0, .bool false, .int .i32 0, .bool false, .slice none 0 0]) rfl rfl (fun a ha => partsOf_sound ha _ _ rfl) (by kernel_rfl) ?_
  refine s_lit (parts := [(0, .tmp 10)]) (enc := Api_entry.cells) [⟨(-1), ⟨0, ⟨#[]⟩, ⟨#[]⟩, ⟨#[]⟩, 0, false, 0, false, none, [], 0⟩⟩] [.agg [.int .i64 (-1), .int .i64 0, .string ⟨#[]⟩, .string ⟨#[]⟩, .string ⟨#[]⟩, .int .i64 0, .bool false, .int .i32 0, .bool false, .slice none 0 0].toArray] hO rfl (fun b11 w hO => ?_)
  refine s_app hO rfl rfl (src_own hO) (fun p12 c12 w hO gs12 => ?_)
  refine l_y rfl rfl (y_nilCheck rfl rfl) ?_
  refine l_y rfl rfl (y_fldb (o' := 1) rfl) ?_
  refine Y1 hO rfl rfl (fun w hO => ?_)
  simp only [List.set_cons_zero, List.set_cons_succ] at hO
  refine K2 (K3 (K0 (K1 ?_)))
  refine l_y rfl rfl (y_assign rfl) ?_
  refine K2 (K3 (K6 ?_))
  exact fin1 rfl rfl ⟨_, ⟨rfl, rfl⟩, (actL_shut (hO.ks [.b s, .p p12])).one⟩
def findE (L : List Api_entry) (x : Int) : Int := if x = -1 then -1 else idx (fun y : Api_entry => decide (y.Node = x)) L
theorem aFindB_spec {x : Int} (hg : Gs p L.length) (hl : L.length ≤ 2000000) (hO : Own k w [aB s a p L.length c, aI p c L]) :
    Tri Tryz.prog 36 #[.pointer (some ⟨s, 0, none⟩), .int .i64 x] k w fun v m => v = .int .i64 (findE L x) ∧ m = [aB s a p L.length c, aI p c L] := by
  refine enter (args := [.pointer (some ⟨s, 0, none⟩), .int .i64 x]) Tryz.func36 rfl rfl ?_
  refine K0 (K1 ?_)
  refine l_y rfl rfl (y_assign rfl) ?_
  refine K2 (K3 (K0 (K0 (K1 ?_))))
  refine l_y rfl rfl (y_move rfl) ?_
  refine CK [.b s] hO rfl (fun k' hx hr hO' => anone_spec (hO := hO')) ?_
  rintro _ _ w ⟨rfl, rfl⟩ hO
  simp only [List.cons_append, List.nil_append] at hO
  refine l_y rfl rfl (y_move rfl) ?_
  refine l_y rfl rfl (y_move rfl) ?_
  refine Z0 (fun h1_4 => ?_) (fun h1_4 => ?_)
  · refine l_y rfl rfl (y_pick_f rfl rfl) ?_
    refine K2 (K3 (L8 (K0 (K1 ?_))))
    refine l_y rfl rfl (y_assign rfl) ?_
    refine K2 (K3 (K6 (K9 ?_)))
    exact fin1 rfl rfl ⟨_, ⟨by rw [findE, if_pos h1_4], rfl⟩, hO.only [.b s, .p p]⟩
  · refine l_y rfl rfl (y_pick_f rfl rfl) ?_
    refine K2 (K3 (L9 (K5 (K3 (K0 (K0 (K1 ?_)))))))
    refine l_y rfl rfl (y_move rfl) ?_
    refine l_y rfl rfl (y_nilCheck rfl rfl) ?_
    refine l_y rfl rfl (y_fldb (o' := 1) rfl) ?_
    refine l_y rfl rfl (D5 hO rfl) ?_
    refine l_y rfl rfl (y_lenL rfl) ?_
    refine l_y rfl rfl (y_move rfl) ?_
    refine K2 (K3 (K4 ?_))
    refine c_rounds (X := Nat) (fun i => [(1, .int .i64 x), (4, .int .i64 0), (16, .slice p L.length c), (17, .int .i64 ((L.length : Nat) : Int)), (18, .int .i64 (i : Int))]) (fun i w => Own k w [aB s a p L.length c, aI p c L] ∧ (i ≤ L.length) ∧ (∀ j, j < i → decide ((at_ L j).Node = x) = false)) (fun i => L.length - i) (0) ⟨rfl, rfl, rfl, rfl, rfl, trivial⟩ ⟨hO.only [.b s, .p p], Nat.zero_le _, fun j hj => absurd hj (Nat.not_lt_zero j)⟩ ?_
    rintro i w m hm ⟨hO, hi, hn⟩
    refine K0 (K1 ?_)
    refine Z0 (fun h4_0 => ?_) (fun h4_0 => ?_)
    · refine K2 (K3 (K0 (L8 (K5 (K3 (K0 (K4 (K0 (K1 ?_)))))))))
      refine l_y rfl rfl (y_move rfl) ?_
      refine l_y rfl rfl (y_idx rfl rfl) ?_
      refine l_y rfl rfl (y_eA (x0 := 0) (cs := [.int .i64 (at_ L ((i : Int) : Int).toNat).Node, .int .i64 (at_ L ((i : Int) : Int).toNat).Token.Kind, .string (at_ L ((i : Int) : Int).toNat).Token.Name, .string (at_ L ((i : Int) : Int).toNat).Token.Data, .string (at_ L ((i : Int) : Int).toNat).Token.System, .int .i64 (at_ L ((i : Int) : Int).toNat).Token.Has, .bool (at_ L ((i : Int) : Int).toNat).Token.Quirks, .int .i32 (at_ L ((i : Int) : Int).toNat).Token.Char, .bool (at_ L ((i : Int) : Int).toNat).Token.Self, .slice (at_ L ((i : Int) : Int).toNat).Token.AttrsP (at_ L ((i : Int) : Int).toNat).Token.Attrs.length (at_ L ((i : Int) : Int).toNat).Token.AttrsC]) hO rfl) ?_
      refine s_alloc (vs := [.int .i64 0, .int .i64 0, .string ⟨#[]⟩, .string ⟨#[]⟩, .string ⟨#[]⟩, .int .i64 0, .bool false, .int .i32 0, .bool false, .slice none 0 0]) hO rfl rfl rfl fun b6 w hO => ?_
      refine l_y rfl rfl (y_assign rfl) ?_
      refine Y3 hO rfl rfl (fun w hO => ?_)
      refine K2 (K3 (K0 (K1 ?_)))
      refine l_y rfl rfl (y_fldb (o' := 0) rfl) ?_
      refine l_y rfl rfl (D5 hO rfl) ?_
      refine l_y rfl rfl (y_move rfl) ?_
      refine Z0 (fun h6_3 => ?_) (fun h6_3 => ?_)
      · refine K2 (K3 (L8 (K0 (K1 ?_))))
        refine l_y rfl rfl (y_move rfl) ?_
        refine l_y rfl rfl (y_assign rfl) ?_
        refine K2 (K3 (K6 (L0 (K9 (K9 (L0 (K9 ?_)))))))
        rw [show findE L x = i by rw [findE, if_neg h1_4]; exact idx_at (i := i) (by omega) (decide_eq_true h6_3) hn]
        exact fin1 rfl rfl ⟨_, ⟨rfl, rfl⟩, hO.only [.b s, .p p]⟩
      · refine K2 (K3 (L9 (K5 (K8 (K3 (K1 ?_))))))
        refine l_y rfl rfl (D4) ?_
        refine l_y rfl rfl (y_move rfl) ?_
        refine K2 ?_
        exact q_next (i + 1) ⟨rfl, rfl, rfl, rfl, rfl, trivial⟩ ⟨hO.only [.b s, .p p], by omega, fun j hj => (by by_cases e : j = i; (subst e; exact decide_eq_false (fun h => h6_3 h)); exact hn j (by omega))⟩ (by omega)
    · refine K2 (K3 (K0 (L9 (K7 (L1 (L1 (L2 (K3 (K0 (K1 ?_))))))))))
      refine l_y rfl rfl (y_assign rfl) ?_
      refine K2 (K3 (K6 ?_))
      rw [show findE L x = -1 by rw [findE, if_neg h1_4]; exact idx_none (fun j hj => hn j (by omega))]
      exact fin1 rfl rfl ⟨_, ⟨rfl, rfl⟩, hO.only [.b s, .p p]⟩
theorem aFind_spec {x : Int} (hl : L.length ≤ 2000000) (hO : Own k w [actL s a L]) :
    Tri Tryz.prog 36 #[.pointer (some ⟨s, 0, none⟩), .int .i64 x] k w fun v m => v = .int .i64 (findE L x) ∧ m = [actL s a L] := by
  obtain ⟨p, c, hg, hlc, hO⟩ := actL_open hO
  refine Ret.mono (aFindB_spec hg hl hO) ?_
  rintro v w' ⟨m, ⟨rfl, rfl⟩, hO⟩
  exact ⟨_, ⟨rfl, rfl⟩, actL_shut hO⟩
/-- where the last marker stands (0: nowhere, or there) -/
structure Lm (L : List Api_entry) (i left : Nat) : Prop where
  le : left ≤ i
  hi : i ≤ L.length
  aft : ∀ j, left < j → j < i → (at_ L j).Node ≠ -1
  it : (left = 0) ∨ (left < i ∧ (at_ L left).Node = -1)
theorem aAt_spec {i : Int} (hl : L.length ≤ 2000000) (hO : Own k w [actL s a L]) :
    Tri Tryz.prog 17 #[.pointer (some ⟨s, 0, none⟩), .int .i64 i] k w fun v m => (((i < 0 ∨ (L.length : Int) ≤ i) ∧ v = .tuple #[.agg (Api_entry.cells default).toArray, .int .i64 1]) ∨ ((0 ≤ i ∧ i < L.length) ∧ v = .tuple #[.agg (Api_entry.cells (at_ L i.toNat)).toArray, .int .i64 0])) ∧ m = [actL s a L] := by
  refine enter (args := [.pointer (some ⟨s, 0, none⟩), .int .i64 i]) Tryz.func17 rfl rfl ?_
  obtain ⟨p, c, hg, hlc, hO⟩ := actL_open hO
  refine K0 (K1 ?_)
  refine s_alloc (vs := [.int .i64 0, .int .i64 0, .string ⟨#[]⟩, .string ⟨#[]⟩, .string ⟨#[]⟩, .int .i64 0, .bool false, .int .i32 0, .bool false, .slice none 0 0]) hO rfl rfl rfl fun b4 w hO => ?_
  refine l_y rfl rfl (y_assign rfl) ?_
  refine K2 (K3 (K0 (K4 (K0 (K1 ?_)))))
  refine l_y rfl rfl (y_move rfl) ?_
  refine CK [.b s] hO rfl (fun k' hx hr hO' => anone_spec (hO := hO')) ?_
  rintro _ _ w ⟨rfl, rfl⟩ hO
  simp only [List.cons_append, List.nil_append] at hO
  refine l_y rfl rfl (y_assign rfl) ?_
  refine K2 (K3 (L9 (K0 (K1 ?_))))
  refine l_y rfl rfl (y_move rfl) ?_
  refine Z0 (fun h3_1 => ?_) (fun h3_1 => ?_)
  · refine l_y rfl rfl (y_move rfl) ?_
    repeat refine M2 ?_
    refine l_y rfl rfl (y_pick_t rfl rfl) ?_
    refine l_y rfl rfl (y_assign rfl) ?_
    refine K2 (K3 (L8 (K0 (K1 ?_))))
    refine s_build (parts := []) (cs := [.int .i64 0, .int .i64 0, .string ⟨#[]⟩, .string ⟨#[]⟩, .string ⟨#[]⟩, .int .i64 0, .bool false, .int .i32 0, .bool false, .slice none 0 0]) rfl rfl (fun a ha => partsOf_sound ha _ _ rfl) (by kernel_rfl) ?_
    refine Y3 hO rfl rfl (fun w hO => ?_)
    refine l_y rfl rfl (y_assign rfl) ?_
    refine K2 (K3 (K6 (L0 (K9 ?_))))
    exact finC1 hO rfl rfl rfl ⟨_, ⟨.inl ⟨by omega, rfl⟩, rfl⟩, (actL_shut (hO.ks [.b s, .p p])).one⟩
  · refine l_y rfl rfl (y_move rfl) ?_
    refine l_y rfl rfl (y_move rfl) ?_
    refine l_y rfl rfl (y_move rfl) ?_
    refine l_y rfl rfl (y_nilCheck rfl rfl) ?_
    refine l_y rfl rfl (y_fldb (o' := 1) rfl) ?_
    refine l_y rfl rfl (D5 hO rfl) ?_
    refine l_y rfl rfl (y_lenL rfl) ?_
    refine Z0 (fun h3_9 => ?_) (fun h3_9 => ?_)
    · refine l_y rfl rfl (y_pick_f rfl rfl) ?_
      refine l_y rfl rfl (y_assign rfl) ?_
      refine K2 (K3 (L8 (K0 (K1 ?_))))
      refine s_build (parts := []) (cs := [.int .i64 0, .int .i64 0, .string ⟨#[]⟩, .string ⟨#[]⟩, .string ⟨#[]⟩, .int .i64 0, .bool false, .int .i32 0, .bool false, .slice none 0 0]) rfl rfl (fun a ha => partsOf_sound ha _ _ rfl) (by kernel_rfl) ?_
      refine Y3 hO rfl rfl (fun w hO => ?_)
      refine l_y rfl rfl (y_assign rfl) ?_
      refine K2 (K3 (K6 (L0 (K9 ?_))))
      exact finC1 hO rfl rfl rfl ⟨_, ⟨.inl ⟨by omega, rfl⟩, rfl⟩, (actL_shut (hO.ks [.b s, .p p])).one⟩
    · refine l_y rfl rfl (y_pick_f rfl rfl) ?_
      refine l_y rfl rfl (y_assign rfl) ?_
      refine K2 (K3 (L9 (K5 (K8 (K3 (K0 (K1 ?_)))))))
      refine l_y rfl rfl (y_move rfl) ?_
      refine l_y rfl rfl (y_nilCheck rfl rfl) ?_
      refine l_y rfl rfl (y_fldb (o' := 1) rfl) ?_
      refine l_y rfl rfl (D5 hO rfl) ?_
      refine l_y rfl rfl (y_move rfl) ?_
      refine l_y rfl rfl (y_idx rfl rfl) ?_
      refine l_y rfl rfl (y_eA (x0 := 0) (cs := [.int .i64 (at_ L (i : Int).toNat).Node, .int .i64 (at_ L (i : Int).toNat).Token.Kind, .string (at_ L (i : Int).toNat).Token.Name, .string (at_ L (i : Int).toNat).Token.Data, .string (at_ L (i : Int).toNat).Token.System, .int .i64 (at_ L (i : Int).toNat).Token.Has, .bool (at_ L (i : Int).toNat).Token.Quirks, .int .i32 (at_ L (i : Int).toNat).Token.Char, .bool (at_ L (i : Int).toNat).Token.Self, .slice (at_ L (i : Int).toNat).Token.AttrsP (at_ L (i : Int).toNat).Token.Attrs.length (at_ L (i : Int).toNat).Token.AttrsC]) hO rfl) ?_
      refine Y3 hO rfl rfl (fun w hO => ?_)
      refine l_y rfl rfl (y_assign rfl) ?_
      refine K2 (K3 (K6 ?_))
      exact finC1 hO rfl rfl rfl ⟨_, ⟨.inr ⟨by omega, rfl⟩, rfl⟩, (actL_shut (hO.ks [.b s, .p p])).one⟩
end
end Go.Proofs.YtoohapbaelmkcaaGreat
