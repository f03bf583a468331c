/- The walks of the stack's scopes and drops, of a stack as one part; no condition. -/
import Derived.Test.YtbhicbpfdbnpfaaStk3
set_option linter.unusedVariables false
set_option linter.unusedSimpArgs false
set_option maxRecDepth 100000
namespace Go.Proofs.Ytbhicbpfdbnpfaa
open Go Go.Hb Go.RowKit
theorem ScopeC_spec {k : Ctx} {w : World} {b : Nat} {x : Int} {n : Api_node} {name : ByteArray} (hO : Own k w [sep [blk b 9 [.string name]]]) :
    Tri Try.prog 87 #[.int .i64 x, .agg (Api_node.cells n).toArray, .pointer (some ⟨b, 0, none⟩)] k w fun v m => v = .bool (namB n.Space n.Name [name]) ∧ m = [sep [blk b 9 [.string name]]] := by
  refine enter (args := [.int .i64 x, .agg (Api_node.cells n).toArray, .pointer (some ⟨b, 0, none⟩)]) Try.func87 rfl rfl ?_
  have hO := Own.open hO
  simp only [List.cons_append, List.nil_append] at hO
  refine K0 (K1 ?_)
  refine s_box (vs := [.int .i64 n.Kind, .int .i64 n.Space, .string n.Name, .slice n.AttrsP n.Attrs.length n.AttrsC, .string n.Data, .string n.System, .int .i64 n.Parent, .int .i64 n.First, .int .i64 n.Last, .int .i64 n.Prev, .int .i64 n.Next, .int .i64 n.Inner]) hO rfl rfl rfl (by rfl) fun b4 w hO => ?_
  refine l_y rfl rfl (y_assign rfl) ?_
  refine K2 (K3 (K0 (K1 ?_)))
  refine l_y rfl rfl (D8 (cs := [.int .i64 n.Kind, .int .i64 n.Space, .string n.Name, .slice n.AttrsP n.Attrs.length n.AttrsC, .string n.Data, .string n.System, .int .i64 n.Parent, .int .i64 n.First, .int .i64 n.Last, .int .i64 n.Prev, .int .i64 n.Next, .int .i64 n.Inner]) hO rfl) ?_
  refine l_y rfl rfl (D5 hO rfl) ?_
  refine s_lit (parts := [(0, .tmp 7)]) (enc := eS) [name] [.string name] hO rfl (fun b8 w hO => ?_)
  refine CK [] hO rfl (fun k' hx hr hO' => named_spec (n := n) (ts := [name]) (sls_roK (p := (some ⟨b8, 0, none⟩)) hr (sls_fct hO)) (by simp) (hO := hO')) ?_
  rintro _ _ w ⟨rfl, rfl⟩ hO
  simp only [List.nil_append] at hO
  refine l_y rfl rfl (y_assign rfl) ?_
  refine K2 (K3 (K6 ?_))
  exact fin1 rfl rfl ⟨_, ⟨rfl, rfl⟩, (Own.shut (l := [blk b 9 [.string name]]) (hO.ks [.b b])).one⟩
theorem NodeScopeC_spec {k : Ctx} {w : World} {b : Nat} {x id : Int} {n : Api_node} (hO : Own k w [sep [blk b 3 [.int .i64 id]]]) :
    Tri Try.prog 155 #[.int .i64 x, .agg (Api_node.cells n).toArray, .pointer (some ⟨b, 0, none⟩)] k w fun v m => v = .bool (decide (x = id)) ∧ m = [sep [blk b 3 [.int .i64 id]]] := by
  refine enter (args := [.int .i64 x, .agg (Api_node.cells n).toArray, .pointer (some ⟨b, 0, none⟩)]) Try.func155 rfl rfl ?_
  have hO := Own.open hO
  simp only [List.cons_append, List.nil_append] at hO
  refine K0 (K1 ?_)
  refine s_box (vs := [.int .i64 n.Kind, .int .i64 n.Space, .string n.Name, .slice n.AttrsP n.Attrs.length n.AttrsC, .string n.Data, .string n.System, .int .i64 n.Parent, .int .i64 n.First, .int .i64 n.Last, .int .i64 n.Prev, .int .i64 n.Next, .int .i64 n.Inner]) hO rfl rfl rfl (by rfl) fun b4 w hO => ?_
  refine l_y rfl rfl (y_assign rfl) ?_
  refine K2 (K3 (K0 (K1 ?_)))
  refine l_y rfl rfl (y_move rfl) ?_
  refine l_y rfl rfl (D5 hO rfl) ?_
  refine Z0 (fun h1_2 => ?_) (fun h1_2 => ?_)
  · refine l_y rfl rfl (y_assign rfl) ?_
    refine K2 (K3 (K6 ?_))
    exact fin1 rfl rfl ⟨_, ⟨by simp [*], rfl⟩, (Own.shut (l := [blk b 3 [.int .i64 id]]) (hO.ks [.b b])).one⟩
  · refine l_y rfl rfl (y_assign rfl) ?_
    refine K2 (K3 (K6 ?_))
    exact fin1 rfl rfl ⟨_, ⟨by simp [*], rfl⟩, (Own.shut (l := [blk b 3 [.int .i64 id]]) (hO.ks [.b b])).one⟩
theorem sScope_spec {k : Ctx} {w : World} {s a : Nat} {l : List Int} {A : List Node_one} {name : ByteArray} {kind : Int} (hn : 0 < A.length) (ha : AttrsOk A) (hel : AllEl A l) (hl : l.length ≤ 1000000) (hO : Own k w [arenaL a A, stkL s a l]) :
    Tri Try.prog 30 #[.pointer (some ⟨s, 0, none⟩), .string name, .int .i64 kind] k w fun v m => v = .bool (scopeL A (namA A [name]) kind l) ∧ m = [arenaL a A, stkL s a l] := by
  refine enter (args := [.pointer (some ⟨s, 0, none⟩), .string name, .int .i64 kind]) Try.func30 rfl rfl ?_
  obtain ⟨p, c, hg, hlc, hO⟩ := stkL_open (hO.ks [.o s])
  refine K0 (K1 ?_)
  refine s_box (vs := [.string name]) hO rfl rfl rfl (by rfl) fun b4 w hO => ?_
  refine l_y rfl rfl (y_assign rfl) ?_
  refine K2 (K3 (K0 (K1 ?_)))
  refine l_y rfl rfl (y_move rfl) ?_
  refine l_y rfl rfl (y_move rfl) ?_
  refine l_y rfl rfl (y_makeFunc rfl rfl) ?_
  have hO := (Own.shut (l := [blk b4 9 [.string name]]) (hO.ks [.b b4])).ks [.o a, .b s, .p p, .s]
  refine CK [.o a, .b s, .p p, .s] hO rfl (fun k' hx hr hO' => scope_spec (caps := [.pointer (some ⟨b4, 0, none⟩)]) (isN := fun _ n => namB n.Space n.Name [name]) (is := namA A [name]) (fun k' w' x n hO => ScopeC_spec hO) (fun x n he hx => hx.nam he) hn ha hel hg hl (hO := hO')) ?_
  rintro _ _ w ⟨rfl, rfl⟩ hO
  simp only [List.cons_append, List.nil_append] at hO
  refine l_y rfl rfl (y_assign rfl) ?_
  refine K2 (K3 (K6 ?_))
  exact fin1 rfl rfl ⟨_, ⟨rfl, rfl⟩, ((stkL_shut (hO.ks [.b s, .p p])).ks [.o a, .o s]).two⟩
theorem sNodeScope_spec {k : Ctx} {w : World} {s a : Nat} {l : List Int} {A : List Node_one} {id kind : Int} (hn : 0 < A.length) (ha : AttrsOk A) (hel : AllEl A l) (hl : l.length ≤ 1000000) (hO : Own k w [arenaL a A, stkL s a l]) :
    Tri Try.prog 97 #[.pointer (some ⟨s, 0, none⟩), .int .i64 id, .int .i64 kind] k w fun v m => v = .bool (scopeL A (fun x => decide (x = id)) kind l) ∧ m = [arenaL a A, stkL s a l] := by
  refine enter (args := [.pointer (some ⟨s, 0, none⟩), .int .i64 id, .int .i64 kind]) Try.func97 rfl rfl ?_
  obtain ⟨p, c, hg, hlc, hO⟩ := stkL_open (hO.ks [.o s])
  refine K0 (K1 ?_)
  refine s_box (vs := [.int .i64 id]) hO rfl rfl rfl (by rfl) fun b4 w hO => ?_
  refine l_y rfl rfl (y_assign rfl) ?_
  refine K2 (K3 (K0 (K1 ?_)))
  refine l_y rfl rfl (y_move rfl) ?_
  refine l_y rfl rfl (y_move rfl) ?_
  refine l_y rfl rfl (y_makeFunc rfl rfl) ?_
  have hO := (Own.shut (l := [blk b4 3 [.int .i64 id]]) (hO.ks [.b b4])).ks [.o a, .b s, .p p, .s]
  refine CK [.o a, .b s, .p p, .s] hO rfl (fun k' hx hr hO' => scope_spec (caps := [.pointer (some ⟨b4, 0, none⟩)]) (isN := fun x _ => decide (x = id)) (is := fun x => decide (x = id)) (fun k' w' x n hO => NodeScopeC_spec hO) (fun x n he hx => rfl) hn ha hel hg hl (hO := hO')) ?_
  rintro _ _ w ⟨rfl, rfl⟩ hO
  simp only [List.cons_append, List.nil_append] at hO
  refine l_y rfl rfl (y_assign rfl) ?_
  refine K2 (K3 (K6 ?_))
  exact fin1 rfl rfl ⟨_, ⟨rfl, rfl⟩, ((stkL_shut (hO.ks [.b s, .p p])).ks [.o a, .o s]).two⟩
/-- up to and with the last that is one -/
def popR (p : Int → Bool) : List Int → Option (List Int)
  | [] => none
  | x :: r => if p x = true then some r else popR p r
def popTo (p : Int → Bool) (l : List Int) : Bool × List Int := match popR p l.reverse with | some r => (true, r.reverse) | none => (false, l)
theorem popR_snoc (p : Int → Bool) (l : List Int) (x : Int) : popR p (l ++ [x]).reverse = if p x = true then some l.reverse else popR p l.reverse := by simp [popR]
theorem popTo_yes {p : Int → Bool} {l m : List Int} (h : popR p l.reverse = some m.reverse) : popTo p l = (true, m) := by rw [popTo, h]; simp
theorem popTo_no {p : Int → Bool} {l : List Int} (h : popR p l.reverse = none) : popTo p l = (false, l) := by rw [popTo, h]
set_option maxHeartbeats 1000000 in
theorem sPopTo_spec {k : Ctx} {w : World} {s a : Nat} {l : List Int} {A : List Node_one} {name : ByteArray} (hn : 0 < A.length) (ha : AttrsOk A) (hel : AllEl A l) (hl : l.length ≤ 1000000) (hO : Own k w [arenaL a A, stkL s a l]) :
    Tri Try.prog 27 #[.pointer (some ⟨s, 0, none⟩), .string name] k w fun v m => v = .bool (popTo (namA A [name]) l).1 ∧ m = [arenaL a A, stkL s a (popTo (namA A [name]) l).2] := by
  refine enter (args := [.pointer (some ⟨s, 0, none⟩), .string name]) Try.func27 rfl rfl ?_
  obtain ⟨p, c, hg, hlc, hO⟩ := stkL_open (hO.ks [.o s])
  refine K0 (K1 ?_)
  refine l_y rfl rfl (y_assign rfl) ?_
  refine K2 (K3 (K0 (K0 (K1 ?_))))
  refine l_y rfl rfl (y_move rfl) ?_
  refine CK [.b s] hO rfl (fun k' hx hr hO' => sLen_spec (hO := hO')) ?_
  rintro _ _ w ⟨rfl, rfl⟩ hO
  simp only [List.cons_append, List.nil_append] at hO
  refine l_y rfl rfl (D4) ?_
  refine l_y rfl rfl (y_assign rfl) ?_
  refine K2 (K3 (K4 ?_))
  refine c_rounds (X := Int) (fun i => [(0, .pointer (some ⟨s, 0, none⟩)), (1, .string name), (4, .bool false), (5, .int .i64 i)]) (fun i w => Own k w [arenaL a A, sB s a p l.length c, sI p c l] ∧ (-1 ≤ i ∧ i < l.length) ∧ (popR (namA A [name]) l.reverse = popR (namA A [name]) (l.take (i + 1).toNat).reverse)) (fun i => (i + 1).toNat) ((l.length : Int) - 1) ⟨rfl, rfl, rfl, rfl, trivial⟩ ⟨hO.only [.o a, .b s, .p p], ⟨by omega, by omega⟩, by rw [List.take_of_length_le (by omega)]⟩ ?_
  rintro i w m hm ⟨hO, hi, hs⟩
  refine K0 (K0 (K1 ?_))
  refine l_y rfl rfl (y_move rfl) ?_
  refine Z0 (fun h2_1 => ?_) (fun h2_1 => ?_)
  · refine K2 (K3 (L8 (K5 (K3 (K0 (K4 (K0 ?_)))))))
    have hxe : elB A (at_ l i.toNat) = true := hel _ (at_mem (by omega))
    have hs2 := hs
    rw [show (i + 1).toNat = i.toNat + 1 by omega, take_succ_at (by omega), popR_snoc] at hs2
    refine K1 ?_
    refine l_y rfl rfl (y_move rfl) ?_
    refine l_y rfl rfl (y_move rfl) ?_
    refine l_y rfl rfl (y_nilCheck rfl rfl) ?_
    refine l_y rfl rfl (y_fldb (o' := 1) rfl) ?_
    refine l_y rfl rfl (y_fldb (o' := 1) rfl) ?_
    refine l_y rfl rfl (D5 hO rfl) ?_
    refine l_y rfl rfl (y_move rfl) ?_
    refine l_y rfl rfl (y_idx rfl rfl) ?_
    refine l_y rfl rfl (y_e1 (x0 := 0) hO rfl) ?_
    refine CK [.o a, .b s] hO rfl (fun k' hx hr hO' => look_spec hn ha (hO := hO')) ?_
    rintro _ _ w ⟨x4_9, hx4_9, rfl, rfl⟩ hO
    simp only [List.cons_append, List.nil_append] at hO
    refine l_y rfl rfl (y_move rfl) ?_
    refine l_y rfl rfl (y_extract rfl rfl) ?_
    refine l_y rfl rfl (y_extract rfl rfl) ?_
    refine s_alloc (vs := [.int .i64 0, .int .i64 0, .string ⟨#[]⟩, .slice none 0 0, .string ⟨#[]⟩, .string ⟨#[]⟩, .int .i64 0, .int .i64 0, .int .i64 0, .int .i64 0, .int .i64 0, .int .i64 0]) hO rfl rfl rfl fun b6 w hO => ?_
    refine Y3 hO rfl rfl (fun w hO => ?_)
    refine l_y rfl rfl (y_assign rfl) ?_
    refine K2 (K3 (K0 (K1 ?_)))
    refine l_y rfl rfl (D8 (cs := [.int .i64 x4_9.Kind, .int .i64 x4_9.Space, .string x4_9.Name, .slice x4_9.AttrsP x4_9.Attrs.length x4_9.AttrsC, .string x4_9.Data, .string x4_9.System, .int .i64 x4_9.Parent, .int .i64 x4_9.First, .int .i64 x4_9.Last, .int .i64 x4_9.Prev, .int .i64 x4_9.Next, .int .i64 x4_9.Inner]) hO rfl) ?_
    refine l_y rfl rfl (y_move rfl) ?_
    refine s_lit (parts := [(0, .tmp 29)]) (enc := eS) [name] [.string name] hO rfl (fun b30 w hO => ?_)
    refine CK [] hO rfl (fun k' hx hr hO' => named_spec (n := x4_9) (ts := [name]) (sls_roK (p := (some ⟨b30, 0, none⟩)) hr (sls_fct hO)) (by simp) (hO := hO')) ?_
    rintro _ _ w ⟨rfl, rfl⟩ hO
    rw [NV.nam hx4_9 hxe]
    simp only [List.nil_append] at hO
    refine K2 (K3 ?_)
    refine c_split rfl (fun hc31 => ?_) (fun hc31 => ?_)
    · refine K0 (K1 ?_)
      refine l_y rfl rfl (y_move rfl) ?_
      refine l_y rfl rfl (y_move rfl) ?_
      refine CK [.b s, .p p] hO rfl (fun k' hx hr hO' => sCut_spec (i := i.toNat) (by omega) (by omega) (hO := stkL_shut hO')) ?_
      rintro _ _ w ⟨rfl, rfl⟩ hO
      simp only [List.cons_append, List.nil_append] at hO
      refine K2 (K3 (K0 (K1 ?_)))
      refine l_y rfl rfl (y_assign rfl) ?_
      refine K2 (K3 (K6 (L0 (K9 (K9 (L0 (K9 ?_)))))))
      rw [popTo_yes (m := l.take i.toNat) (by rw [hs2, if_pos hc31])]
      exact fin1 rfl rfl ⟨_, ⟨rfl, rfl⟩, hO.only [.o a, .o s]⟩
    · refine K5 (K8 (K3 (K1 ?_)))
      refine l_y rfl rfl (y_move rfl) ?_
      refine l_y rfl rfl (D4) ?_
      refine l_y rfl rfl (y_assign rfl) ?_
      refine K2 ?_
      exact q_next (i - 1) ⟨rfl, rfl, rfl, rfl, trivial⟩ ⟨hO.only [.o a, .b s, .p p], ⟨by omega, by omega⟩, by rw [hs2, if_neg (by simp [hc31]), show (i - 1 + 1).toNat = i.toNat by omega]⟩ (by omega)
  · refine K2 (K3 (L9 (K7 (L1 (L1 (L2 (K3 (K0 (K1 ?_)))))))))
    refine l_y rfl rfl (y_assign rfl) ?_
    refine K2 (K3 (K6 ?_))
    rw [popTo_no (by rw [hs, show (i + 1).toNat = 0 by omega]; rfl)]
    exact fin1 rfl rfl ⟨_, ⟨rfl, rfl⟩, ((stkL_shut (hO.ks [.b s, .p p])).ks [.o a, .o s]).two⟩
def dropL (is : Int → Bool) (l : List Int) : List Int := (l.reverse.dropWhile is).reverse
theorem dropL_nil (is : Int → Bool) : dropL is [] = [] := rfl
theorem dropL_snoc (is : Int → Bool) (l : List Int) (x : Int) : dropL is (l ++ [x]) = if is x = true then dropL is l else l ++ [x] := by
  simp only [dropL, List.reverse_append, List.reverse_cons, List.reverse_nil, List.nil_append, List.cons_append, List.dropWhile_cons]
  split <;> simp
theorem dropL_len (is : Int → Bool) : ∀ (l : List Int), (dropL is l).length ≤ l.length := fun l => by
  simp only [dropL, List.length_reverse]
  have := List.dropWhile_suffix is (l := l.reverse)
  simpa using this.length_le
theorem topI_at {l : List Int} (h : 0 < l.length) : topI l = at_ l (l.length - 1) := by rw [topI, atI, if_neg (by omega)]; congr 1; omega
theorem take_top {l : List Int} (h : 0 < l.length) : l = l.take (l.length - 1) ++ [topI l] := by
  rw [topI_at h, ← take_succ_at (by omega), List.take_of_length_le (by omega)]
theorem AllEl.take {A : List Node_one} {l : List Int} (h : AllEl A l) (i : Nat) : AllEl A (l.take i) := fun x hx => h x (List.mem_of_mem_take hx)
theorem AllEl.ne {A : List Node_one} {l : List Int} (h : AllEl A l) : ∀ x ∈ l, x ≠ -1 := fun x hx e => by
  have := hasB_true (elB_has (h x hx)); omega
theorem sLenC_spec {k : Ctx} {w : World} {s a : Nat} {l : List Int} (hO : Own k w [stkL s a l]) : Tri Try.prog 20 #[.pointer (some ⟨s, 0, none⟩)] k w fun v m => v = .int .i64 ((l.length : Nat) : Int) ∧ m = [stkL s a l] := by
  obtain ⟨p, c, hg, hlc, hO⟩ := stkL_open hO
  refine Ret.mono (Ret.framed hO (.cons (.hd _ _) (.nil _)) fun k' _ _ hO' => sLen_spec hO') ?_
  rintro v w' ⟨m, ⟨rfl, rfl⟩, hO⟩
  exact ⟨_, ⟨rfl, rfl⟩, stkL_shut hO⟩
theorem sTopC_spec {k : Ctx} {w : World} {s a : Nat} {l : List Int} {x : Int} (hl : l.length ≤ 1000000) (hO : Own k w [stkL s a l]) : Tri Try.prog 21 #[.pointer (some ⟨s, 0, none⟩)] k w fun v m => v = .int .i64 (topI l) ∧ m = [stkL s a l] := by
  obtain ⟨p, c, hg, hlc, hO⟩ := stkL_open hO
  refine Ret.mono (sTop_spec hg hl hO) ?_
  rintro v w' ⟨m, ⟨rfl, rfl⟩, hO⟩
  exact ⟨_, ⟨rfl, rfl⟩, stkL_shut hO⟩
theorem sFindC_spec {k : Ctx} {w : World} {s a : Nat} {l : List Int} {x : Int} (hl : l.length ≤ 1000000) (hO : Own k w [stkL s a l]) : Tri Try.prog 19 #[.pointer (some ⟨s, 0, none⟩), .int .i64 x] k w fun v m => v = .int .i64 (findI l x) ∧ m = [stkL s a l] := by
  obtain ⟨p, c, hg, hlc, hO⟩ := stkL_open hO
  refine Ret.mono (sFind_spec hg hl hO) ?_
  rintro v w' ⟨m, ⟨rfl, rfl⟩, hO⟩
  exact ⟨_, ⟨rfl, rfl⟩, stkL_shut hO⟩
theorem sAtC_spec {k : Ctx} {w : World} {s a : Nat} {l : List Int} {x : Int} (hl : l.length ≤ 1000000) (hO : Own k w [stkL s a l]) : Tri Try.prog 73 #[.pointer (some ⟨s, 0, none⟩), .int .i64 x] k w fun v m => v = .int .i64 (atI l x) ∧ m = [stkL s a l] := by
  obtain ⟨p, c, hg, hlc, hO⟩ := stkL_open hO
  refine Ret.mono (sAt_spec hg hO) ?_
  rintro v w' ⟨m, ⟨rfl, rfl⟩, hO⟩
  exact ⟨_, ⟨rfl, rfl⟩, stkL_shut hO⟩
theorem lookC_spec {k : Ctx} {w : World} {s a : Nat} {l : List Int} {A : List Node_one} {id : Int} (hn : 0 < A.length) (ha : AttrsOk A) (hO : Own k w [arenaL a A, stkL s a l]) :
    Tri Try.prog 79 #[.pointer (some ⟨s, 0, none⟩), .int .i64 id] k w fun v m => ∃ x, NV A id x ∧ v = .tuple #[.agg (Api_node.cells x).toArray, .bool (elB A id)] ∧ m = [arenaL a A, stkL s a l] := by
  obtain ⟨p, c, hg, hlc, hO⟩ := stkL_open (hO.ks [.o s])
  refine Ret.mono (Ret.framed (hO.ks [.o a, .b s, .p p]) (.cons (.hd _ _) (.cons (.hd _ _) (.nil _))) fun k' _ _ hO' => look_spec hn ha hO') ?_
  rintro v w' ⟨m, ⟨x, hx, rfl, rfl⟩, hO⟩
  have hO : Own k w' [arenaL a A, sB s a p l.length c, sI p c l] := hO
  exact ⟨_, ⟨x, hx, rfl, rfl⟩, ((stkL_shut (hO.ks [.b s, .p p])).ks [.o a, .o s]).two⟩
set_option maxHeartbeats 1000000 in
theorem drop_spec {k : Ctx} {w : World} {s a : Nat} {l : List Int} {A : List Node_one} {f : FuncId} [hf : Fun Try.prog f] {caps : List Value} {C : List HP} {isN : Api_node → Bool} {is : Int → Bool}
    (hcall : ∀ k' w' n, Own k' w' [sep C] → Tri Try.prog f ([Value.agg (Api_node.cells n).toArray] ++ caps).toArray k' w' fun v m => v = .bool (isN n) ∧ m = [sep C])
    (his : ∀ x n, elB A x = true → NV A x n → isN n = is x) (hn : 0 < A.length) (ha : AttrsOk A) (hel : AllEl A l) (hl : l.length ≤ 1000000) (hO : Own k w [arenaL a A, stkL s a l, sep C]) :
    Tri Try.prog 82 #[.pointer (some ⟨s, 0, none⟩), .func (.func f) #[] caps.toArray] k w fun v m => v = .int .i64 ((l.length : Int) - ((dropL is l).length : Int)) ∧ m = [arenaL a A, stkL s a (dropL is l)] := by
  refine enter (args := [.pointer (some ⟨s, 0, none⟩), .func (.func f) #[] caps.toArray]) Try.func82 rfl rfl ?_
  have hdl := dropL_len is l
  refine K0 (K1 ?_)
  refine l_y rfl rfl (y_assign rfl) ?_
  refine K2 (K3 (K0 (K1 ?_)))
  refine l_y rfl rfl (y_move rfl) ?_
  refine CK [.o s] hO rfl (fun k' hx hr hO' => sLenC_spec (hO := hO')) ?_
  rintro _ _ w ⟨rfl, rfl⟩ hO
  simp only [List.cons_append, List.nil_append] at hO
  refine l_y rfl rfl (y_assign rfl) ?_
  refine K2 (K3 (K0 (K4 ?_)))
  refine c_rounds (X := List Int) (fun q => [(0, .pointer (some ⟨s, 0, none⟩)), (1, .func (.func f) #[] caps.toArray), (4, .int .i64 0), (5, .int .i64 ((l.length : Nat) : Int))]) (fun q w => Own k w [arenaL a A, stkL s a q, sep C] ∧ (AllEl A q ∧ q.length ≤ l.length) ∧ (dropL is l = dropL is q)) (fun q => q.length) (l) ⟨rfl, rfl, rfl, rfl, trivial⟩ ⟨hO.only [.o a, .o s, .s], ⟨hel, Nat.le_refl _⟩, rfl⟩ ?_
  rintro q w m hm ⟨hO, he, hs⟩
  refine K0 (K0 (K1 ?_))
  refine l_y rfl rfl (y_move rfl) ?_
  refine CK [.o s] hO rfl (fun k' hx hr hO' => sLenC_spec (hO := hO')) ?_
  rintro _ _ w ⟨rfl, rfl⟩ hO
  simp only [List.cons_append, List.nil_append] at hO
  refine Z0 (fun h2_2 => ?_) (fun h2_2 => ?_)
  · refine K2 (K3 (L8 (K5 (K3 (K4 (K0 (K0 ?_)))))))
    have hxe : elB A (topI q) = true := he.1 _ (by rw [topI_at (by omega)]; exact at_mem (by omega))
    have hs3 : dropL is l = if is (topI q) = true then dropL is (q.take (q.length - 1)) else q := by
      rw [hs]; conv => lhs; rw [take_top (l := q) (by omega)]
      rw [dropL_snoc, ← take_top (by omega)]
    refine K1 ?_
    refine l_y rfl rfl (y_move rfl) ?_
    refine l_y rfl rfl (y_move rfl) ?_
    refine CK [.o s] hO rfl (fun k' hx hr hO' => sTopC_spec (x := 0) (by omega) (hO := hO')) ?_
    rintro _ _ w ⟨rfl, rfl⟩ hO
    simp only [List.cons_append, List.nil_append] at hO
    refine CK [.o a, .o s] hO rfl (fun k' hx hr hO' => lookC_spec hn ha (hO := hO')) ?_
    rintro _ _ w ⟨y, hy, rfl, rfl⟩ hO
    simp only [List.cons_append, List.nil_append] at hO
    refine l_y rfl rfl (y_move rfl) ?_
    refine l_y rfl rfl (y_extract rfl rfl) ?_
    refine l_y rfl rfl (y_extract rfl rfl) ?_
    refine s_alloc (vs := [.int .i64 0, .int .i64 0, .string ⟨#[]⟩, .slice none 0 0, .string ⟨#[]⟩, .string ⟨#[]⟩, .int .i64 0, .int .i64 0, .int .i64 0, .int .i64 0, .int .i64 0, .int .i64 0]) hO rfl rfl rfl fun b6 w hO => ?_
    refine Y3 hO rfl rfl (fun w hO => ?_)
    refine l_y rfl rfl (y_assign rfl) ?_
    refine K2 (K3 (K0 ?_))
    have e1 := his _ _ hxe hy
    refine K1 ?_
    refine l_y rfl rfl (y_move rfl) ?_
    refine l_y rfl rfl (D8 (cs := [.int .i64 y.Kind, .int .i64 y.Space, .string y.Name, .slice y.AttrsP y.Attrs.length y.AttrsC, .string y.Data, .string y.System, .int .i64 y.Parent, .int .i64 y.First, .int .i64 y.Last, .int .i64 y.Prev, .int .i64 y.Next, .int .i64 y.Inner]) hO rfl) ?_
    refine CKv [.s] hO rfl rfl (fun k' hx hr hO' => hcall k' _ y hO') ?_
    rintro _ _ w ⟨rfl, rfl⟩ hO
    simp only [List.cons_append, List.nil_append] at hO
    rw [e1]
    refine l_y rfl rfl (y_not rfl rfl) ?_
    refine K2 (K3 ?_)
    refine c_split rfl (fun hc23 => ?_) (fun hc23 => ?_)
    · simp only [Bool.not_eq_true', Bool.not_eq_false'] at hc23
      refine K7 (L1 (L7 (L1 (L2 (K3 (K0 ?_))))))
      have hfin : dropL is l = q := by
        first
        | (rw [hs3, if_neg (by simpa using hc23)])
        | (have h0 : q = [] := List.eq_nil_of_length_eq_zero (by omega)
           rw [hs, h0]; rfl)
      have hq := he.2
      refine K1 ?_
      refine l_y rfl rfl (y_move rfl) ?_
      refine l_y rfl rfl (y_move rfl) ?_
      refine CK [.o s] hO rfl (fun k' hx hr hO' => sLenC_spec (hO := hO')) ?_
      rintro _ _ w ⟨rfl, rfl⟩ hO
      simp only [List.cons_append, List.nil_append] at hO
      refine l_y rfl rfl (D4) ?_
      refine l_y rfl rfl (y_assign rfl) ?_
      refine K2 (K3 (K6 ?_))
      rw [hfin]
      exact fin1 rfl rfl ⟨_, ⟨rfl, rfl⟩, hO.only [.o a, .o s]⟩
    · simp only [Bool.not_eq_true', Bool.not_eq_false'] at hc23
      refine K5 (K3 (K1 ?_))
      refine l_y rfl rfl (y_move rfl) ?_
      refine CK [.o s] hO rfl (fun k' hx hr hO' => sPop_spec (by omega) he.1.ne (hO := hO')) ?_
      rintro _ _ w ⟨rfl, rfl⟩ hO
      simp only [List.cons_append, List.nil_append] at hO
      refine K2 (K8 ?_)
      exact q_next (q.take (q.length - 1)) ⟨rfl, rfl, rfl, rfl, trivial⟩ ⟨hO.only [.o a, .o s, .s], ⟨he.1.take _, by simp; omega⟩, by rw [hs3, if_pos (by simpa using hc23)]⟩ (by simp; omega)
  · refine K2 (K3 (L9 (K7 (L1 (L1 (L2 (K3 (K0 ?_))))))))
    have hfin : dropL is l = q := by
      first
      | (rw [hs3, if_neg (by simpa using hc23)])
      | (have h0 : q = [] := List.eq_nil_of_length_eq_zero (by omega)
         rw [hs, h0]; rfl)
    have hq := he.2
    refine K1 ?_
    refine l_y rfl rfl (y_move rfl) ?_
    refine l_y rfl rfl (y_move rfl) ?_
    refine CK [.o s] hO rfl (fun k' hx hr hO' => sLenC_spec (hO := hO')) ?_
    rintro _ _ w ⟨rfl, rfl⟩ hO
    simp only [List.cons_append, List.nil_append] at hO
    refine l_y rfl rfl (D4) ?_
    refine l_y rfl rfl (y_assign rfl) ?_
    refine K2 (K3 (K6 ?_))
    rw [hfin]
    exact fin1 rfl rfl ⟨_, ⟨rfl, rfl⟩, hO.only [.o a, .o s]⟩
end Go.Proofs.Ytbhicbpfdbnpfaa
