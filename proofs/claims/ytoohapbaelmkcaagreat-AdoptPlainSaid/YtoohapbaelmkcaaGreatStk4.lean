/- The walks of the stack's scopes and drops, of a stack as one part; no condition. -/
import Derived.Test.YtoohapbaelmkcaaGreatStk3
set_option linter.unusedVariables false
set_option linter.unusedSimpArgs false
set_option maxRecDepth 100000
namespace Go.Proofs.YtoohapbaelmkcaaGreat
open Go Go.Hb Go.RowKit
theorem NodeScopeC_spec {k : Ctx} {w : World} {b : Nat} {x id : Int} {n : Api_node} (hO : Own k w [sep [blk b 3 [.int .i64 id]]]) :
    Tri Tryz.prog 98 #[.int .i64 x, .agg (Api_node.cells n).toArray, .pointer (some ⟨b, 0, none⟩)] k w fun v m => v = .bool (decide (x = id)) ∧ m = [sep [blk b 3 [.int .i64 id]]] := by
  refine enter (args := [.int .i64 x, .agg (Api_node.cells n).toArray, .pointer (some ⟨b, 0, none⟩)]) Tryz.func98 rfl rfl ?_
  have hO := Own.open hO
  simp only [List.cons_append, List.nil_append] at hO
  refine K0 (K1 ?_)
  refine s_box (vs := [.int .i64 n.Kind, .int .i64 n.Space, .string n.Name, .slice n.AttrsP n.Attrs.length n.AttrsC, .string n.Data, .string n.System, .int .i64 n.Parent, .int .i64 n.First, .int .i64 n.Last, .int .i64 n.Prev, .int .i64 n.Next, .int .i64 n.Inner]) hO rfl rfl rfl (by rfl) fun b4 w hO => ?_
  refine l_y rfl rfl (y_assign rfl) ?_
  refine K2 (K3 (K0 (K1 ?_)))
  refine l_y rfl rfl (y_move rfl) ?_
  refine l_y rfl rfl (D5 hO rfl) ?_
  refine Z0 (fun h1_2 => ?_) (fun h1_2 => ?_)
  · refine l_y rfl rfl (y_assign rfl) ?_
    refine K2 (K3 (K6 ?_))
    exact fin1 rfl rfl ⟨_, ⟨by simp [*], rfl⟩, (Own.shut (l := [blk b 3 [.int .i64 id]]) (hO.ks [.b b])).one⟩
  · refine l_y rfl rfl (y_assign rfl) ?_
    refine K2 (K3 (K6 ?_))
    exact fin1 rfl rfl ⟨_, ⟨by simp [*], rfl⟩, (Own.shut (l := [blk b 3 [.int .i64 id]]) (hO.ks [.b b])).one⟩
theorem sNodeScope_spec {k : Ctx} {w : World} {s a : Nat} {l : List Int} {A : List Node_one} {id kind : Int} (hn : 0 < A.length) (ha : AttrsOk A) (hel : AllEl A l) (hl : l.length ≤ 1000000) (hO : Own k w [arenaL a A, stkL s a l]) :
    Tri Tryz.prog 75 #[.pointer (some ⟨s, 0, none⟩), .int .i64 id, .int .i64 kind] k w fun v m => v = .bool (scopeL A (fun x => decide (x = id)) kind l) ∧ m = [arenaL a A, stkL s a l] := by
  refine enter (args := [.pointer (some ⟨s, 0, none⟩), .int .i64 id, .int .i64 kind]) Tryz.func75 rfl rfl ?_
  obtain ⟨p, c, hg, hlc, hO⟩ := stkL_open (hO.ks [.o s])
  refine K0 (K1 ?_)
  refine s_box (vs := [.int .i64 id]) hO rfl rfl rfl (by rfl) fun b4 w hO => ?_
  refine l_y rfl rfl (y_assign rfl) ?_
  refine K2 (K3 (K0 (K1 ?_)))
  refine l_y rfl rfl (y_move rfl) ?_
  refine l_y rfl rfl (y_move rfl) ?_
  refine l_y rfl rfl (y_makeFunc rfl rfl) ?_
  have hO := (Own.shut (l := [blk b4 3 [.int .i64 id]]) (hO.ks [.b b4])).ks [.o a, .b s, .p p, .s]
  refine CK [.o a, .b s, .p p, .s] hO rfl (fun k' hx hr hO' => scope_spec (caps := [.pointer (some ⟨b4, 0, none⟩)]) (isN := fun x _ => decide (x = id)) (is := fun x => decide (x = id)) (fun k' w' x n hO => NodeScopeC_spec hO) (fun x n he hx => rfl) hn ha hel hg hl (hO := hO')) ?_
  rintro _ _ w ⟨rfl, rfl⟩ hO
  simp only [List.cons_append, List.nil_append] at hO
  refine l_y rfl rfl (y_assign rfl) ?_
  refine K2 (K3 (K6 ?_))
  exact fin1 rfl rfl ⟨_, ⟨rfl, rfl⟩, ((stkL_shut (hO.ks [.b s, .p p])).ks [.o a, .o s]).two⟩
/-- up to and with the last that is one -/
def popR (p : Int → Bool) : List Int → Option (List Int)
  | [] => none
  | x :: r => if p x = true then some r else popR p r
def popTo (p : Int → Bool) (l : List Int) : Bool × List Int := match popR p l.reverse with | some r => (true, r.reverse) | none => (false, l)
theorem popR_snoc (p : Int → Bool) (l : List Int) (x : Int) : popR p (l ++ [x]).reverse = if p x = true then some l.reverse else popR p l.reverse := by simp [popR]
theorem popTo_yes {p : Int → Bool} {l m : List Int} (h : popR p l.reverse = some m.reverse) : popTo p l = (true, m) := by rw [popTo, h]; simp
theorem popTo_no {p : Int → Bool} {l : List Int} (h : popR p l.reverse = none) : popTo p l = (false, l) := by rw [popTo, h]
def dropL (is : Int → Bool) (l : List Int) : List Int := (l.reverse.dropWhile is).reverse
theorem dropL_nil (is : Int → Bool) : dropL is [] = [] := rfl
theorem dropL_snoc (is : Int → Bool) (l : List Int) (x : Int) : dropL is (l ++ [x]) = if is x = true then dropL is l else l ++ [x] := by
  simp only [dropL, List.reverse_append, List.reverse_cons, List.reverse_nil, List.nil_append, List.cons_append, List.dropWhile_cons]
  split <;> simp
theorem dropL_len (is : Int → Bool) : ∀ (l : List Int), (dropL is l).length ≤ l.length := fun l => by
  simp only [dropL, List.length_reverse]
  have := List.dropWhile_suffix is (l := l.reverse)
  simpa using this.length_le
theorem topI_at {l : List Int} (h : 0 < l.length) : topI l = at_ l (l.length - 1) := by rw [topI, atI, if_neg (by omega)]; congr 1; omega
theorem take_top {l : List Int} (h : 0 < l.length) : l = l.take (l.length - 1) ++ [topI l] := by
  rw [topI_at h, ← take_succ_at (by omega), List.take_of_length_le (by omega)]
theorem AllEl.take {A : List Node_one} {l : List Int} (h : AllEl A l) (i : Nat) : AllEl A (l.take i) := fun x hx => h x (List.mem_of_mem_take hx)
theorem AllEl.ne {A : List Node_one} {l : List Int} (h : AllEl A l) : ∀ x ∈ l, x ≠ -1 := fun x hx e => by
  have := hasB_true (elB_has (h x hx)); omega
theorem sLenC_spec {k : Ctx} {w : World} {s a : Nat} {l : List Int} (hO : Own k w [stkL s a l]) : Tri Tryz.prog 13 #[.pointer (some ⟨s, 0, none⟩)] k w fun v m => v = .int .i64 ((l.length : Nat) : Int) ∧ m = [stkL s a l] := by
  obtain ⟨p, c, hg, hlc, hO⟩ := stkL_open hO
  refine Ret.mono (Ret.framed hO (.cons (.hd _ _) (.nil _)) fun k' _ _ hO' => sLen_spec hO') ?_
  rintro v w' ⟨m, ⟨rfl, rfl⟩, hO⟩
  exact ⟨_, ⟨rfl, rfl⟩, stkL_shut hO⟩
theorem sTopC_spec {k : Ctx} {w : World} {s a : Nat} {l : List Int} {x : Int} (hl : l.length ≤ 1000000) (hO : Own k w [stkL s a l]) : Tri Tryz.prog 35 #[.pointer (some ⟨s, 0, none⟩)] k w fun v m => v = .int .i64 (topI l) ∧ m = [stkL s a l] := by
  obtain ⟨p, c, hg, hlc, hO⟩ := stkL_open hO
  refine Ret.mono (sTop_spec hg hl hO) ?_
  rintro v w' ⟨m, ⟨rfl, rfl⟩, hO⟩
  exact ⟨_, ⟨rfl, rfl⟩, stkL_shut hO⟩
theorem sFindC_spec {k : Ctx} {w : World} {s a : Nat} {l : List Int} {x : Int} (hl : l.length ≤ 1000000) (hO : Own k w [stkL s a l]) : Tri Tryz.prog 74 #[.pointer (some ⟨s, 0, none⟩), .int .i64 x] k w fun v m => v = .int .i64 (findI l x) ∧ m = [stkL s a l] := by
  obtain ⟨p, c, hg, hlc, hO⟩ := stkL_open hO
  refine Ret.mono (sFind_spec hg hl hO) ?_
  rintro v w' ⟨m, ⟨rfl, rfl⟩, hO⟩
  exact ⟨_, ⟨rfl, rfl⟩, stkL_shut hO⟩
theorem sAtC_spec {k : Ctx} {w : World} {s a : Nat} {l : List Int} {x : Int} (hl : l.length ≤ 1000000) (hO : Own k w [stkL s a l]) : Tri Tryz.prog 15 #[.pointer (some ⟨s, 0, none⟩), .int .i64 x] k w fun v m => v = .int .i64 (atI l x) ∧ m = [stkL s a l] := by
  obtain ⟨p, c, hg, hlc, hO⟩ := stkL_open hO
  refine Ret.mono (sAt_spec hg hO) ?_
  rintro v w' ⟨m, ⟨rfl, rfl⟩, hO⟩
  exact ⟨_, ⟨rfl, rfl⟩, stkL_shut hO⟩
theorem lookC_spec {k : Ctx} {w : World} {s a : Nat} {l : List Int} {A : List Node_one} {id : Int} (hn : 0 < A.length) (ha : AttrsOk A) (hO : Own k w [arenaL a A, stkL s a l]) :
    Tri Tryz.prog 92 #[.pointer (some ⟨s, 0, none⟩), .int .i64 id] k w fun v m => ∃ x, NV A id x ∧ v = .tuple #[.agg (Api_node.cells x).toArray, .bool (elB A id)] ∧ m = [arenaL a A, stkL s a l] := by
  obtain ⟨p, c, hg, hlc, hO⟩ := stkL_open (hO.ks [.o s])
  refine Ret.mono (Ret.framed (hO.ks [.o a, .b s, .p p]) (.cons (.hd _ _) (.cons (.hd _ _) (.nil _))) fun k' _ _ hO' => look_spec hn ha hO') ?_
  rintro v w' ⟨m, ⟨x, hx, rfl, rfl⟩, hO⟩
  have hO : Own k w' [arenaL a A, sB s a p l.length c, sI p c l] := hO
  exact ⟨_, ⟨x, hx, rfl, rfl⟩, ((stkL_shut (hO.ks [.b s, .p p])).ks [.o a, .o s]).two⟩
end Go.Proofs.YtoohapbaelmkcaaGreat
