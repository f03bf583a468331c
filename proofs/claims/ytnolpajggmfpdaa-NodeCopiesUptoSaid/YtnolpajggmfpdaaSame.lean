/- The walks of what compares both arenas. -/
import Derived.Test.YtnolpajggmfpdaaRef8
set_option linter.unusedVariables false
set_option linter.unusedSimpArgs false
set_option maxRecDepth 100000
namespace Go.Proofs.Ytnolpajggmfpdaa
open Go Go.Hb Go.RowKit
theorem ints_spec {k : Ctx} {w : World} {xs : List Int} {p1 p2 : Option Addr} {c1 c2 : Nat} (h1 : Sli (Ro k) (.slice p1 xs.length c1) (xs.map (eI .i64))) (h2 : Sli (Ro k) (.slice p2 xs.length c2) (xs.map (eI .i64))) (hl : xs.length ≤ 1000000) (hO : Own k w []) :
    Tri Try.prog 52 #[.slice p1 xs.length c1, .slice p2 xs.length c2] k w fun v m => v = .bool true ∧ m = [] := by
  refine enter (args := [.slice p1 xs.length c1, .slice p2 xs.length c2]) Try.func52 rfl rfl ?_
  have hg1 := sli_gs h1
  have hg2 := sli_gs h2
  refine K0 (K1 ?_)
  refine l_y rfl rfl (y_assign rfl) ?_
  refine K2 (K3 (K0 (K0 (K1 ?_))))
  refine l_y rfl rfl (y_move rfl) ?_
  refine l_y rfl rfl (y_lenL rfl) ?_
  refine l_y rfl rfl (y_move rfl) ?_
  refine l_y rfl rfl (y_lenL rfl) ?_
  refine N4 ?_
  refine K2 (K3 (L9 (K5 (K3 (K0 (K0 (K1 ?_)))))))
  refine l_y rfl rfl (y_assign rfl) ?_
  refine K2 (K3 (K4 ?_))
  refine c_rounds (X := Nat) (fun i => [(0, .slice p1 xs.length c1), (1, .slice p2 xs.length c2), (4, .bool false), (5, .int .i64 (i : Int))]) (fun i w => Own k w [] ∧ (True)) (fun i => xs.length - i) (0) ⟨rfl, rfl, rfl, rfl, trivial⟩ ⟨hO.only [], trivial⟩ ?_
  rintro i w m hm ⟨hO, hT0⟩
  refine K0 (K0 (K1 ?_))
  refine l_y rfl rfl (y_move rfl) ?_
  refine l_y rfl rfl (y_move rfl) ?_
  refine l_y rfl rfl (y_lenL rfl) ?_
  refine Z0 (fun h4_3 => ?_) (fun h4_3 => ?_)
  · refine K2 (K3 (L8 (K5 (K3 (K0 (K4 (K0 ?_)))))))
    refine da_region (by intro c a d v w h; cases d <;> exact h) ?_
    have hO := hO.drew
    refine da_phase _ [] (SO.ks [] hO) ?_
    refine dx_u 0 (by kernel_rfl) rfl rfl rfl (fun w => y_move rfl) ?_
    refine dx_u 1 (by kernel_rfl) rfl rfl rfl (fun w => y_move rfl) ?_
    refine dx_u 2 (by kernel_rfl) rfl rfl rfl (fun w => y_idx rfl rfl) ?_
    refine dx_y 3 (by kernel_rfl) rfl rfl rfl (fun w ⟨m, hw⟩ => y_r1 (x0 := 0) (enc := (eI .i64)) (xs := xs) hw rfl) ?_
    refine dx_u 4 (by kernel_rfl) rfl rfl rfl (fun w => y_move rfl) ?_
    refine dx_u 5 (by kernel_rfl) rfl rfl rfl (fun w => y_move rfl) ?_
    refine dx_u 6 (by kernel_rfl) rfl rfl rfl (fun w => y_idx rfl rfl) ?_
    refine dx_y 7 (by kernel_rfl) rfl rfl rfl (fun w ⟨m, hw⟩ => y_r1 (x0 := 0) (enc := (eI .i64)) (xs := xs) hw rfl) ?_
    refine dx_y 8 (by kernel_rfl) rfl rfl rfl (fun w ⟨m, hw⟩ => D2 (hp := rfl)) ?_
    refine dx_end (by kernel_rfl) ?_
    refine K3 (L9 (K5 (K8 (K3 (K1 ?_)))))
    refine l_y rfl rfl (y_move rfl) ?_
    refine l_y rfl rfl (D4) ?_
    refine l_y rfl rfl (y_assign rfl) ?_
    refine K2 ?_
    exact q_next (i + 1) ⟨rfl, rfl, rfl, rfl, trivial⟩ ⟨hO.only [], trivial⟩ (by omega)
  · refine K2 (K3 (L9 (K7 (L1 (L1 (L2 (K3 (K0 (K1 ?_)))))))))
    refine l_y rfl rfl (y_assign rfl) ?_
    refine K2 (K3 (K6 ?_))
    exact fin1 rfl rfl ⟨_, ⟨rfl, rfl⟩, hO⟩
structure NSame (n m : Api_node) : Prop where
  kind : n.Kind = m.Kind
  space : n.Space = m.Space
  name : n.Name = m.Name
  attrs : n.Attrs = m.Attrs
  data : n.Data = m.Data
  system : n.System = m.System
  parent : n.Parent = m.Parent
  first : n.First = m.First
  last : n.Last = m.Last
  prev : n.Prev = m.Prev
  next : n.Next = m.Next
  inner : n.Inner = m.Inner
set_option maxHeartbeats 2000000 in
theorem alike_spec {k : Ctx} {w : World} {n z : Api_node} (e : NSame n z) (h1 : Sli (Ro k) (.slice n.AttrsP n.Attrs.length n.AttrsC) (n.Attrs.map Api_attr.cells)) (h2 : Sli (Ro k) (.slice z.AttrsP z.Attrs.length z.AttrsC) (z.Attrs.map Api_attr.cells)) (hl : n.Attrs.length ≤ 1024) (hO : Own k w []) :
    Tri Try.prog 51 #[.agg (Api_node.cells n).toArray, .agg (Api_node.cells z).toArray] k w fun v l => v = .bool true ∧ l = [] := by
  refine enter (args := [.agg (Api_node.cells n).toArray, .agg (Api_node.cells z).toArray]) Try.func51 rfl rfl ?_
  have hg1 := sli_gs h1
  have hg2 := sli_gs h2
  have hll : n.Attrs.length = z.Attrs.length := by rw [e.attrs]
  refine K0 (K1 ?_)
  refine s_box (vs := [.int .i64 n.Kind, .int .i64 n.Space, .string n.Name, .slice n.AttrsP n.Attrs.length n.AttrsC, .string n.Data, .string n.System, .int .i64 n.Parent, .int .i64 n.First, .int .i64 n.Last, .int .i64 n.Prev, .int .i64 n.Next, .int .i64 n.Inner]) hO rfl rfl rfl (by rfl) fun b2 w hO => ?_
  refine s_box (vs := [.int .i64 z.Kind, .int .i64 z.Space, .string z.Name, .slice z.AttrsP z.Attrs.length z.AttrsC, .string z.Data, .string z.System, .int .i64 z.Parent, .int .i64 z.First, .int .i64 z.Last, .int .i64 z.Prev, .int .i64 z.Next, .int .i64 z.Inner]) hO rfl rfl rfl (by rfl) fun b3 w hO => ?_
  refine l_y rfl rfl (y_assign rfl) ?_
  refine K2 (K3 (K0 (K0 (K1 ?_))))
  refine l_y rfl rfl (y_fldb (o' := 0) rfl) ?_
  refine l_y rfl rfl (D5 hO rfl) ?_
  refine l_y rfl rfl (y_fldb (o' := 0) rfl) ?_
  refine l_y rfl rfl (D5 hO rfl) ?_
  refine N4 (hp := e.kind) ?_
  refine l_y rfl rfl (y_move rfl) ?_
  refine l_y rfl rfl (y_fldb (o' := 1) rfl) ?_
  refine l_y rfl rfl (D5 hO rfl) ?_
  refine l_y rfl rfl (y_fldb (o' := 1) rfl) ?_
  refine l_y rfl rfl (D5 hO rfl) ?_
  refine N4 (hp := e.space) ?_
  refine l_y rfl rfl (y_pick_f rfl rfl) ?_
  refine l_y rfl rfl (y_move rfl) ?_
  refine l_y rfl rfl (y_fldb (o' := 2) rfl) ?_
  refine l_y rfl rfl (D5 hO rfl) ?_
  refine l_y rfl rfl (y_fldb (o' := 2) rfl) ?_
  refine l_y rfl rfl (D5 hO rfl) ?_
  refine N8 (hp := e.name) ?_
  refine l_y rfl rfl (y_pick_f rfl rfl) ?_
  refine l_y rfl rfl (y_move rfl) ?_
  refine l_y rfl rfl (y_fldb (o' := 4) rfl) ?_
  refine l_y rfl rfl (D5 hO rfl) ?_
  refine l_y rfl rfl (y_fldb (o' := 4) rfl) ?_
  refine l_y rfl rfl (D5 hO rfl) ?_
  refine N8 (hp := e.data) ?_
  refine l_y rfl rfl (y_pick_f rfl rfl) ?_
  refine l_y rfl rfl (y_move rfl) ?_
  refine l_y rfl rfl (y_fldb (o' := 5) rfl) ?_
  refine l_y rfl rfl (D5 hO rfl) ?_
  refine l_y rfl rfl (y_fldb (o' := 5) rfl) ?_
  refine l_y rfl rfl (D5 hO rfl) ?_
  refine N8 (hp := e.system) ?_
  refine l_y rfl rfl (y_pick_f rfl rfl) ?_
  refine l_y rfl rfl (y_move rfl) ?_
  refine l_y rfl rfl (y_fldb (o' := 6) rfl) ?_
  refine l_y rfl rfl (D5 hO rfl) ?_
  refine l_y rfl rfl (y_fldb (o' := 6) rfl) ?_
  refine l_y rfl rfl (D5 hO rfl) ?_
  refine N4 (hp := e.parent) ?_
  refine l_y rfl rfl (y_pick_f rfl rfl) ?_
  refine l_y rfl rfl (y_move rfl) ?_
  refine l_y rfl rfl (y_fldb (o' := 7) rfl) ?_
  refine l_y rfl rfl (D5 hO rfl) ?_
  refine l_y rfl rfl (y_fldb (o' := 7) rfl) ?_
  refine l_y rfl rfl (D5 hO rfl) ?_
  refine N4 (hp := e.first) ?_
  refine l_y rfl rfl (y_pick_f rfl rfl) ?_
  refine l_y rfl rfl (y_move rfl) ?_
  refine l_y rfl rfl (y_fldb (o' := 8) rfl) ?_
  refine l_y rfl rfl (D5 hO rfl) ?_
  refine l_y rfl rfl (y_fldb (o' := 8) rfl) ?_
  refine l_y rfl rfl (D5 hO rfl) ?_
  refine N4 (hp := e.last) ?_
  refine l_y rfl rfl (y_pick_f rfl rfl) ?_
  refine l_y rfl rfl (y_move rfl) ?_
  refine l_y rfl rfl (y_fldb (o' := 9) rfl) ?_
  refine l_y rfl rfl (D5 hO rfl) ?_
  refine l_y rfl rfl (y_fldb (o' := 9) rfl) ?_
  refine l_y rfl rfl (D5 hO rfl) ?_
  refine N4 (hp := e.prev) ?_
  refine l_y rfl rfl (y_pick_f rfl rfl) ?_
  refine l_y rfl rfl (y_move rfl) ?_
  refine l_y rfl rfl (y_fldb (o' := 10) rfl) ?_
  refine l_y rfl rfl (D5 hO rfl) ?_
  refine l_y rfl rfl (y_fldb (o' := 10) rfl) ?_
  refine l_y rfl rfl (D5 hO rfl) ?_
  refine N4 (hp := e.next) ?_
  refine l_y rfl rfl (y_pick_f rfl rfl) ?_
  refine l_y rfl rfl (y_move rfl) ?_
  refine l_y rfl rfl (y_fldb (o' := 11) rfl) ?_
  refine l_y rfl rfl (D5 hO rfl) ?_
  refine l_y rfl rfl (y_fldb (o' := 11) rfl) ?_
  refine l_y rfl rfl (D5 hO rfl) ?_
  refine N4 (hp := e.inner) ?_
  refine l_y rfl rfl (y_pick_f rfl rfl) ?_
  refine l_y rfl rfl (y_move rfl) ?_
  refine l_y rfl rfl (y_fldb (o' := 3) rfl) ?_
  refine l_y rfl rfl (D5 hO rfl) ?_
  refine l_y rfl rfl (y_lenL rfl) ?_
  refine l_y rfl rfl (y_fldb (o' := 3) rfl) ?_
  refine l_y rfl rfl (D5 hO rfl) ?_
  refine l_y rfl rfl (y_lenL rfl) ?_
  refine N4 ?_
  refine l_y rfl rfl (y_pick_f rfl rfl) ?_
  refine K2 (K3 (L9 (K5 (K3 (K0 (K0 (K1 ?_)))))))
  refine l_y rfl rfl (y_assign rfl) ?_
  refine K2 (K3 (K4 ?_))
  refine c_rounds (X := Nat) (fun i => [(2, .pointer (some ⟨b2, 0, none⟩)), (3, .pointer (some ⟨b3, 0, none⟩)), (4, .bool false), (5, .int .i64 (i : Int))]) (fun i w => Own k w [blk b2 33 (Api_node.cells n), blk b3 33 (Api_node.cells z)] ∧ (True)) (fun i => n.Attrs.length - i) (0) ⟨rfl, rfl, rfl, rfl, trivial⟩ ⟨hO.only [.b b2, .b b3], trivial⟩ ?_
  rintro i w m hm ⟨hO, hT0⟩
  refine K0 (K0 (K1 ?_))
  refine l_y rfl rfl (y_move rfl) ?_
  refine l_y rfl rfl (y_fldb (o' := 3) rfl) ?_
  refine l_y rfl rfl (D5 hO rfl) ?_
  refine l_y rfl rfl (y_lenL rfl) ?_
  refine Z0 (fun h4_4 => ?_) (fun h4_4 => ?_)
  · refine K2 (K3 (L8 (K5 (K3 (K0 (K4 (K0 ?_)))))))
    refine da_region (by intro c a d v w h; cases d <;> exact h) ?_
    have hO := hO.drew
    refine da_phase _ [] (SO.ks [.b b2, .b b3] hO) ?_
    refine dx_u 0 (by kernel_rfl) rfl rfl rfl (fun w => y_fldb (o' := 3) rfl) ?_
    refine dx_y 1 (by kernel_rfl) rfl rfl rfl (fun w ⟨m, hw⟩ => D5 hw rfl) ?_
    refine dx_u 2 (by kernel_rfl) rfl rfl rfl (fun w => y_move rfl) ?_
    refine dx_u 3 (by kernel_rfl) rfl rfl rfl (fun w => y_idx rfl rfl) ?_
    refine dx_y 4 (by kernel_rfl) rfl rfl rfl (fun w ⟨m, hw⟩ => y_rA (x0 := 0) (enc := Api_attr.cells) (xs := n.Attrs) (cs := [.int .i64 (at_ n.Attrs ((i : Int) : Int).toNat).Space, .string (at_ n.Attrs ((i : Int) : Int).toNat).Prefix, .string (at_ n.Attrs ((i : Int) : Int).toNat).Name, .string (at_ n.Attrs ((i : Int) : Int).toNat).Value]) hw rfl) ?_
    refine dx_u 5 (by kernel_rfl) rfl rfl rfl (fun w => y_fldb (o' := 3) rfl) ?_
    refine dx_y 6 (by kernel_rfl) rfl rfl rfl (fun w ⟨m, hw⟩ => D5 hw rfl) ?_
    refine dx_u 7 (by kernel_rfl) rfl rfl rfl (fun w => y_move rfl) ?_
    refine dx_u 8 (by kernel_rfl) rfl rfl rfl (fun w => y_idx rfl rfl) ?_
    refine dx_y 9 (by kernel_rfl) rfl rfl rfl (fun w ⟨m, hw⟩ => y_rA (x0 := 0) (enc := Api_attr.cells) (xs := z.Attrs) (cs := [.int .i64 (at_ z.Attrs ((i : Int) : Int).toNat).Space, .string (at_ z.Attrs ((i : Int) : Int).toNat).Prefix, .string (at_ z.Attrs ((i : Int) : Int).toNat).Name, .string (at_ z.Attrs ((i : Int) : Int).toNat).Value]) hw rfl) ?_
    refine dx_y 10 (by kernel_rfl) rfl rfl rfl (fun w ⟨m, hw⟩ => y_neA (enc := Api_attr.cells) (c := false) (a := at_ n.Attrs i) (b := at_ z.Attrs i) rfl rfl (by rw [e.attrs]; simp)) ?_
    refine dx_end (by kernel_rfl) ?_
    refine K3 (L9 (K5 (K8 (K3 (K1 ?_)))))
    refine l_y rfl rfl (y_move rfl) ?_
    refine l_y rfl rfl (D4) ?_
    refine l_y rfl rfl (y_assign rfl) ?_
    refine K2 ?_
    exact q_next (i + 1) ⟨rfl, rfl, rfl, rfl, trivial⟩ ⟨hO.only [.b b2, .b b3], trivial⟩ (by omega)
  · refine K2 (K3 (L9 (K7 (L1 (L1 (L2 (K3 (K0 (K1 ?_)))))))))
    refine l_y rfl rfl (y_assign rfl) ?_
    refine K2 (K3 (K6 ?_))
    exact fin1 rfl rfl ⟨_, ⟨rfl, rfl⟩, hO.only []⟩
/-- what Node tells of any number -/
def NodeR (A : List Node_one) (id : Int) (n : Api_node) (e : Int) : Prop := (hasB A id = false ∧ n = default ∧ e = 6) ∨ (hasB A id = true ∧ (∃ q d, n = ownN (at_ A id.toNat).Node q d) ∧ e = 0)
theorem NodeR.same {A : List Node_one} {id : Int} {n m : Api_node} {e f : Int} (h : NodeR A id n e) (g : NodeR A id m f) : NSame n m ∧ e = f := by
  rcases h with ⟨h0, rfl, rfl⟩ | ⟨h0, ⟨q, d, rfl⟩, rfl⟩ <;> rcases g with ⟨g0, rfl, rfl⟩ | ⟨g0, ⟨q', d', rfl⟩, rfl⟩
  · exact ⟨⟨rfl, rfl, rfl, rfl, rfl, rfl, rfl, rfl, rfl, rfl, rfl, rfl⟩, rfl⟩
  · rw [h0] at g0; simp at g0
  · rw [h0] at g0; simp at g0
  · exact ⟨⟨rfl, rfl, rfl, rfl, rfl, rfl, rfl, rfl, rfl, rfl, rfl, rfl⟩, rfl⟩
theorem NodeR.len {A : List Node_one} {id : Int} {n : Api_node} {e : Int} (h : NodeR A id n e) (ha : AttrsOk A) : n.Attrs.length ≤ 1024 := by
  rcases h with ⟨_, rfl, _⟩ | ⟨h0, ⟨q, d, rfl⟩, _⟩
  · exact Nat.zero_le _
  · have := inA_iff.1 h0
    have h1 := this.1
    have h2 := this.2
    exact ha _ (by omega)
theorem NodeG_spec {k : Ctx} {w : World} {a : Nat} {A : List Node_one} {id : Int} (hn : 0 < A.length) (ha : AttrsOk A) (hO : Own k w [arenaL a A]) :
    Tri Try.prog 15 #[.pointer (some ⟨a, 0, none⟩), .int .i64 id] k w fun v m => ∃ n e, v = .tuple #[.agg (Api_node.cells n).toArray, .int .i64 e] ∧ NodeR A id n e ∧ m = [arenaL a A, sls n.AttrsP n.AttrsC 24 4 Api_attr.cells n.Attrs] := by
  refine Ret.mono (Node_spec hn ha hO) ?_
  rintro v w' ⟨m, ⟨h0, rfl, rfl⟩ | ⟨h0, q, d, rfl, rfl⟩, hO⟩
  · exact ⟨_, ⟨default, 6, rfl, .inl ⟨h0, rfl, rfl⟩, rfl⟩, (nil_attrs hO).swap⟩
  · exact ⟨_, ⟨_, 0, rfl, .inr ⟨h0, ⟨q, d, rfl⟩, rfl⟩, rfl⟩, hO⟩
theorem rNodeG_spec {k : Ctx} {w : World} {r : Nat} {A : List Node_one} {K : Int → List Int} {R : List Ref01_one} {id : Int} (t : Two A K R) (hO : Own k w [rarL r R]) :
    Tri Try.prog 50 #[.pointer (some ⟨r, 0, none⟩), .int .i64 id] k w fun v m => ∃ n e, v = .tuple #[.agg (Api_node.cells n).toArray, .int .i64 e] ∧ NodeR A id n e ∧ m = [rarL r R, sls n.AttrsP n.AttrsC 24 4 Api_attr.cells n.Attrs] := by
  refine Ret.mono (rNode_spec t.tree t.sim t.max hO) ?_
  rintro v w' ⟨m, ⟨h0, rfl, rfl⟩ | ⟨h0, q, d, rfl, rfl⟩, hO⟩
  · exact ⟨_, ⟨default, 6, rfl, .inl ⟨h0, rfl, rfl⟩, rfl⟩, (nil_attrs hO).swap⟩
  · exact ⟨_, ⟨_, 0, rfl, .inr ⟨h0, ⟨q, d, rfl⟩, rfl⟩, rfl⟩, hO⟩
def kidL (A : List Node_one) (K : Int → List Int) (id : Int) : List Int := if hasB A id = true then K id else []
theorem kidL_len {A : List Node_one} {K : Int → List Int} {R : List Ref01_one} (t : Two A K R) (id : Int) : (kidL A K id).length ≤ 32768 := by
  unfold kidL
  split
  · next h => have := t.tree.len (inA_iff.1 h); have := t.max; omega
  · exact Nat.zero_le _
theorem KidsG_spec {k : Ctx} {w : World} {a : Nat} {A : List Node_one} {K : Int → List Int} {R : List Ref01_one} {id : Int} (t : Two A K R) (hO : Own k w [arenaL a A]) :
    Tri Try.prog 22 #[.pointer (some ⟨a, 0, none⟩), .int .i64 id] k w fun v m => ∃ q d, v = .slice q (kidL A K id).length d ∧ m = [arenaL a A, sls q d 3 1 (eI .i64) (kidL A K id)] := by
  cases hb : hasB A id with
  | true =>
    have e : kidL A K id = K id := by rw [kidL, if_pos hb]
    rw [e]
    exact KidsT_spec t.tree (inA_iff.1 hb) t.max hO
  | false =>
    have e : kidL A K id = [] := by rw [kidL, if_neg (by rw [hb]; simp)]
    rw [e]
    refine Ret.mono (Kids_spec (xs := []) t.pos (by simp) (fun h => by rw [hb] at h; simp at h) hO) ?_
    rintro v w' ⟨m, ⟨h0, rfl, rfl⟩ | ⟨h0, _⟩, hO⟩
    · have hO : Own k w' (sls none 0 3 1 (eI .i64) ([] : List Int) :: _) := sl_nil 3 1 hO
      exact ⟨_, ⟨none, 0, rfl, rfl⟩, hO.swap⟩
    · rw [hb] at h0; simp at h0
theorem rKidsG_spec {k : Ctx} {w : World} {r : Nat} {A : List Node_one} {K : Int → List Int} {R : List Ref01_one} {id : Int} (t : Two A K R) (hO : Own k w [rarL r R]) :
    Tri Try.prog 53 #[.pointer (some ⟨r, 0, none⟩), .int .i64 id] k w fun v m => ∃ q d, v = .slice q (kidL A K id).length d ∧ m = [rarL r R, sls q d 3 1 (eI .i64) (kidL A K id)] := by
  refine Ret.mono (rKids_spec t.sim (fun h => by have := t.tree.len (inA_iff.1 h); have := t.max; omega) hO) ?_
  rintro v w' ⟨m, ⟨h0, rfl, rfl⟩ | ⟨h0, q, d, rfl, rfl⟩, hO⟩
  · have e : kidL A K id = [] := by rw [kidL, if_neg (by rw [h0]; simp)]
    rw [e]
    have hO : Own k w' (sls none 0 3 1 (eI .i64) ([] : List Int) :: _) := sl_nil 3 1 hO
    exact ⟨_, ⟨none, 0, rfl, rfl⟩, hO.swap⟩
  · have e : kidL A K id = K id := by rw [kidL, if_pos h0]
    rw [e]; exact ⟨_, ⟨q, d, rfl, rfl⟩, hO⟩
set_option maxHeartbeats 4000000 in
theorem same_spec {k : Ctx} {w : World} {a r : Nat} {A : List Node_one} {K : Int → List Int} {R : List Ref01_one} (t : Two A K R) (hO : Own k w [arenaL a A, rarL r R]) :
    Tri Try.prog 27 #[.pointer (some ⟨a, 0, none⟩), .pointer (some ⟨r, 0, none⟩)] k w fun v m => v = .bool true ∧ m = [arenaL a A, rarL r R] := by
  refine enter (args := [.pointer (some ⟨a, 0, none⟩), .pointer (some ⟨r, 0, none⟩)]) Try.func27 rfl rfl ?_
  have hrl := t.sim.len
  have hmx := t.max
  refine K0 (K1 ?_)
  refine l_y rfl rfl (y_assign rfl) ?_
  refine K2 (K3 (K0 (K0 (K1 ?_))))
  refine l_y rfl rfl (y_assign rfl) ?_
  refine K2 (K3 (K4 ?_))
  refine c_rounds (X := Int) (fun x => [(0, .pointer (some ⟨a, 0, none⟩)), (1, .pointer (some ⟨r, 0, none⟩)), (4, .bool false), (5, .int .i64 x)]) (fun x w => Own k w [arenaL a A, rarL r R] ∧ (-1 ≤ x ∧ x ≤ R.length + 1)) (fun x => (R.length + 1 - x).toNat) ((-1)) ⟨rfl, rfl, rfl, rfl, trivial⟩ ⟨hO.only [.o a, .o r], ⟨by omega, by omega⟩⟩ ?_
  rintro x w m hm ⟨hO, hx⟩
  refine K0 (K0 ?_)
  obtain ⟨p, c, F, hg, hF, hO⟩ := rarL_open (hO.ks [.o r])
  refine K1 ?_
  refine l_y rfl rfl (y_move rfl) ?_
  refine l_y rfl rfl (y_move rfl) ?_
  refine l_y rfl rfl (y_nilCheck rfl rfl) ?_
  refine l_y rfl rfl (y_fldb (o' := 0) rfl) ?_
  refine l_y rfl rfl (D5 hO rfl) ?_
  refine l_y rfl rfl (y_lenL rfl) ?_
  refine Z0 (fun h2_6 => ?_) (fun h2_6 => ?_)
  · refine K2 (K3 (L8 (K5 (K3 (K0 (K4 (K0 ?_)))))))
    have hO := rarL_shut hF (hO.ks [.b r, .p p, .f])
    refine K1 ?_
    refine l_y rfl rfl (y_move rfl) ?_
    refine l_y rfl rfl (y_move rfl) ?_
    refine CK [.o a] hO rfl (fun k' hx hr hO' => NodeG_spec t.pos t.tree.attrs (hO := hO')) ?_
    rintro _ _ w ⟨n1, e1, rfl, hn1, rfl⟩ hO
    simp only [List.cons_append, List.nil_append] at hO
    refine l_y rfl rfl (y_move rfl) ?_
    refine l_y rfl rfl (y_extract rfl rfl) ?_
    refine l_y rfl rfl (y_extract rfl rfl) ?_
    refine s_alloc (vs := [.int .i64 0, .int .i64 0, .string ⟨#[]⟩, .slice none 0 0, .string ⟨#[]⟩, .string ⟨#[]⟩, .int .i64 0, .int .i64 0, .int .i64 0, .int .i64 0, .int .i64 0, .int .i64 0]) hO rfl rfl rfl fun b6 w hO => ?_
    refine Y3 hO rfl rfl (fun w hO => ?_)
    refine l_y rfl rfl (y_assign rfl) ?_
    refine K2 (K3 (K0 (K1 ?_)))
    refine l_y rfl rfl (y_move rfl) ?_
    refine l_y rfl rfl (y_move rfl) ?_
    refine CK [.o r] hO rfl (fun k' hx hr hO' => rNodeG_spec t (hO := hO')) ?_
    rintro _ _ w ⟨n2, e2, rfl, hn2, rfl⟩ hO
    simp only [List.cons_append, List.nil_append] at hO
    obtain ⟨hsm, hee⟩ := hn1.same hn2
    refine l_y rfl rfl (y_move rfl) ?_
    refine l_y rfl rfl (y_extract rfl rfl) ?_
    refine l_y rfl rfl (y_extract rfl rfl) ?_
    refine s_alloc (vs := [.int .i64 0, .int .i64 0, .string ⟨#[]⟩, .slice none 0 0, .string ⟨#[]⟩, .string ⟨#[]⟩, .int .i64 0, .int .i64 0, .int .i64 0, .int .i64 0, .int .i64 0, .int .i64 0]) hO rfl rfl rfl fun b8 w hO => ?_
    refine Y3 hO rfl rfl (fun w hO => ?_)
    refine l_y rfl rfl (y_assign rfl) ?_
    refine K2 (K3 (K0 (K1 ?_)))
    refine l_y rfl rfl (D8 (cs := [.int .i64 n1.Kind, .int .i64 n1.Space, .string n1.Name, .slice n1.AttrsP n1.Attrs.length n1.AttrsC, .string n1.Data, .string n1.System, .int .i64 n1.Parent, .int .i64 n1.First, .int .i64 n1.Last, .int .i64 n1.Prev, .int .i64 n1.Next, .int .i64 n1.Inner]) hO rfl) ?_
    refine l_y rfl rfl (D8 (cs := [.int .i64 n2.Kind, .int .i64 n2.Space, .string n2.Name, .slice n2.AttrsP n2.Attrs.length n2.AttrsC, .string n2.Data, .string n2.System, .int .i64 n2.Parent, .int .i64 n2.First, .int .i64 n2.Last, .int .i64 n2.Prev, .int .i64 n2.Next, .int .i64 n2.Inner]) hO rfl) ?_
    refine CK [] hO rfl (fun k' hx hr hO' => alike_spec (n := n1) (z := n2) hsm (sls_roK (p := n1.AttrsP) hr (sls_fct (p := n1.AttrsP) hO)) (sls_roK (p := n2.AttrsP) hr (sls_fct (p := n2.AttrsP) hO)) (hn1.len t.tree.attrs) (hO := hO')) ?_
    rintro _ _ w ⟨rfl, rfl⟩ hO
    simp only [List.nil_append] at hO
    refine l_y rfl rfl (y_not rfl rfl) ?_
    refine l_y rfl rfl (y_move rfl) ?_
    refine l_y rfl rfl (y_move rfl) ?_
    refine l_y rfl rfl (y_move rfl) ?_
    refine N4 (hp := hee) ?_
    refine l_y rfl rfl (y_pick_f rfl rfl) ?_
    refine l_y rfl rfl (y_move rfl) ?_
    refine l_y rfl rfl (y_move rfl) ?_
    refine l_y rfl rfl (y_move rfl) ?_
    refine CK [.o a] hO rfl (fun k' hx hr hO' => KidsG_spec t (hO := hO')) ?_
    rintro _ _ w ⟨q3, d3, rfl, rfl⟩ hO
    simp only [List.cons_append, List.nil_append] at hO
    refine l_y rfl rfl (y_move rfl) ?_
    refine l_y rfl rfl (y_move rfl) ?_
    refine CK [.o r] hO rfl (fun k' hx hr hO' => rKidsG_spec t (hO := hO')) ?_
    rintro _ _ w ⟨q4, d4, rfl, rfl⟩ hO
    simp only [List.cons_append, List.nil_append] at hO
    have hkl := kidL_len t x
    refine CK [] hO rfl (fun k' hx hr hO' => ints_spec (sls_roK (p := q3) hr (sls_fct (p := q3) hO)) (sls_roK (p := q4) hr (sls_fct (p := q4) hO)) (by omega) (hO := hO')) ?_
    rintro _ _ w ⟨rfl, rfl⟩ hO
    simp only [List.nil_append] at hO
    refine l_y rfl rfl (y_not rfl rfl) ?_
    refine l_y rfl rfl (y_pick_f rfl rfl) ?_
    refine l_y rfl rfl (y_move rfl) ?_
    refine l_y rfl rfl (y_move rfl) ?_
    refine l_y rfl rfl (y_move rfl) ?_
    refine CK [.o a] hO rfl (fun k' hx hr hO' => HostC_spec t.pos (hO := hO')) ?_
    rintro _ _ w ⟨rfl, rfl⟩ hO
    simp only [List.cons_append, List.nil_append] at hO
    refine l_y rfl rfl (y_move rfl) ?_
    refine l_y rfl rfl (y_move rfl) ?_
    refine CK [.o r] hO rfl (fun k' hx hr hO' => rHost_spec t.sim (hO := hO')) ?_
    rintro _ _ w ⟨rfl, rfl⟩ hO
    simp only [List.cons_append, List.nil_append] at hO
    refine N4 (hp := rfl) ?_
    refine l_y rfl rfl (y_pick_f rfl rfl) ?_
    refine K2 (K3 (L9 (K5 (K8 (K3 (K1 ?_))))))
    refine l_y rfl rfl (y_move rfl) ?_
    refine l_y rfl rfl (D4) ?_
    refine l_y rfl rfl (y_assign rfl) ?_
    refine K2 ?_
    exact q_next ((x + 1)) ⟨rfl, rfl, rfl, rfl, trivial⟩ ⟨hO.only [.o a, .o r], ⟨by omega, by omega⟩⟩ (by omega)
  · refine K2 (K3 (L9 (K7 (L1 (L1 (L2 (K3 (K0 ?_))))))))
    refine da_region (by intro c a d v w h; cases d <;> exact h) ?_
    have hO := hO.drew
    refine da_phase _ [] (SO.ks [.b r] hO) ?_
    refine dx_u 0 (by kernel_rfl) rfl rfl rfl (fun w => y_move rfl) ?_
    refine dx_u 2 (by kernel_rfl) rfl rfl rfl (fun w => y_move rfl) ?_
    refine dx_u 3 (by kernel_rfl) rfl rfl rfl (fun w => y_nilCheck rfl rfl) ?_
    refine dx_u 4 (by kernel_rfl) rfl rfl rfl (fun w => y_fldb (o' := 0) rfl) ?_
    refine dx_y 5 (by kernel_rfl) rfl rfl rfl (fun w ⟨m, hw⟩ => D5 hw rfl) ?_
    refine dx_u 6 (by kernel_rfl) rfl rfl rfl (fun w => y_lenL rfl) ?_
    refine dx_only 1 (by kernel_rfl) rfl rfl ?_
    refine CK [.o a] hO rfl (fun k' hx hr hO' => LenC_spec t.pos (hO := hO')) ?_
    rintro _ _ w ⟨rfl, rfl⟩ hO
    simp only [List.cons_append, List.nil_append] at hO
    refine o_done ?_
    refine ⟨SO.ks [.b r] hO, ?_⟩
    refine dx_y 7 (by kernel_rfl) rfl rfl rfl (fun w ⟨m, hw⟩ => D0 (hp := (by omega))) ?_
    refine dx_u 8 (by kernel_rfl) rfl rfl rfl (fun w => y_assign rfl) ?_
    refine dx_end (by kernel_rfl) ?_
    refine K3 (K6 ?_)
    exact fin1 rfl rfl ⟨_, ⟨rfl, rfl⟩, (rarL_shut hF (hO.ks [.b r, .p p, .f])).ks [.o a, .o r]⟩
end Go.Proofs.Ytnolpajggmfpdaa
