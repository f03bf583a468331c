/- The arena of nodes as it lies in memory, and the walks of its inner functions; no condition. -/
import Derived.Test.YtoohapbaelmkcaaGreatSt
set_option linter.unusedVariables false
set_option linter.unusedSimpArgs false
set_option maxRecDepth 100000
namespace Go.Proofs.YtoohapbaelmkcaaGreat
open Go Go.Hb Go.RowKit
/-- a node's attributes -/
def attrsP (o : Node_one) : HP := sls o.Node.AttrsP o.Node.AttrsC 115 4 Api_attr.cells o.Node.Attrs
abbrev atS (o : Node_one) : HP := sls o.Node.AttrsP o.Node.AttrsC 115 4 Api_attr.cells o.Node.Attrs
theorem arena_pick {k : Ctx} {w : World} {l : List HP} {A : List Node_one} {i : Nat} (hi : i < A.length) (hO : Own k w (sep (A.map attrsP) :: l)) : Own k w (atS (at_ A i) :: sep ((A.eraseIdx i).map attrsP) :: l) := sep_pick hi hO
theorem arena_put {k : Ctx} {w : World} {l : List HP} {A : List Node_one} {i : Nat} {y : Node_one} (hi : i < A.length) (hO : Own k w (atS y :: sep ((A.eraseIdx i).map attrsP) :: l)) : Own k w (sep ((A.set i y).map attrsP) :: l) := sep_put hi hO
theorem sls_same {p : Option Addr} {c sz : Nat} {T : TypeId} {α : Type} {enc : α → List Value} {xs ys : List α} (h : xs.map enc = ys.map enc) : sls p c T sz enc xs = sls p c T sz enc ys := by
  have : xs.length = ys.length := by have := congrArg List.length h; simpa using this
  unfold sls; rw [h, this]
instance (priority := high) AtK.ha (o : Node_one) (l : List HP) : AtK (attrsP o :: l) (.p o.Node.AttrsP) (attrsP o) l := ⟨.hd _ l⟩
def arenaL (a : Nat) (A : List Node_one) : HP := fun h => ∃ x : Option Addr × Nat, sep [blk a 103 [.slice x.1 A.length x.2], sls x.1 x.2 110 13 Node_one.cells A, sep (A.map attrsP)] h
theorem arenaL_open {k : Ctx} {w : World} {l : List HP} {a : Nat} {A : List Node_one} (hO : Own k w (arenaL a A :: l)) : ∃ p c, Gs p A.length ∧ Own k w (blk a 103 [.slice p A.length c] :: sls p c 110 13 Node_one.cells A :: sep (A.map attrsP) :: l) := by
  obtain ⟨⟨p, c⟩, hO⟩ := Own.ex (A := fun (x : Option Addr × Nat) => sep [blk a 103 [.slice x.1 A.length x.2], sls x.1 x.2 110 13 Node_one.cells A, sep (A.map attrsP)]) hO
  have hO := Own.open hO
  simp only [List.cons_append, List.nil_append] at hO
  exact ⟨p, c, (sls_fct (p := p) hO).2, hO⟩
theorem arenaL_shut {k : Ctx} {w : World} {l S : List HP} {a n : Nat} {A : List Node_one} {p : Option Addr} {c : Nat} (hO : Own k w (sep S :: blk a 103 [.slice p n c] :: sls p c 110 13 Node_one.cells A :: l)) (hS : S = A.map attrsP := by rfl) (hn : n = A.length := by first | rfl | simp) : Own k w (arenaL a A :: l) := by
  subst hn hS
  have hO := (hO.swap.perm (.cons _ (.swap _ _ _)))
  exact (Own.shut (l := [blk a 103 [.slice p A.length c], sls p c 110 13 Node_one.cells A, sep (A.map attrsP)]) hO).tell fun h hA => ⟨(p, c), hA⟩
def hasB (A : List Node_one) (id : Int) : Bool := decide (0 ≤ id ∧ id < A.length)
abbrev arB (a : Nat) (p : Option Addr) (n c : Nat) : HP := blk a 103 [.slice p n c]
abbrev arS (p : Option Addr) (c : Nat) (A : List Node_one) : HP := sls p c 110 13 Node_one.cells A
theorem none_spec {k : Ctx} {w : World} {a : Nat} {A : List Node_one} {p : Option Addr} {c : Nat} (hn : 0 < A.length := by assumption) (hO : Own k w [arB a p A.length c, arS p c A]) :
    Tri Tryz.prog 46 #[.pointer (some ⟨a, 0, none⟩)] k w fun v m => v = .bool false ∧ m = [arB a p A.length c, arS p c A] := by
  refine enter (args := [.pointer (some ⟨a, 0, none⟩)]) Tryz.func46 rfl rfl ?_
  refine K0 (K1 ?_)
  refine l_y rfl rfl (y_assign rfl) ?_
  refine K2 (K3 (K0 (K1 ?_)))
  refine l_y rfl rfl (y_move rfl) ?_
  refine l_y rfl rfl (y_eqPnil rfl rfl rfl) ?_
  refine l_y rfl rfl (y_move rfl) ?_
  refine l_y rfl rfl (y_move rfl) ?_
  refine l_y rfl rfl (y_nilCheck rfl rfl) ?_
  refine l_y rfl rfl (y_fldb (o' := 0) rfl) ?_
  refine l_y rfl rfl (D5 hO rfl) ?_
  refine l_y rfl rfl (y_lenL rfl) ?_
  refine N3 ?_
  refine l_y rfl rfl (y_pick_f rfl rfl) ?_
  refine l_y rfl rfl (y_assign rfl) ?_
  refine K2 (K3 (K6 ?_))
  exact fin1 rfl rfl ⟨_, ⟨rfl, rfl⟩, hO⟩
theorem has_spec {k : Ctx} {w : World} {a : Nat} {A : List Node_one} {id : Int} {p : Option Addr} {c : Nat} (hO : Own k w [arB a p A.length c, arS p c A]) :
    Tri Tryz.prog 48 #[.pointer (some ⟨a, 0, none⟩), .int .i64 id] k w fun v m => v = .bool (hasB A id) ∧ m = [arB a p A.length c, arS p c A] := by
  refine enter (args := [.pointer (some ⟨a, 0, none⟩), .int .i64 id]) Tryz.func48 rfl rfl ?_
  refine K0 (K1 ?_)
  refine l_y rfl rfl (y_assign rfl) ?_
  refine K2 (K3 (K0 (K1 ?_)))
  refine l_y rfl rfl (y_move rfl) ?_
  refine Z0 (fun h1_1 => ?_) (fun h1_1 => ?_)
  · refine l_y rfl rfl (y_move rfl) ?_
    refine l_y rfl rfl (y_move rfl) ?_
    refine l_y rfl rfl (y_move rfl) ?_
    refine l_y rfl rfl (y_nilCheck rfl rfl) ?_
    refine l_y rfl rfl (y_fldb (o' := 0) rfl) ?_
    refine l_y rfl rfl (D5 hO rfl) ?_
    refine l_y rfl rfl (y_lenL rfl) ?_
    refine Z0 (fun h1_9 => ?_) (fun h1_9 => ?_)
    · refine l_y rfl rfl (y_pick_t rfl rfl) ?_
      refine l_y rfl rfl (y_assign rfl) ?_
      refine K2 (K3 (K6 ?_))
      exact fin1 rfl rfl ⟨_, ⟨by simp [hasB]; omega, rfl⟩, hO⟩
    · refine l_y rfl rfl (y_pick_t rfl rfl) ?_
      refine l_y rfl rfl (y_assign rfl) ?_
      refine K2 (K3 (K6 ?_))
      exact fin1 rfl rfl ⟨_, ⟨by simp [hasB]; omega, rfl⟩, hO⟩
  · refine l_y rfl rfl (y_move rfl) ?_
    repeat refine M2 ?_
    refine l_y rfl rfl (y_pick_f rfl rfl) ?_
    refine l_y rfl rfl (y_assign rfl) ?_
    refine K2 (K3 (K6 ?_))
    exact fin1 rfl rfl ⟨_, ⟨by simp [hasB]; omega, rfl⟩, hO⟩
theorem hasB_true {A : List Node_one} {id : Int} (h : hasB A id = true) : 0 ≤ id ∧ id < A.length := by simpa [hasB] using h
theorem hasB_false {A : List Node_one} {id : Int} (h : hasB A id = false) : ¬ (0 ≤ id ∧ id < A.length) := by simpa [hasB] using h
def parentB (kd : Int) : Bool := decide (kd = 0 ∨ kd = 1 ∨ kd = 5)
theorem parent_spec {k : Ctx} {w : World} {kd : Int} (hO : Own k w []) : Tri Tryz.prog 53 #[.int .i64 kd] k w fun v m => v = .bool (parentB kd) ∧ m = [] := by
  refine enter (args := [.int .i64 kd]) Tryz.func53 rfl rfl ?_
  refine K0 (K1 ?_)
  refine l_y rfl rfl (y_assign rfl) ?_
  refine K2 (K3 (K0 (K1 ?_)))
  refine l_y rfl rfl (y_move rfl) ?_
  refine Z0 (fun h1_1 => ?_) (fun h1_1 => ?_)
  · refine l_y rfl rfl (y_move rfl) ?_
    repeat refine M2 ?_
    refine l_y rfl rfl (y_pick_t rfl rfl) ?_
    refine l_y rfl rfl (y_move rfl) ?_
    repeat refine M2 ?_
    refine l_y rfl rfl (y_pick_t rfl rfl) ?_
    refine l_y rfl rfl (y_assign rfl) ?_
    refine K2 (K3 (K6 ?_))
    exact fin1 rfl rfl ⟨_, ⟨by simp [parentB]; omega, rfl⟩, hO⟩
  · refine l_y rfl rfl (y_move rfl) ?_
    refine l_y rfl rfl (y_move rfl) ?_
    refine Z0 (fun h1_4 => ?_) (fun h1_4 => ?_)
    · refine l_y rfl rfl (y_pick_f rfl rfl) ?_
      refine l_y rfl rfl (y_move rfl) ?_
      repeat refine M2 ?_
      refine l_y rfl rfl (y_pick_t rfl rfl) ?_
      refine l_y rfl rfl (y_assign rfl) ?_
      refine K2 (K3 (K6 ?_))
      exact fin1 rfl rfl ⟨_, ⟨by simp [parentB]; omega, rfl⟩, hO⟩
    · refine l_y rfl rfl (y_pick_f rfl rfl) ?_
      refine l_y rfl rfl (y_move rfl) ?_
      refine l_y rfl rfl (y_move rfl) ?_
      refine Z0 (fun h1_8 => ?_) (fun h1_8 => ?_)
      · refine l_y rfl rfl (y_pick_f rfl rfl) ?_
        refine l_y rfl rfl (y_assign rfl) ?_
        refine K2 (K3 (K6 ?_))
        exact fin1 rfl rfl ⟨_, ⟨by simp [parentB]; omega, rfl⟩, hO⟩
      · refine l_y rfl rfl (y_pick_f rfl rfl) ?_
        refine l_y rfl rfl (y_assign rfl) ?_
        refine K2 (K3 (K6 ?_))
        exact fin1 rfl rfl ⟨_, ⟨by simp [parentB]; omega, rfl⟩, hO⟩
def blankN (n : Api_node) : Node_one := ⟨{ n with Parent := -1, First := -1, Last := -1, Prev := -1, Next := -1, Inner := -1 }, -1⟩
theorem blank_spec {k : Ctx} {w : World} {n : Api_node} (hO : Own k w []) : Tri Tryz.prog 61 #[.agg (Api_node.cells n).toArray] k w fun v m => v = .agg (Node_one.cells (blankN n)).toArray ∧ m = [] := by
  refine enter (args := [.agg (Api_node.cells n).toArray]) Tryz.func61 rfl rfl ?_
  refine K0 (K1 ?_)
  refine s_box (vs := [.int .i64 n.Kind, .int .i64 n.Space, .string n.Name, .slice n.AttrsP n.Attrs.length n.AttrsC, .string n.Data, .string n.System, .int .i64 n.Parent, .int .i64 n.First, .int .i64 n.Last, .int .i64 n.Prev, .int .i64 n.Next, .int .i64 n.Inner]) hO rfl rfl rfl (by rfl) fun b1 w hO => ?_
  refine s_alloc (vs := [.int .i64 0, .int .i64 0, .string ⟨#[]⟩, .slice none 0 0, .string ⟨#[]⟩, .string ⟨#[]⟩, .int .i64 0, .int .i64 0, .int .i64 0, .int .i64 0, .int .i64 0, .int .i64 0, .int .i64 0]) hO rfl rfl rfl fun b2 w hO => ?_
  refine K2 (K3 (K0 (K1 ?_)))
  refine l_y rfl rfl (y_fldb (o' := 6) rfl) ?_
  refine Y1 hO rfl rfl (fun w hO => ?_)
  simp only [List.set_cons_zero, List.set_cons_succ] at hO
  refine l_y rfl rfl (y_fldb (o' := 7) rfl) ?_
  refine Y1 hO rfl rfl (fun w hO => ?_)
  simp only [List.set_cons_zero, List.set_cons_succ] at hO
  refine l_y rfl rfl (y_fldb (o' := 8) rfl) ?_
  refine Y1 hO rfl rfl (fun w hO => ?_)
  simp only [List.set_cons_zero, List.set_cons_succ] at hO
  refine l_y rfl rfl (y_fldb (o' := 9) rfl) ?_
  refine Y1 hO rfl rfl (fun w hO => ?_)
  simp only [List.set_cons_zero, List.set_cons_succ] at hO
  refine l_y rfl rfl (y_fldb (o' := 10) rfl) ?_
  refine Y1 hO rfl rfl (fun w hO => ?_)
  simp only [List.set_cons_zero, List.set_cons_succ] at hO
  refine l_y rfl rfl (y_fldb (o' := 11) rfl) ?_
  refine Y1 hO rfl rfl (fun w hO => ?_)
  simp only [List.set_cons_zero, List.set_cons_succ] at hO
  refine K2 (K3 (K0 (K1 ?_)))
  refine l_y rfl rfl (D8 (cs := [.int .i64 n.Kind, .int .i64 n.Space, .string n.Name, .slice n.AttrsP n.Attrs.length n.AttrsC, .string n.Data, .string n.System, .int .i64 (-1), .int .i64 (-1), .int .i64 (-1), .int .i64 (-1), .int .i64 (-1), .int .i64 (-1)]) hO rfl) ?_
  refine s_build (parts := [(0, .tmp 9), (1, .const (.int .i64 (-1)))]) (cs := [.int .i64 n.Kind, .int .i64 n.Space, .string n.Name, .slice n.AttrsP n.Attrs.length n.AttrsC, .string n.Data, .string n.System, .int .i64 (-1), .int .i64 (-1), .int .i64 (-1), .int .i64 (-1), .int .i64 (-1), .int .i64 (-1), .int .i64 (-1)]) rfl rfl (fun a ha => partsOf_sound ha _ _ rfl) (by kernel_rfl) ?_
  refine Y3 hO rfl rfl (fun w hO => ?_)
  refine K2 (K3 (K6 ?_))
  exact finC hO rfl rfl ⟨_, ⟨rfl, rfl⟩, hO.none⟩
theorem own_spec {k : Ctx} {w : World} {xs : List Api_attr} {p : Option Addr} {c : Nat} (hs : Sli (Ro k) (.slice p xs.length c) (xs.map Api_attr.cells)) (hl : xs.length ≤ 1000000000000) (hO : Own k w []) :
    Tri Tryz.prog 49 #[.slice p xs.length c] k w fun v m => ∃ b, v = .slice (some ⟨b, 0, none⟩) xs.length xs.length ∧ m = [sls (some ⟨b, 0, none⟩) xs.length 115 4 Api_attr.cells xs] := by
  refine enter (args := [.slice p xs.length c]) Tryz.func49 rfl rfl ?_
  refine K0 (K1 ?_)
  refine l_y rfl rfl (y_assign rfl) ?_
  refine K2 (K3 (K0 (K1 ?_)))
  refine l_y rfl rfl (y_move rfl) ?_
  refine l_y rfl rfl (y_lenL rfl) ?_
  refine s_mk (enc := Api_attr.cells) default hO rfl rfl rfl rfl (Nat.le_refl _) (by omega) (by simp only [maxLen]; omega) fun b w hO => ?_
  refine l_y rfl rfl (y_assign rfl) ?_
  refine K2 (K3 (K0 (K1 ?_)))
  refine l_y rfl rfl (y_move rfl) ?_
  refine l_y rfl rfl (y_move rfl) ?_
  refine s_cp hO rfl rfl (src_ro hO hs) fun w hO => ?_
  rw [List.drop_of_length_le (by simp), List.append_nil] at hO
  refine K2 (K3 (K0 (K1 ?_)))
  refine l_y rfl rfl (y_move rfl) ?_
  refine l_y rfl rfl (y_assign rfl) ?_
  refine K2 (K3 (K6 ?_))
  exact fin1 rfl rfl ⟨_, ⟨b, rfl, rfl⟩, hO⟩
def longB (l : List ByteArray) : Bool := l.any fun s => decide (1048576 < s.size)
def addL (A : List Node_one) (n : Api_node) (ts : List ByteArray) : Int × Int × List Node_one := if longB ts = true then (0, 2, A) else if 32768 ≤ A.length then (0, 9, A) else (A.length, 0, A ++ [blankN n])
set_option maxHeartbeats 1000000 in
theorem add_spec {k : Ctx} {w : World} {a : Nat} {A : List Node_one} {n : Api_node} {ts : List ByteArray} {tp : Option Addr} {tc : Nat} (hn : 0 < A.length) (hc : A.length ≤ 32768) (ht : Sli (Ro k) (.slice tp ts.length tc) (ts.map eS)) (htl : ts.length ≤ 1000000) (hO : Own k w [arenaL a A, attrsP (blankN n)]) :
    Tri Tryz.prog 51 #[.pointer (some ⟨a, 0, none⟩), .agg (Api_node.cells n).toArray, .slice tp ts.length tc] k w fun v m => v = .tuple #[.int .i64 (addL A n ts).1, .int .i64 (addL A n ts).2.1] ∧ m = [arenaL a (addL A n ts).2.2] := by
  refine enter (args := [.pointer (some ⟨a, 0, none⟩), .agg (Api_node.cells n).toArray, .slice tp ts.length tc]) Tryz.func51 rfl rfl ?_
  have htg := sli_gs ht
  obtain ⟨p, c, hg, hO⟩ := arenaL_open hO
  refine K0 (K1 ?_)
  refine s_box (vs := [.int .i64 n.Kind, .int .i64 n.Space, .string n.Name, .slice n.AttrsP n.Attrs.length n.AttrsC, .string n.Data, .string n.System, .int .i64 n.Parent, .int .i64 n.First, .int .i64 n.Last, .int .i64 n.Prev, .int .i64 n.Next, .int .i64 n.Inner]) hO rfl rfl rfl (by rfl) fun b4 w hO => ?_
  refine l_y rfl rfl (y_assign rfl) ?_
  refine l_y rfl rfl (y_assign rfl) ?_
  refine K2 (K3 (K0 (K0 (K1 ?_))))
  refine l_y rfl rfl (y_move rfl) ?_
  refine CK [.b a, .p p] hO rfl (fun k' hx hr hO' => none_spec (hO := hO')) ?_
  rintro _ _ w ⟨rfl, rfl⟩ hO
  simp only [List.cons_append, List.nil_append] at hO
  refine K2 (K3 (L9 (K5 (K3 (K0 (K0 (K1 ?_)))))))
  refine l_y rfl rfl (y_move rfl) ?_
  refine l_y rfl rfl (y_lenL rfl) ?_
  refine l_y rfl rfl (y_move rfl) ?_
  refine K2 (K3 (K4 ?_))
  refine c_rounds (X := Nat) (fun i => [(0, .pointer (some ⟨a, 0, none⟩)), (4, .pointer (some ⟨b4, 0, none⟩)), (6, .int .i64 0), (7, .int .i64 0), (12, .slice tp ts.length tc), (13, .int .i64 ((ts.length : Nat) : Int)), (14, .int .i64 (i : Int))]) (fun i w => Own k w [arB a p A.length c, arS p c A, sep (A.map attrsP), blk b4 48 (Api_node.cells n), attrsP (blankN n)] ∧ (i ≤ ts.length) ∧ (longB (ts.take i) = false)) (fun i => ts.length - i) (0) ⟨rfl, rfl, rfl, rfl, rfl, rfl, rfl, trivial⟩ ⟨hO.only [.b a, .p p, .s, .b b4, .p (blankN n).Node.AttrsP], Nat.zero_le _, rfl⟩ ?_
  rintro i w m hm ⟨hO, hi, hj⟩
  refine K0 (K1 ?_)
  refine Z0 (fun h4_0 => ?_) (fun h4_0 => ?_)
  · refine K2 (K3 (K0 (L8 (K5 (K3 (K0 (K4 (K0 (K1 ?_)))))))))
    refine l_y rfl rfl (y_idx rfl rfl) ?_
    refine l_y rfl rfl (y_r1 (x0 := 0) (enc := eS) (xs := ts) hO rfl) ?_
    refine l_y rfl rfl (y_assign rfl) ?_
    refine K2 (K3 (K0 (K1 ?_)))
    refine l_y rfl rfl (y_move rfl) ?_
    refine l_y rfl rfl (y_lenS rfl) ?_
    refine Z0 (fun h6_2 => ?_) (fun h6_2 => ?_)
    · refine K2 (K3 (L8 (K0 (K1 ?_))))
      refine l_y rfl rfl (y_assign rfl) ?_
      refine l_y rfl rfl (y_assign rfl) ?_
      refine K2 (K3 (K6 (L0 (K9 (K9 (L0 (K9 ?_)))))))
      have hlong : longB ts = true := by
        simp only [longB, List.any_eq_true, decide_eq_true_eq]
        exact ⟨at_ ts i, at_mem (by omega), by simp only [Int.toNat_natCast] at h6_2; omega⟩
      exact fin2 rfl rfl rfl ⟨_, ⟨by simp [addL, hlong], rfl⟩, by rw [addL, if_pos hlong]; exact (arenaL_shut (hO.ks [.s, .b a, .p p])).one⟩
    · refine K2 (K3 (L9 (K5 (K8 (K3 (K1 ?_))))))
      refine l_y rfl rfl (D4) ?_
      refine l_y rfl rfl (y_move rfl) ?_
      refine K2 ?_
      exact q_next (i + 1) ⟨rfl, rfl, rfl, rfl, rfl, rfl, rfl, trivial⟩ ⟨hO.only [.b a, .p p, .s, .b b4, .p (blankN n).Node.AttrsP], by omega, by rw [take_succ_at (by omega)]; simp [longB] at hj ⊢; simp only [Int.toNat_natCast] at h6_2; exact ⟨hj, by omega⟩⟩ (by omega)
  · refine K2 (K3 (K0 (L9 (K7 (L1 (L1 (L2 (K3 (K0 (K0 ?_))))))))))
    have hlf : longB ts = false := by rw [← hj, List.take_of_length_le (by omega)]
    refine K1 ?_
    refine l_y rfl rfl (y_move rfl) ?_
    refine l_y rfl rfl (y_nilCheck rfl rfl) ?_
    refine l_y rfl rfl (y_fldb (o' := 0) rfl) ?_
    refine l_y rfl rfl (D5 hO rfl) ?_
    refine l_y rfl rfl (y_lenL rfl) ?_
    refine Z0 (fun h9_5 => ?_) (fun h9_5 => ?_)
    · refine K2 (K3 (L8 (K0 (K1 ?_))))
      refine l_y rfl rfl (y_assign rfl) ?_
      refine l_y rfl rfl (y_assign rfl) ?_
      refine K2 (K3 (K6 (K9 ?_)))
      exact fin2 rfl rfl rfl ⟨_, ⟨by rw [addL, hlf, if_neg (by simp), if_pos (by omega)], rfl⟩, by rw [addL, hlf, if_neg (by simp), if_pos (by omega)]; exact (arenaL_shut (hO.ks [.s, .b a, .p p])).one⟩
    · refine K2 (K3 (L9 (K5 (K3 (K0 ?_)))))
      refine da_region (by intro c a d v w h; cases d <;> exact h) ?_
      have hO := hO.drew
      refine da_phase _ [8] (SO.ks [.b a, .b b4] hO) ?_
      refine dx_u 0 (by kernel_rfl) rfl rfl rfl (fun w => y_move rfl) ?_
      refine dx_u 1 (by kernel_rfl) rfl rfl rfl (fun w => y_move rfl) ?_
      refine dx_u 2 (by kernel_rfl) rfl rfl rfl (fun w => y_nilCheck rfl rfl) ?_
      refine dx_u 3 (by kernel_rfl) rfl rfl rfl (fun w => y_fldb (o' := 0) rfl) ?_
      refine dx_y 4 (by kernel_rfl) rfl rfl rfl (fun w ⟨m, hw⟩ => D5 hw rfl) ?_
      refine dx_y 5 (by kernel_rfl) rfl rfl rfl (fun w ⟨m, hw⟩ => D8 (cs := [.int .i64 n.Kind, .int .i64 n.Space, .string n.Name, .slice n.AttrsP n.Attrs.length n.AttrsC, .string n.Data, .string n.System, .int .i64 n.Parent, .int .i64 n.First, .int .i64 n.Last, .int .i64 n.Prev, .int .i64 n.Next, .int .i64 n.Inner]) hw rfl) ?_
      refine dx_only 6 (by kernel_rfl) rfl rfl ?_
      refine C0 hO rfl (fun k' hx hr hO' => blank_spec (n := n) (hO := hO')) ?_
      rintro _ _ w ⟨rfl, rfl⟩ hO
      simp only [List.cons_append, List.nil_append] at hO
      refine o_done ?_
      refine ⟨SO.ks [.b a, .b b4] hO, ?_⟩
      refine dx_only 7 (by kernel_rfl) rfl rfl ?_
      refine s_lit (parts := [(0, .tmp 34)]) (enc := Node_one.cells) [(blankN n)] [.agg [.int .i64 (blankN n).Node.Kind, .int .i64 (blankN n).Node.Space, .string (blankN n).Node.Name, .slice (blankN n).Node.AttrsP (blankN n).Node.Attrs.length (blankN n).Node.AttrsC, .string (blankN n).Node.Data, .string (blankN n).Node.System, .int .i64 (blankN n).Node.Parent, .int .i64 (blankN n).Node.First, .int .i64 (blankN n).Node.Last, .int .i64 (blankN n).Node.Prev, .int .i64 (blankN n).Node.Next, .int .i64 (blankN n).Node.Inner, .int .i64 (blankN n).host].toArray] hO rfl (fun b35 w hO => ?_)
      refine o_done ?_
      refine ⟨SO.ks [.b a, .b b4] hO, ?_⟩
      refine dx_close 8 (by kernel_rfl) rfl rfl ?_
      refine s_app hO rfl rfl (src_own hO) (fun p36 c36 w hO gs36 => ?_)
      refine o_done ?_
      refine da_phase _ [11] (SO.ks [] hO) ?_
      refine dx_u 9 (by kernel_rfl) rfl rfl rfl (fun w => y_nilCheck rfl rfl) ?_
      refine dx_u 10 (by kernel_rfl) rfl rfl rfl (fun w => y_fldb (o' := 0) rfl) ?_
      refine dx_close 11 (by kernel_rfl) rfl rfl ?_
      refine Y1 hO rfl rfl (fun w hO => ?_)
      simp only [List.set_cons_zero, List.set_cons_succ] at hO
      refine o_done ?_
      refine da_end (by kernel_rfl) ?_
      refine K3 (K0 ?_)
      have hal : (A ++ [blankN n]).length = A.length + 1 := by simp
      refine K1 ?_
      refine l_y rfl rfl (y_move rfl) ?_
      refine l_y rfl rfl (y_nilCheck rfl rfl) ?_
      refine l_y rfl rfl (y_fldb (o' := 0) rfl) ?_
      refine l_y rfl rfl (D5 hO rfl) ?_
      refine l_y rfl rfl (y_lenL rfl) ?_
      refine l_y rfl rfl (D4) ?_
      refine l_y rfl rfl (y_assign rfl) ?_
      refine l_y rfl rfl (y_assign rfl) ?_
      refine K2 (K3 (K6 ?_))
      have e : addL A n ts = ((A.length : Int), 0, A ++ [blankN n]) := by rw [addL, hlf, if_neg (by simp), if_neg (by omega)]
      have hO := (hO.ks [.s, .p (blankN n).Node.AttrsP]).snoc.ks [.s, .b a, .p p36]
      rw [e]
      refine fin2 rfl rfl rfl ⟨_, ⟨?_, rfl⟩, (arenaL_shut hO (by simp)).one⟩
      simp
end Go.Proofs.YtoohapbaelmkcaaGreat
