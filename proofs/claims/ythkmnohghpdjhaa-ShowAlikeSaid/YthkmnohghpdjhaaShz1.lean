/- What the row of this folder leans on, part 1: the walks of the functions and the laws of what they compute; no condition. -/
import Derived.Test.YthkmnohghpdjhaaShz0
section
set_option linter.unusedVariables false
set_option linter.unusedSimpArgs false
set_option maxRecDepth 100000
namespace Go.Proofs.Ythkmnohghpdjhaa
open Go Go.Hb Go.RowKit
/-- a node's attributes -/
def attrsP (o : Node_one) : HP := sls o.Node.AttrsP o.Node.AttrsC 63 4 Api_attr.cells o.Node.Attrs
abbrev atS (o : Node_one) : HP := sls o.Node.AttrsP o.Node.AttrsC 63 4 Api_attr.cells o.Node.Attrs
theorem arena_pick {k : Ctx} {w : World} {l : List HP} {A : List Node_one} {i : Nat} (hi : i < A.length) (hO : Own k w (sep (A.map attrsP) :: l)) : Own k w (atS (at_ A i) :: sep ((A.eraseIdx i).map attrsP) :: l) := sep_pick hi hO
theorem arena_put {k : Ctx} {w : World} {l : List HP} {A : List Node_one} {i : Nat} {y : Node_one} (hi : i < A.length) (hO : Own k w (atS y :: sep ((A.eraseIdx i).map attrsP) :: l)) : Own k w (sep ((A.set i y).map attrsP) :: l) := sep_put hi hO
instance (priority := high) AtK.ha (o : Node_one) (l : List HP) : AtK (attrsP o :: l) (.p o.Node.AttrsP) (attrsP o) l := ⟨.hd _ l⟩
def arenaL (a : Nat) (A : List Node_one) : HP := fun h => ∃ x : Option Addr × Nat, sep [blk a 61 [.slice x.1 A.length x.2], sls x.1 x.2 57 13 Node_one.cells A, sep (A.map attrsP)] h
theorem arenaL_open {k : Ctx} {w : World} {l : List HP} {a : Nat} {A : List Node_one} (hO : Own k w (arenaL a A :: l)) : ∃ p c, Gs p A.length ∧ Own k w (blk a 61 [.slice p A.length c] :: sls p c 57 13 Node_one.cells A :: sep (A.map attrsP) :: l) := by
  obtain ⟨⟨p, c⟩, hO⟩ := Own.ex (A := fun (x : Option Addr × Nat) => sep [blk a 61 [.slice x.1 A.length x.2], sls x.1 x.2 57 13 Node_one.cells A, sep (A.map attrsP)]) hO
  have hO := Own.open hO
  simp only [List.cons_append, List.nil_append] at hO
  exact ⟨p, c, (sls_fct (p := p) hO).2, hO⟩
theorem arenaL_shut {k : Ctx} {w : World} {l S : List HP} {a n : Nat} {A : List Node_one} {p : Option Addr} {c : Nat} (hO : Own k w (sep S :: blk a 61 [.slice p n c] :: sls p c 57 13 Node_one.cells A :: l)) (hS : S = A.map attrsP := by rfl) (hn : n = A.length := by first | rfl | simp) : Own k w (arenaL a A :: l) := by
  subst hn hS
  have hO := (hO.swap.perm (.cons _ (.swap _ _ _)))
  exact (Own.shut (l := [blk a 61 [.slice p A.length c], sls p c 57 13 Node_one.cells A, sep (A.map attrsP)]) hO).tell fun h hA => ⟨(p, c), hA⟩
def hasB (A : List Node_one) (id : Int) : Bool := decide (0 ≤ id ∧ id < A.length)
abbrev arB (a : Nat) (p : Option Addr) (n c : Nat) : HP := blk a 61 [.slice p n c]
abbrev arS (p : Option Addr) (c : Nat) (A : List Node_one) : HP := sls p c 57 13 Node_one.cells A
theorem none_spec {k : Ctx} {w : World} {a : Nat} {A : List Node_one} {p : Option Addr} {c : Nat} (hn : 0 < A.length := by assumption) (hO : Own k w [arB a p A.length c, arS p c A]) :
    Tri Try.prog 26 #[.pointer (some ⟨a, 0, none⟩)] k w fun v m => v = .bool false ∧ m = [arB a p A.length c, arS p c A] := by
  refine enter (args := [.pointer (some ⟨a, 0, none⟩)]) Try.func26 rfl rfl ?_
  refine K0 (K1 ?_)
  refine l_y rfl rfl (y_assign rfl) ?_
  refine K2 (K3 (K0 (K1 ?_)))
  refine l_y rfl rfl (y_move rfl) ?_
  refine l_y rfl rfl (y_eqPnil rfl rfl rfl) ?_
  refine l_y rfl rfl (y_move rfl) ?_
  refine l_y rfl rfl (y_move rfl) ?_
  refine l_y rfl rfl (y_nilCheck rfl rfl) ?_
  refine l_y rfl rfl (y_fldb (o' := 0) rfl) ?_
  refine l_y rfl rfl (D5 hO rfl) ?_
  refine l_y rfl rfl (y_lenL rfl) ?_
  refine N3 ?_
  refine l_y rfl rfl (y_pick_f rfl rfl) ?_
  refine l_y rfl rfl (y_assign rfl) ?_
  refine K2 (K3 (K6 ?_))
  exact fin1 rfl rfl ⟨_, ⟨rfl, rfl⟩, hO⟩
theorem has_spec {k : Ctx} {w : World} {a : Nat} {A : List Node_one} {id : Int} {p : Option Addr} {c : Nat} (hO : Own k w [arB a p A.length c, arS p c A]) :
    Tri Try.prog 30 #[.pointer (some ⟨a, 0, none⟩), .int .i64 id] k w fun v m => v = .bool (hasB A id) ∧ m = [arB a p A.length c, arS p c A] := by
  refine enter (args := [.pointer (some ⟨a, 0, none⟩), .int .i64 id]) Try.func30 rfl rfl ?_
  refine K0 (K1 ?_)
  refine l_y rfl rfl (y_assign rfl) ?_
  refine K2 (K3 (K0 (K1 ?_)))
  refine l_y rfl rfl (y_move rfl) ?_
  refine Z0 (fun h1_1 => ?_) (fun h1_1 => ?_)
  · refine l_y rfl rfl (y_move rfl) ?_
    refine l_y rfl rfl (y_move rfl) ?_
    refine l_y rfl rfl (y_move rfl) ?_
    refine l_y rfl rfl (y_nilCheck rfl rfl) ?_
    refine l_y rfl rfl (y_fldb (o' := 0) rfl) ?_
    refine l_y rfl rfl (D5 hO rfl) ?_
    refine l_y rfl rfl (y_lenL rfl) ?_
    refine Z0 (fun h1_9 => ?_) (fun h1_9 => ?_)
    · refine l_y rfl rfl (y_pick_t rfl rfl) ?_
      refine l_y rfl rfl (y_assign rfl) ?_
      refine K2 (K3 (K6 ?_))
      exact fin1 rfl rfl ⟨_, ⟨by simp [hasB]; omega, rfl⟩, hO⟩
    · refine l_y rfl rfl (y_pick_t rfl rfl) ?_
      refine l_y rfl rfl (y_assign rfl) ?_
      refine K2 (K3 (K6 ?_))
      exact fin1 rfl rfl ⟨_, ⟨by simp [hasB]; omega, rfl⟩, hO⟩
  · refine l_y rfl rfl (y_move rfl) ?_
    repeat refine M2 ?_
    refine l_y rfl rfl (y_pick_f rfl rfl) ?_
    refine l_y rfl rfl (y_assign rfl) ?_
    refine K2 (K3 (K6 ?_))
    exact fin1 rfl rfl ⟨_, ⟨by simp [hasB]; omega, rfl⟩, hO⟩
theorem hasB_true {A : List Node_one} {id : Int} (h : hasB A id = true) : 0 ≤ id ∧ id < A.length := by simpa [hasB] using h
def parentB (kd : Int) : Bool := decide (kd = 0 ∨ kd = 1 ∨ kd = 5)
theorem parent_spec {k : Ctx} {w : World} {kd : Int} (hO : Own k w []) : Tri Try.prog 31 #[.int .i64 kd] k w fun v m => v = .bool (parentB kd) ∧ m = [] := by
  refine enter (args := [.int .i64 kd]) Try.func31 rfl rfl ?_
  refine K0 (K1 ?_)
  refine l_y rfl rfl (y_assign rfl) ?_
  refine K2 (K3 (K0 (K1 ?_)))
  refine l_y rfl rfl (y_move rfl) ?_
  refine Z0 (fun h1_1 => ?_) (fun h1_1 => ?_)
  · refine l_y rfl rfl (y_move rfl) ?_
    repeat refine M2 ?_
    refine l_y rfl rfl (y_pick_t rfl rfl) ?_
    refine l_y rfl rfl (y_move rfl) ?_
    repeat refine M2 ?_
    refine l_y rfl rfl (y_pick_t rfl rfl) ?_
    refine l_y rfl rfl (y_assign rfl) ?_
    refine K2 (K3 (K6 ?_))
    exact fin1 rfl rfl ⟨_, ⟨by simp [parentB]; omega, rfl⟩, hO⟩
  · refine l_y rfl rfl (y_move rfl) ?_
    refine l_y rfl rfl (y_move rfl) ?_
    refine Z0 (fun h1_4 => ?_) (fun h1_4 => ?_)
    · refine l_y rfl rfl (y_pick_f rfl rfl) ?_
      refine l_y rfl rfl (y_move rfl) ?_
      repeat refine M2 ?_
      refine l_y rfl rfl (y_pick_t rfl rfl) ?_
      refine l_y rfl rfl (y_assign rfl) ?_
      refine K2 (K3 (K6 ?_))
      exact fin1 rfl rfl ⟨_, ⟨by simp [parentB]; omega, rfl⟩, hO⟩
    · refine l_y rfl rfl (y_pick_f rfl rfl) ?_
      refine l_y rfl rfl (y_move rfl) ?_
      refine l_y rfl rfl (y_move rfl) ?_
      refine Z0 (fun h1_8 => ?_) (fun h1_8 => ?_)
      · refine l_y rfl rfl (y_pick_f rfl rfl) ?_
        refine l_y rfl rfl (y_assign rfl) ?_
        refine K2 (K3 (K6 ?_))
        exact fin1 rfl rfl ⟨_, ⟨by simp [parentB]; omega, rfl⟩, hO⟩
      · refine l_y rfl rfl (y_pick_f rfl rfl) ?_
        refine l_y rfl rfl (y_assign rfl) ?_
        refine K2 (K3 (K6 ?_))
        exact fin1 rfl rfl ⟨_, ⟨by simp [parentB]; omega, rfl⟩, hO⟩
def blankN (n : Api_node) : Node_one := ⟨{ n with Parent := -1, First := -1, Last := -1, Prev := -1, Next := -1, Inner := -1 }, -1⟩
theorem blank_spec {k : Ctx} {w : World} {n : Api_node} (hO : Own k w []) : Tri Try.prog 25 #[.agg (Api_node.cells n).toArray] k w fun v m => v = .agg (Node_one.cells (blankN n)).toArray ∧ m = [] := by
  refine enter (args := [.agg (Api_node.cells n).toArray]) Try.func25 rfl rfl ?_
  refine K0 (K1 ?_)
  refine s_box (vs := [.int .i64 n.Kind, .int .i64 n.Space, .string n.Name, .slice n.AttrsP n.Attrs.length n.AttrsC, .string n.Data, .string n.System, .int .i64 n.Parent, .int .i64 n.First, .int .i64 n.Last, .int .i64 n.Prev, .int .i64 n.Next, .int .i64 n.Inner]) hO rfl rfl rfl (by rfl) fun b1 w hO => ?_
  refine s_alloc (vs := [.int .i64 0, .int .i64 0, .string ⟨#[]⟩, .slice none 0 0, .string ⟨#[]⟩, .string ⟨#[]⟩, .int .i64 0, .int .i64 0, .int .i64 0, .int .i64 0, .int .i64 0, .int .i64 0, .int .i64 0]) hO rfl rfl rfl fun b2 w hO => ?_
  refine K2 (K3 (K0 (K1 ?_)))
  refine l_y rfl rfl (y_fldb (o' := 6) rfl) ?_
  refine Y1 hO rfl rfl (fun w hO => ?_)
  simp only [List.set_cons_zero, List.set_cons_succ] at hO
  refine l_y rfl rfl (y_fldb (o' := 7) rfl) ?_
  refine Y1 hO rfl rfl (fun w hO => ?_)
  simp only [List.set_cons_zero, List.set_cons_succ] at hO
  refine l_y rfl rfl (y_fldb (o' := 8) rfl) ?_
  refine Y1 hO rfl rfl (fun w hO => ?_)
  simp only [List.set_cons_zero, List.set_cons_succ] at hO
  refine l_y rfl rfl (y_fldb (o' := 9) rfl) ?_
  refine Y1 hO rfl rfl (fun w hO => ?_)
  simp only [List.set_cons_zero, List.set_cons_succ] at hO
  refine l_y rfl rfl (y_fldb (o' := 10) rfl) ?_
  refine Y1 hO rfl rfl (fun w hO => ?_)
  simp only [List.set_cons_zero, List.set_cons_succ] at hO
  refine l_y rfl rfl (y_fldb (o' := 11) rfl) ?_
  refine Y1 hO rfl rfl (fun w hO => ?_)
  simp only [List.set_cons_zero, List.set_cons_succ] at hO
  refine K2 (K3 (K0 (K1 ?_)))
  refine l_y rfl rfl (D8 (cs := [.int .i64 n.Kind, .int .i64 n.Space, .string n.Name, .slice n.AttrsP n.Attrs.length n.AttrsC, .string n.Data, .string n.System, .int .i64 (-1), .int .i64 (-1), .int .i64 (-1), .int .i64 (-1), .int .i64 (-1), .int .i64 (-1)]) hO rfl) ?_
  refine s_build (parts := [(0, .tmp 9), (1, .const (.int .i64 (-1)))]) (cs := [.int .i64 n.Kind, .int .i64 n.Space, .string n.Name, .slice n.AttrsP n.Attrs.length n.AttrsC, .string n.Data, .string n.System, .int .i64 (-1), .int .i64 (-1), .int .i64 (-1), .int .i64 (-1), .int .i64 (-1), .int .i64 (-1), .int .i64 (-1)]) rfl rfl (fun a ha => partsOf_sound ha _ _ rfl) (by kernel_rfl) ?_
  refine Y3 hO rfl rfl (fun w hO => ?_)
  refine K2 (K3 (K6 ?_))
  exact finC hO rfl rfl ⟨_, ⟨rfl, rfl⟩, hO.none⟩
theorem own_spec {k : Ctx} {w : World} {xs : List Api_attr} {p : Option Addr} {c : Nat} (hs : Sli (Ro k) (.slice p xs.length c) (xs.map Api_attr.cells)) (hl : xs.length ≤ 1000000000000) (hO : Own k w []) :
    Tri Try.prog 28 #[.slice p xs.length c] k w fun v m => ∃ b, v = .slice (some ⟨b, 0, none⟩) xs.length xs.length ∧ m = [sls (some ⟨b, 0, none⟩) xs.length 63 4 Api_attr.cells xs] := by
  refine enter (args := [.slice p xs.length c]) Try.func28 rfl rfl ?_
  refine K0 (K1 ?_)
  refine l_y rfl rfl (y_assign rfl) ?_
  refine K2 (K3 (K0 (K1 ?_)))
  refine l_y rfl rfl (y_move rfl) ?_
  refine l_y rfl rfl (y_lenL rfl) ?_
  refine s_mk (enc := Api_attr.cells) default hO rfl rfl rfl rfl (Nat.le_refl _) (by omega) (by simp only [maxLen]; omega) fun b w hO => ?_
  refine l_y rfl rfl (y_assign rfl) ?_
  refine K2 (K3 (K0 (K1 ?_)))
  refine l_y rfl rfl (y_move rfl) ?_
  refine l_y rfl rfl (y_move rfl) ?_
  refine s_cp hO rfl rfl (src_ro hO hs) fun w hO => ?_
  rw [List.drop_of_length_le (by simp), List.append_nil] at hO
  refine K2 (K3 (K0 (K1 ?_)))
  refine l_y rfl rfl (y_move rfl) ?_
  refine l_y rfl rfl (y_assign rfl) ?_
  refine K2 (K3 (K6 ?_))
  exact fin1 rfl rfl ⟨_, ⟨b, rfl, rfl⟩, hO⟩
def longB (l : List ByteArray) : Bool := l.any fun s => decide (1048576 < s.size)
def addL (A : List Node_one) (n : Api_node) (ts : List ByteArray) : Int × Int × List Node_one := if longB ts = true then (0, 2, A) else if 32768 ≤ A.length then (0, 9, A) else (A.length, 0, A ++ [blankN n])
set_option maxHeartbeats 1000000 in
theorem add_spec {k : Ctx} {w : World} {a : Nat} {A : List Node_one} {n : Api_node} {ts : List ByteArray} {tp : Option Addr} {tc : Nat} (hn : 0 < A.length) (hc : A.length ≤ 32768) (ht : Sli (Ro k) (.slice tp ts.length tc) (ts.map eS)) (htl : ts.length ≤ 1000000) (hO : Own k w [arenaL a A, attrsP (blankN n)]) :
    Tri Try.prog 27 #[.pointer (some ⟨a, 0, none⟩), .agg (Api_node.cells n).toArray, .slice tp ts.length tc] k w fun v m => v = .tuple #[.int .i64 (addL A n ts).1, .int .i64 (addL A n ts).2.1] ∧ m = [arenaL a (addL A n ts).2.2] := by
  refine enter (args := [.pointer (some ⟨a, 0, none⟩), .agg (Api_node.cells n).toArray, .slice tp ts.length tc]) Try.func27 rfl rfl ?_
  have htg := sli_gs ht
  obtain ⟨p, c, hg, hO⟩ := arenaL_open hO
  refine K0 (K1 ?_)
  refine s_box (vs := [.int .i64 n.Kind, .int .i64 n.Space, .string n.Name, .slice n.AttrsP n.Attrs.length n.AttrsC, .string n.Data, .string n.System, .int .i64 n.Parent, .int .i64 n.First, .int .i64 n.Last, .int .i64 n.Prev, .int .i64 n.Next, .int .i64 n.Inner]) hO rfl rfl rfl (by rfl) fun b4 w hO => ?_
  refine l_y rfl rfl (y_assign rfl) ?_
  refine l_y rfl rfl (y_assign rfl) ?_
  refine K2 (K3 (K0 (K0 (K1 ?_))))
  refine l_y rfl rfl (y_move rfl) ?_
  refine CK [.b a, .p p] hO rfl (fun k' hx hr hO' => none_spec (hO := hO')) ?_
  rintro _ _ w ⟨rfl, rfl⟩ hO
  simp only [List.cons_append, List.nil_append] at hO
  refine K2 (K3 (L9 (K5 (K3 (K0 (K0 (K1 ?_)))))))
  refine l_y rfl rfl (y_move rfl) ?_
  refine l_y rfl rfl (y_lenL rfl) ?_
  refine l_y rfl rfl (y_move rfl) ?_
  refine K2 (K3 (K4 ?_))
  refine c_rounds (X := Nat) (fun i => [(0, .pointer (some ⟨a, 0, none⟩)), (4, .pointer (some ⟨b4, 0, none⟩)), (6, .int .i64 0), (7, .int .i64 0), (12, .slice tp ts.length tc), (13, .int .i64 ((ts.length : Nat) : Int)), (14, .int .i64 (i : Int))]) (fun i w => Own k w [arB a p A.length c, arS p c A, sep (A.map attrsP), blk b4 55 (Api_node.cells n), attrsP (blankN n)] ∧ (i ≤ ts.length) ∧ (longB (ts.take i) = false)) (fun i => ts.length - i) (0) ⟨rfl, rfl, rfl, rfl, rfl, rfl, rfl, trivial⟩ ⟨hO.only [.b a, .p p, .s, .b b4, .p (blankN n).Node.AttrsP], Nat.zero_le _, rfl⟩ ?_
  rintro i w m hm ⟨hO, hi, hj⟩
  refine K0 (K1 ?_)
  refine Z0 (fun h4_0 => ?_) (fun h4_0 => ?_)
  · refine K2 (K3 (K0 (L8 (K5 (K3 (K0 (K4 (K0 (K1 ?_)))))))))
    refine l_y rfl rfl (y_idx rfl rfl) ?_
    refine l_y rfl rfl (y_r1 (x0 := 0) (enc := eS) (xs := ts) hO rfl) ?_
    refine l_y rfl rfl (y_assign rfl) ?_
    refine K2 (K3 (K0 (K1 ?_)))
    refine l_y rfl rfl (y_move rfl) ?_
    refine l_y rfl rfl (y_lenS rfl) ?_
    refine Z0 (fun h6_2 => ?_) (fun h6_2 => ?_)
    · refine K2 (K3 (L8 (K0 (K1 ?_))))
      refine l_y rfl rfl (y_assign rfl) ?_
      refine l_y rfl rfl (y_assign rfl) ?_
      refine K2 (K3 (K6 (L0 (K9 (K9 (L0 (K9 ?_)))))))
      have hlong : longB ts = true := by
        simp only [longB, List.any_eq_true, decide_eq_true_eq]
        exact ⟨at_ ts i, at_mem (by omega), by simp only [Int.toNat_natCast] at h6_2; omega⟩
      exact fin2 rfl rfl rfl ⟨_, ⟨by simp [addL, hlong], rfl⟩, by rw [addL, if_pos hlong]; exact (arenaL_shut (hO.ks [.s, .b a, .p p])).one⟩
    · refine K2 (K3 (L9 (K5 (K8 (K3 (K1 ?_))))))
      refine l_y rfl rfl (D4) ?_
      refine l_y rfl rfl (y_move rfl) ?_
      refine K2 ?_
      exact q_next (i + 1) ⟨rfl, rfl, rfl, rfl, rfl, rfl, rfl, trivial⟩ ⟨hO.only [.b a, .p p, .s, .b b4, .p (blankN n).Node.AttrsP], by omega, by rw [take_succ_at (by omega)]; simp [longB] at hj ⊢; simp only [Int.toNat_natCast] at h6_2; exact ⟨hj, by omega⟩⟩ (by omega)
  · refine K2 (K3 (K0 (L9 (K7 (L1 (L1 (L2 (K3 (K0 (K0 ?_))))))))))
    have hlf : longB ts = false := by rw [← hj, List.take_of_length_le (by omega)]
    refine K1 ?_
    refine l_y rfl rfl (y_move rfl) ?_
    refine l_y rfl rfl (y_nilCheck rfl rfl) ?_
    refine l_y rfl rfl (y_fldb (o' := 0) rfl) ?_
    refine l_y rfl rfl (D5 hO rfl) ?_
    refine l_y rfl rfl (y_lenL rfl) ?_
    refine Z0 (fun h9_5 => ?_) (fun h9_5 => ?_)
    · refine K2 (K3 (L8 (K0 (K1 ?_))))
      refine l_y rfl rfl (y_assign rfl) ?_
      refine l_y rfl rfl (y_assign rfl) ?_
      refine K2 (K3 (K6 (K9 ?_)))
      exact fin2 rfl rfl rfl ⟨_, ⟨by rw [addL, hlf, if_neg (by simp), if_pos (by omega)], rfl⟩, by rw [addL, hlf, if_neg (by simp), if_pos (by omega)]; exact (arenaL_shut (hO.ks [.s, .b a, .p p])).one⟩
    · refine K2 (K3 (L9 (K5 (K3 (K0 ?_)))))
      refine da_region (by intro c a d v w h; cases d <;> exact h) ?_
      have hO := hO.drew
      refine da_phase _ [8] (SO.ks [.b a, .b b4] hO) ?_
      refine dx_u 0 (by kernel_rfl) rfl rfl rfl (fun w => y_move rfl) ?_
      refine dx_u 1 (by kernel_rfl) rfl rfl rfl (fun w => y_move rfl) ?_
      refine dx_u 2 (by kernel_rfl) rfl rfl rfl (fun w => y_nilCheck rfl rfl) ?_
      refine dx_u 3 (by kernel_rfl) rfl rfl rfl (fun w => y_fldb (o' := 0) rfl) ?_
      refine dx_y 4 (by kernel_rfl) rfl rfl rfl (fun w ⟨m, hw⟩ => D5 hw rfl) ?_
      refine dx_y 5 (by kernel_rfl) rfl rfl rfl (fun w ⟨m, hw⟩ => D8 (cs := [.int .i64 n.Kind, .int .i64 n.Space, .string n.Name, .slice n.AttrsP n.Attrs.length n.AttrsC, .string n.Data, .string n.System, .int .i64 n.Parent, .int .i64 n.First, .int .i64 n.Last, .int .i64 n.Prev, .int .i64 n.Next, .int .i64 n.Inner]) hw rfl) ?_
      refine dx_only 6 (by kernel_rfl) rfl rfl ?_
      refine C0 hO rfl (fun k' hx hr hO' => blank_spec (n := n) (hO := hO')) ?_
      rintro _ _ w ⟨rfl, rfl⟩ hO
      simp only [List.cons_append, List.nil_append] at hO
      refine o_done ?_
      refine ⟨SO.ks [.b a, .b b4] hO, ?_⟩
      refine dx_only 7 (by kernel_rfl) rfl rfl ?_
      refine s_lit (parts := [(0, .tmp 34)]) (enc := Node_one.cells) [(blankN n)] [.agg [.int .i64 (blankN n).Node.Kind, .int .i64 (blankN n).Node.Space, .string (blankN n).Node.Name, .slice (blankN n).Node.AttrsP (blankN n).Node.Attrs.length (blankN n).Node.AttrsC, .string (blankN n).Node.Data, .string (blankN n).Node.System, .int .i64 (blankN n).Node.Parent, .int .i64 (blankN n).Node.First, .int .i64 (blankN n).Node.Last, .int .i64 (blankN n).Node.Prev, .int .i64 (blankN n).Node.Next, .int .i64 (blankN n).Node.Inner, .int .i64 (blankN n).host].toArray] hO rfl (fun b35 w hO => ?_)
      refine o_done ?_
      refine ⟨SO.ks [.b a, .b b4] hO, ?_⟩
      refine dx_close 8 (by kernel_rfl) rfl rfl ?_
      refine s_app hO rfl rfl (src_own hO) (fun p36 c36 w hO gs36 => ?_)
      refine o_done ?_
      refine da_phase _ [11] (SO.ks [] hO) ?_
      refine dx_u 9 (by kernel_rfl) rfl rfl rfl (fun w => y_nilCheck rfl rfl) ?_
      refine dx_u 10 (by kernel_rfl) rfl rfl rfl (fun w => y_fldb (o' := 0) rfl) ?_
      refine dx_close 11 (by kernel_rfl) rfl rfl ?_
      refine Y1 hO rfl rfl (fun w hO => ?_)
      simp only [List.set_cons_zero, List.set_cons_succ] at hO
      refine o_done ?_
      refine da_end (by kernel_rfl) ?_
      refine K3 (K0 ?_)
      have hal : (A ++ [blankN n]).length = A.length + 1 := by simp
      refine K1 ?_
      refine l_y rfl rfl (y_move rfl) ?_
      refine l_y rfl rfl (y_nilCheck rfl rfl) ?_
      refine l_y rfl rfl (y_fldb (o' := 0) rfl) ?_
      refine l_y rfl rfl (D5 hO rfl) ?_
      refine l_y rfl rfl (y_lenL rfl) ?_
      refine l_y rfl rfl (D4) ?_
      refine l_y rfl rfl (y_assign rfl) ?_
      refine l_y rfl rfl (y_assign rfl) ?_
      refine K2 (K3 (K6 ?_))
      have e : addL A n ts = ((A.length : Int), 0, A ++ [blankN n]) := by rw [addL, hlf, if_neg (by simp), if_neg (by omega)]
      have hO := (hO.ks [.s, .p (blankN n).Node.AttrsP]).snoc.ks [.s, .b a, .p p36]
      rw [e]
      refine fin2 rfl rfl rfl ⟨_, ⟨?_, rfl⟩, (arenaL_shut hO (by simp)).one⟩
      simp
end Go.Proofs.Ythkmnohghpdjhaa
end
section
set_option linter.unusedVariables false
set_option linter.unusedSimpArgs false
set_option maxRecDepth 100000
namespace Go.Proofs.Ythkmnohghpdjhaa
open Go Go.Hb Go.RowKit
theorem attrs_set {A : List Node_one} {i : Nat} {u : Node_one} (h : attrsP u = attrsP (at_ A i)) : (A.set i u).map attrsP = A.map attrsP := map_set_same' h
def setFirst (A : List Node_one) (i v : Int) : List Node_one := A.set i.toNat { at_ A i.toNat with Node := { (at_ A i.toNat).Node with First := v } }
def setLast (A : List Node_one) (i v : Int) : List Node_one := A.set i.toNat { at_ A i.toNat with Node := { (at_ A i.toNat).Node with Last := v } }
def setNext (A : List Node_one) (i v : Int) : List Node_one := A.set i.toNat { at_ A i.toNat with Node := { (at_ A i.toNat).Node with Next := v } }
def setPrev (A : List Node_one) (i v : Int) : List Node_one := A.set i.toNat { at_ A i.toNat with Node := { (at_ A i.toNat).Node with Prev := v } }
def joinA (A : List Node_one) (up left right : Int) : List Node_one := if left = -1 then setFirst A up right else setNext A left right
def joinB (A : List Node_one) (up left right : Int) : List Node_one := if right = -1 then setLast A up left else setPrev A right left
def joinL (A : List Node_one) (up left right : Int) : List Node_one := joinB (joinA A up left right) up left right
theorem joinA_len {A : List Node_one} {up left right : Int} : (joinA A up left right).length = A.length := by unfold joinA; split <;> simp [setFirst, setNext]
theorem joinB_len {A : List Node_one} {up left right : Int} : (joinB A up left right).length = A.length := by unfold joinB; split <;> simp [setLast, setPrev]
theorem joinL_len {A : List Node_one} {up left right : Int} : (joinL A up left right).length = A.length := by rw [joinL, joinB_len, joinA_len]
theorem joinA_attrs {A : List Node_one} {up left right : Int} : (joinA A up left right).map attrsP = A.map attrsP := by unfold joinA; split <;> exact attrs_set rfl
theorem joinB_attrs {A : List Node_one} {up left right : Int} : (joinB A up left right).map attrsP = A.map attrsP := by unfold joinB; split <;> exact attrs_set rfl
theorem joinL_attrs {A : List Node_one} {up left right : Int} : (joinL A up left right).map attrsP = A.map attrsP := by rw [joinL, joinB_attrs, joinA_attrs]
theorem join_spec {k : Ctx} {w : World} {a : Nat} {A : List Node_one} {p : Option Addr} {c n : Nat} {up left right : Int} (hg : Gs p n) (hn : n = A.length) (hup : 0 ≤ up ∧ up < n) (hl : left = -1 ∨ 0 ≤ left ∧ left < n) (hr : right = -1 ∨ 0 ≤ right ∧ right < n) (hO : Own k w [arB a p n c, arS p c A]) :
    Tri Try.prog 33 #[.pointer (some ⟨a, 0, none⟩), .int .i64 up, .int .i64 left, .int .i64 right] k w fun v m => v = .tuple #[] ∧ m = [arB a p n c, arS p c (joinL A up left right)] := by
  refine enter (args := [.pointer (some ⟨a, 0, none⟩), .int .i64 up, .int .i64 left, .int .i64 right]) Try.func33 rfl rfl ?_
  have hgA : Gs p A.length := hn ▸ hg
  have hj := joinA_len (A := A) (up := up) (left := left) (right := right)
  have hgJ : Gs p (joinA A up left right).length := by rw [hj]; exact hgA
  refine K0 (K0 (K1 ?_))
  refine l_y rfl rfl (y_move rfl) ?_
  refine Z0 (fun h0_1 => ?_) (fun h0_1 => ?_)
  · refine K2 (K3 (L8 (K1 ?_)))
    refine l_y rfl rfl (y_move rfl) ?_
    refine l_y rfl rfl (y_nilCheck rfl rfl) ?_
    refine l_y rfl rfl (y_fldb (o' := 0) rfl) ?_
    refine l_y rfl rfl (D5 hO rfl) ?_
    refine l_y rfl rfl (y_move rfl) ?_
    refine l_y rfl rfl (y_move rfl) ?_
    refine l_y rfl rfl (y_idx rfl rfl) ?_
    refine l_y rfl rfl (y_fld (j' := 0) rfl) ?_
    refine l_y rfl rfl (y_fld (j' := 7) rfl) ?_
    refine s_e1 (x0 := 7) hO rfl rfl (fun w hO => ?_)
    refine K2 (K3 (K0 ?_))
    have hO : Own k w [arB a p n c, arS p c (joinA A up left right)] := by simp only [joinA]; first | rw [if_pos h0_1]; exact hO | rw [if_neg h0_1]; exact hO
    refine K1 ?_
    refine l_y rfl rfl (y_move rfl) ?_
    refine Z0 (fun h3_1 => ?_) (fun h3_1 => ?_)
    · refine K2 (K3 (L8 (K1 ?_)))
      refine l_y rfl rfl (y_move rfl) ?_
      refine l_y rfl rfl (y_nilCheck rfl rfl) ?_
      refine l_y rfl rfl (y_fldb (o' := 0) rfl) ?_
      refine l_y rfl rfl (D5 hO rfl) ?_
      refine l_y rfl rfl (y_move rfl) ?_
      refine l_y rfl rfl (y_move rfl) ?_
      refine l_y rfl rfl (y_idx rfl rfl) ?_
      refine l_y rfl rfl (y_fld (j' := 0) rfl) ?_
      refine l_y rfl rfl (y_fld (j' := 8) rfl) ?_
      refine s_e1 (x0 := 8) hO rfl rfl (fun w hO => ?_)
      refine K2 ?_
      have hO : Own k w [arB a p n c, arS p c (joinL A up left right)] := by simp only [joinL, joinB]; first | rw [if_pos h3_1]; exact hO | rw [if_neg h3_1]; exact hO
      exact fin0 rfl ⟨_, ⟨rfl, rfl⟩, hO⟩
    · refine K2 (K3 (L9 (K1 ?_)))
      refine l_y rfl rfl (y_move rfl) ?_
      refine l_y rfl rfl (y_nilCheck rfl rfl) ?_
      refine l_y rfl rfl (y_fldb (o' := 0) rfl) ?_
      refine l_y rfl rfl (D5 hO rfl) ?_
      refine l_y rfl rfl (y_move rfl) ?_
      refine l_y rfl rfl (y_move rfl) ?_
      refine l_y rfl rfl (y_idx rfl rfl) ?_
      refine l_y rfl rfl (y_fld (j' := 0) rfl) ?_
      refine l_y rfl rfl (y_fld (j' := 9) rfl) ?_
      refine s_e1 (x0 := 9) hO rfl rfl (fun w hO => ?_)
      refine K2 ?_
      have hO : Own k w [arB a p n c, arS p c (joinL A up left right)] := by simp only [joinL, joinB]; first | rw [if_pos h3_1]; exact hO | rw [if_neg h3_1]; exact hO
      exact fin0 rfl ⟨_, ⟨rfl, rfl⟩, hO⟩
  · refine K2 (K3 (L9 (K1 ?_)))
    refine l_y rfl rfl (y_move rfl) ?_
    refine l_y rfl rfl (y_nilCheck rfl rfl) ?_
    refine l_y rfl rfl (y_fldb (o' := 0) rfl) ?_
    refine l_y rfl rfl (D5 hO rfl) ?_
    refine l_y rfl rfl (y_move rfl) ?_
    refine l_y rfl rfl (y_move rfl) ?_
    refine l_y rfl rfl (y_idx rfl rfl) ?_
    refine l_y rfl rfl (y_fld (j' := 0) rfl) ?_
    refine l_y rfl rfl (y_fld (j' := 10) rfl) ?_
    refine s_e1 (x0 := 10) hO rfl rfl (fun w hO => ?_)
    refine K2 (K3 (K0 ?_))
    have hO : Own k w [arB a p n c, arS p c (joinA A up left right)] := by simp only [joinA]; first | rw [if_pos h0_1]; exact hO | rw [if_neg h0_1]; exact hO
    refine K1 ?_
    refine l_y rfl rfl (y_move rfl) ?_
    refine Z0 (fun h3_1 => ?_) (fun h3_1 => ?_)
    · refine K2 (K3 (L8 (K1 ?_)))
      refine l_y rfl rfl (y_move rfl) ?_
      refine l_y rfl rfl (y_nilCheck rfl rfl) ?_
      refine l_y rfl rfl (y_fldb (o' := 0) rfl) ?_
      refine l_y rfl rfl (D5 hO rfl) ?_
      refine l_y rfl rfl (y_move rfl) ?_
      refine l_y rfl rfl (y_move rfl) ?_
      refine l_y rfl rfl (y_idx rfl rfl) ?_
      refine l_y rfl rfl (y_fld (j' := 0) rfl) ?_
      refine l_y rfl rfl (y_fld (j' := 8) rfl) ?_
      refine s_e1 (x0 := 8) hO rfl rfl (fun w hO => ?_)
      refine K2 ?_
      have hO : Own k w [arB a p n c, arS p c (joinL A up left right)] := by simp only [joinL, joinB]; first | rw [if_pos h3_1]; exact hO | rw [if_neg h3_1]; exact hO
      exact fin0 rfl ⟨_, ⟨rfl, rfl⟩, hO⟩
    · refine K2 (K3 (L9 (K1 ?_)))
      refine l_y rfl rfl (y_move rfl) ?_
      refine l_y rfl rfl (y_nilCheck rfl rfl) ?_
      refine l_y rfl rfl (y_fldb (o' := 0) rfl) ?_
      refine l_y rfl rfl (D5 hO rfl) ?_
      refine l_y rfl rfl (y_move rfl) ?_
      refine l_y rfl rfl (y_move rfl) ?_
      refine l_y rfl rfl (y_idx rfl rfl) ?_
      refine l_y rfl rfl (y_fld (j' := 0) rfl) ?_
      refine l_y rfl rfl (y_fld (j' := 9) rfl) ?_
      refine s_e1 (x0 := 9) hO rfl rfl (fun w hO => ?_)
      refine K2 ?_
      have hO : Own k w [arB a p n c, arS p c (joinL A up left right)] := by simp only [joinL, joinB]; first | rw [if_pos h3_1]; exact hO | rw [if_neg h3_1]; exact hO
      exact fin0 rfl ⟨_, ⟨rfl, rfl⟩, hO⟩
def nextUp (A : List Node_one) (x : Int) : Int := if (at_ A x.toNat).Node.Parent = -1 then (at_ A x.toNat).host else (at_ A x.toNat).Node.Parent
inductive Anc (A : List Node_one) : Int → Int → Prop
  | refl (x : Int) : Anc A x x
  | step {x y : Int} (h : x ≠ -1) (hs : Anc A (nextUp A x) y) : Anc A x y
def Ranked (A : List Node_one) : Prop := ∃ rk : Int → Nat, ∀ x, hasB A x = true → nextUp A x = -1 ∨ hasB A (nextUp A x) = true ∧ rk (nextUp A x) < rk x
noncomputable def ancB (A : List Node_one) (x y : Int) : Bool := @decide (Anc A x y) (Classical.propDecidable _)
noncomputable def aboveB (A : List Node_one) (x y : Int) : Bool := hasB A x && hasB A y && ancB A x y
theorem anc_none {A : List Node_one} {y : Int} (h : Anc A (-1) y) : y = -1 := by
  cases h with
  | refl => rfl
  | step h _ => exact absurd rfl h
theorem anc_ne {A : List Node_one} {x y : Int} (h : x ≠ y) (h1 : x ≠ -1) : Anc A x y ↔ Anc A (nextUp A x) y := ⟨fun k => by
  cases k with
  | refl => exact absurd rfl h
  | step _ hs => exact hs, fun k => .step h1 k⟩
theorem ancB_iff {A : List Node_one} {x y : Int} : ancB A x y = true ↔ Anc A x y := by simp [ancB]
theorem ancB_of {A : List Node_one} {x y : Int} (h : Anc A x y) : ancB A x y = true := ancB_iff.2 h
theorem ancB_not {A : List Node_one} {x y : Int} (h : ¬ Anc A x y) : ancB A x y = false := by
  cases e : ancB A x y with
  | false => rfl
  | true => exact absurd (ancB_iff.1 e) h
theorem Above_spec {k : Ctx} {w : World} {a : Nat} {A : List Node_one} {p : Option Addr} {c : Nat} {id other : Int} (hn : 0 < A.length) (hg : Gs p A.length) (hrk : Ranked A) (hO : Own k w [arB a p A.length c, arS p c A]) :
    Tri Try.prog 32 #[.pointer (some ⟨a, 0, none⟩), .int .i64 id, .int .i64 other] k w fun v m => v = .bool (aboveB A id other) ∧ m = [arB a p A.length c, arS p c A] := by
  refine enter (args := [.pointer (some ⟨a, 0, none⟩), .int .i64 id, .int .i64 other]) Try.func32 rfl rfl ?_
  obtain ⟨rk, hrk⟩ := hrk
  refine K0 (K1 ?_)
  refine l_y rfl rfl (y_assign rfl) ?_
  refine K2 (K3 (K0 (K0 (K1 ?_))))
  refine l_y rfl rfl (y_move rfl) ?_
  refine CK [.b a, .p p] hO rfl (fun k' hx hr hO' => none_spec (hO := hO')) ?_
  rintro _ _ w ⟨rfl, rfl⟩ hO
  simp only [List.cons_append, List.nil_append] at hO
  refine l_y rfl rfl (y_move rfl) ?_
  refine l_y rfl rfl (y_move rfl) ?_
  refine l_y rfl rfl (y_move rfl) ?_
  refine CK [.b a, .p p] hO rfl (fun k' hx hr hO' => has_spec (hO := hO')) ?_
  rintro _ _ w ⟨rfl, rfl⟩ hO
  simp only [List.cons_append, List.nil_append] at hO
  refine l_y rfl rfl (y_not rfl rfl) ?_
  refine l_y rfl rfl (y_pick_f rfl rfl) ?_
  refine l_y rfl rfl (y_move rfl) ?_
  refine l_split 16 rfl (fun hg16 => ?_) (fun hg16 => ?_)
  · simp only [Bool.not_eq_true', Bool.not_eq_false'] at hg16
    repeat refine M2 ?_
    refine l_y rfl rfl (y_pick_t rfl rfl) ?_
    refine K2 (K3 (L8 (K0 (K1 ?_))))
    refine l_y rfl rfl (y_assign rfl) ?_
    refine K2 (K3 (K6 (K9 ?_)))
    first
    | exact fin1 rfl rfl ⟨_, ⟨by rw [aboveB, hg16]; rfl, rfl⟩, hO⟩
    | exact fin1 rfl rfl ⟨_, ⟨by rw [aboveB, hc21, Bool.and_false]; rfl, rfl⟩, hO⟩
  · simp only [Bool.not_eq_true', Bool.not_eq_false'] at hg16
    refine l_y rfl rfl (y_move rfl) ?_
    refine l_y rfl rfl (y_move rfl) ?_
    refine CK [.b a, .p p] hO rfl (fun k' hx hr hO' => has_spec (hO := hO')) ?_
    rintro _ _ w ⟨rfl, rfl⟩ hO
    simp only [List.cons_append, List.nil_append] at hO
    refine l_y rfl rfl (y_not rfl rfl) ?_
    refine l_y rfl rfl (y_pick_f rfl rfl) ?_
    refine K2 (K3 ?_)
    refine c_split rfl (fun hc21 => ?_) (fun hc21 => ?_)
    · simp only [Bool.not_eq_true', Bool.not_eq_false'] at hc21
      refine K0 (K1 ?_)
      refine l_y rfl rfl (y_assign rfl) ?_
      refine K2 (K3 (K6 (K9 ?_)))
      first
      | exact fin1 rfl rfl ⟨_, ⟨by rw [aboveB, hg16]; rfl, rfl⟩, hO⟩
      | exact fin1 rfl rfl ⟨_, ⟨by rw [aboveB, hc21, Bool.and_false]; rfl, rfl⟩, hO⟩
    · simp only [Bool.not_eq_true', Bool.not_eq_false'] at hc21
      refine K5 (K3 (K0 (K4 ?_)))
      refine c_rounds (X := Int) (fun x => [(0, .pointer (some ⟨a, 0, none⟩)), (1, .int .i64 x), (2, .int .i64 other), (6, .bool false)]) (fun x w => Own k w [arB a p A.length c, arS p c A] ∧ ((x = -1 ∨ hasB A x = true)) ∧ ((Anc A id other ↔ Anc A x other))) (fun x => if x = -1 then 0 else rk x + 1) (id) ⟨rfl, rfl, rfl, rfl, trivial⟩ ⟨hO.only [.b a, .p p], .inr hg16, Iff.rfl⟩ ?_
      rintro x w m hm ⟨hO, hx, he⟩
      refine K0 (K0 (K1 ?_))
      refine l_y rfl rfl (y_move rfl) ?_
      refine l_y rfl rfl (y_move rfl) ?_
      refine Z1 (fun h3_2 => ?_) (fun h3_2 => ?_)
      · refine l_y rfl rfl (y_move rfl) ?_
        refine l_y rfl rfl (y_move rfl) ?_
        refine Z1 (fun h3_5 => ?_) (fun h3_5 => ?_)
        · refine l_y rfl rfl (y_pick_t rfl rfl) ?_
          refine K2 (K3 (L8 (K5 (K3 (K4 (K0 ?_))))))
          have hb := hx.resolve_left h3_5
          have hb2 := hasB_true hb
          refine K1 ?_
          refine l_y rfl rfl (y_move rfl) ?_
          refine l_y rfl rfl (y_nilCheck rfl rfl) ?_
          refine l_y rfl rfl (y_fldb (o' := 0) rfl) ?_
          refine l_y rfl rfl (D5 hO rfl) ?_
          refine l_y rfl rfl (y_move rfl) ?_
          refine l_y rfl rfl (y_idx rfl rfl) ?_
          refine l_y rfl rfl (y_eA (x0 := 0) (cs := [.int .i64 (at_ A (x : Int).toNat).Node.Kind, .int .i64 (at_ A (x : Int).toNat).Node.Space, .string (at_ A (x : Int).toNat).Node.Name, .slice (at_ A (x : Int).toNat).Node.AttrsP (at_ A (x : Int).toNat).Node.Attrs.length (at_ A (x : Int).toNat).Node.AttrsC, .string (at_ A (x : Int).toNat).Node.Data, .string (at_ A (x : Int).toNat).Node.System, .int .i64 (at_ A (x : Int).toNat).Node.Parent, .int .i64 (at_ A (x : Int).toNat).Node.First, .int .i64 (at_ A (x : Int).toNat).Node.Last, .int .i64 (at_ A (x : Int).toNat).Node.Prev, .int .i64 (at_ A (x : Int).toNat).Node.Next, .int .i64 (at_ A (x : Int).toNat).Node.Inner, .int .i64 (at_ A (x : Int).toNat).host]) hO rfl) ?_
          refine s_alloc (vs := [.int .i64 0, .int .i64 0, .string ⟨#[]⟩, .slice none 0 0, .string ⟨#[]⟩, .string ⟨#[]⟩, .int .i64 0, .int .i64 0, .int .i64 0, .int .i64 0, .int .i64 0, .int .i64 0, .int .i64 0]) hO rfl rfl rfl fun b7 w hO => ?_
          refine Y3 hO rfl rfl (fun w hO => ?_)
          refine K2 (K3 (K0 (K1 ?_)))
          refine l_y rfl rfl (y_fldb (o' := 0) rfl) ?_
          refine l_y rfl rfl (y_fldb (o' := 6) rfl) ?_
          refine l_y rfl rfl (D5 hO rfl) ?_
          refine l_y rfl rfl (y_assign rfl) ?_
          refine K2 (K3 (K0 (K1 ?_)))
          refine l_y rfl rfl (y_move rfl) ?_
          refine Z0 (fun h6_1 => ?_) (fun h6_1 => ?_)
          · refine K2 (K3 (L8 (K1 ?_)))
            refine l_y rfl rfl (y_fldb (o' := 12) rfl) ?_
            refine l_y rfl rfl (D5 hO rfl) ?_
            refine l_y rfl rfl (y_assign rfl) ?_
            refine K2 (K8 ?_)
            have hnx : nextUp A x = (at_ A (x : Int).toNat).host := by simp only [nextUp]; first | rw [if_pos h6_1] | rw [if_neg h6_1]
            have hrx := hrk x (hx.resolve_left h3_5)
            have hlt : (if nextUp A x = -1 then 0 else rk (nextUp A x) + 1) < rk x + 1 := by
              split
              · omega
              · rename_i h; have := (hrx.resolve_left h).2; omega
            exact q_next ((at_ A (x : Int).toNat).host) ⟨rfl, rfl, rfl, rfl, trivial⟩ ⟨hO.only [.b a, .p p], by rw [← hnx]; exact hrx.imp (fun h => h) And.left, by rw [he, anc_ne h3_2 h3_5, hnx]⟩ (by rw [← hm, if_neg h3_5, ← hnx]; exact hlt)
          · refine K2 (K3 (L9 (K5 (K8 ?_))))
            have hnx : nextUp A x = (at_ A (x : Int).toNat).Node.Parent := by simp only [nextUp]; first | rw [if_pos h6_1] | rw [if_neg h6_1]
            have hrx := hrk x (hx.resolve_left h3_5)
            have hlt : (if nextUp A x = -1 then 0 else rk (nextUp A x) + 1) < rk x + 1 := by
              split
              · omega
              · rename_i h; have := (hrx.resolve_left h).2; omega
            exact q_next ((at_ A (x : Int).toNat).Node.Parent) ⟨rfl, rfl, rfl, rfl, trivial⟩ ⟨hO.only [.b a, .p p], by rw [← hnx]; exact hrx.imp (fun h => h) And.left, by rw [he, anc_ne h3_2 h3_5, hnx]⟩ (by rw [← hm, if_neg h3_5, ← hnx]; exact hlt)
        · refine l_y rfl rfl (y_pick_t rfl rfl) ?_
          refine K2 (K3 (L9 (K7 (L1 (L1 (L2 (K3 (K0 (K1 ?_)))))))))
          refine l_y rfl rfl (y_move rfl) ?_
          refine l_y rfl rfl (y_move rfl) ?_
          refine Z0 (fun h8_2 => ?_) (fun h8_2 => ?_)
          · refine l_y rfl rfl (y_assign rfl) ?_
            refine K2 (K3 (K6 ?_))
            have hid : hasB A id = true := hg16
            have hot : hasB A other = true := hc21
            have hot2 := hasB_true hot
            first
            | (exfalso; omega)
            | (have e : x = other := by omega
               subst e
               exact fin1 rfl rfl ⟨_, ⟨by simp [aboveB, hid, hot, ancB_of (he.2 (.refl _))], rfl⟩, hO⟩)
            | (have e : x = -1 := by omega
               subst e
               exact fin1 rfl rfl ⟨_, ⟨by simp [aboveB, ancB_not (fun h => h8_2 (anc_none (he.1 h)).symm)], rfl⟩, hO⟩)
          · refine l_y rfl rfl (y_assign rfl) ?_
            refine K2 (K3 (K6 ?_))
            have hid : hasB A id = true := hg16
            have hot : hasB A other = true := hc21
            have hot2 := hasB_true hot
            first
            | (exfalso; omega)
            | (have e : x = other := by omega
               subst e
               exact fin1 rfl rfl ⟨_, ⟨by simp [aboveB, hid, hot, ancB_of (he.2 (.refl _))], rfl⟩, hO⟩)
            | (have e : x = -1 := by omega
               subst e
               exact fin1 rfl rfl ⟨_, ⟨by simp [aboveB, ancB_not (fun h => h8_2 (anc_none (he.1 h)).symm)], rfl⟩, hO⟩)
      · refine l_y rfl rfl (y_move rfl) ?_
        repeat refine M2 ?_
        refine l_y rfl rfl (y_pick_f rfl rfl) ?_
        refine K2 (K3 (L9 (K7 (L1 (L1 (L2 (K3 (K0 (K1 ?_)))))))))
        refine l_y rfl rfl (y_move rfl) ?_
        refine l_y rfl rfl (y_move rfl) ?_
        refine Z0 (fun h8_2 => ?_) (fun h8_2 => ?_)
        · refine l_y rfl rfl (y_assign rfl) ?_
          refine K2 (K3 (K6 ?_))
          have hid : hasB A id = true := hg16
          have hot : hasB A other = true := hc21
          have hot2 := hasB_true hot
          first
          | (exfalso; omega)
          | (have e : x = other := by omega
             subst e
             exact fin1 rfl rfl ⟨_, ⟨by simp [aboveB, hid, hot, ancB_of (he.2 (.refl _))], rfl⟩, hO⟩)
          | (have e : x = -1 := by omega
             subst e
             exact fin1 rfl rfl ⟨_, ⟨by simp [aboveB, ancB_not (fun h => h8_2 (anc_none (he.1 h)).symm)], rfl⟩, hO⟩)
        · refine l_y rfl rfl (y_assign rfl) ?_
          refine K2 (K3 (K6 ?_))
          have hid : hasB A id = true := hg16
          have hot : hasB A other = true := hc21
          have hot2 := hasB_true hot
          first
          | (exfalso; omega)
          | (have e : x = other := by omega
             subst e
             exact fin1 rfl rfl ⟨_, ⟨by simp [aboveB, hid, hot, ancB_of (he.2 (.refl _))], rfl⟩, hO⟩)
          | (have e : x = -1 := by omega
             subst e
             exact fin1 rfl rfl ⟨_, ⟨by simp [aboveB, ancB_not (fun h => h8_2 (anc_none (he.1 h)).symm)], rfl⟩, hO⟩)
def InR (A : List Node_one) (v : Int) : Prop := v = -1 ∨ 0 ≤ v ∧ v < A.length
structure LinksOk (A : List Node_one) : Prop where
  first : ∀ x, hasB A x = true → InR A (at_ A x.toNat).Node.First
  last : ∀ x, hasB A x = true → InR A (at_ A x.toNat).Node.Last
  prev : ∀ x, hasB A x = true → InR A (at_ A x.toNat).Node.Prev
  next : ∀ x, hasB A x = true → InR A (at_ A x.toNat).Node.Next
  parent : ∀ x, hasB A x = true → InR A (at_ A x.toNat).Node.Parent
def setLinks (A : List Node_one) (id up prev next : Int) : List Node_one := A.set id.toNat { at_ A id.toNat with Node := { (at_ A id.toNat).Node with Parent := up, Prev := prev, Next := next } }
def prevL (A : List Node_one) (up before : Int) : Int := if before = -1 then (at_ A up.toNat).Node.Last else (at_ A before.toNat).Node.Prev
noncomputable def linkL (A : List Node_one) (up id before : Int) : Int × List Node_one :=
  if hasB A up = false ∨ hasB A id = false ∨ (before ≠ -1 ∧ hasB A before = false) then (6, A)
  else if parentB (at_ A up.toNat).Node.Kind = false ∨ (at_ A id.toNat).Node.Kind = 0 ∨ (at_ A id.toNat).Node.Kind = 5 then (10, A)
  else if (at_ A id.toNat).Node.Parent ≠ -1 ∨ aboveB A up id = true then (11, A)
  else if before ≠ -1 ∧ (at_ A before.toNat).Node.Parent ≠ up then (1, A)
  else (0, joinL (joinL (setLinks A id up (prevL A up before) before) up (prevL A up before) id) up id before)
set_option maxHeartbeats 2000000 in
theorem Link_spec {k : Ctx} {w : World} {a : Nat} {A : List Node_one} {p : Option Addr} {c : Nat} {up id before : Int} (hn : 0 < A.length) (hg : Gs p A.length) (hrk : Ranked A) (hL : LinksOk A) (hO : Own k w [arB a p A.length c, arS p c A]) :
    Tri Try.prog 11 #[.pointer (some ⟨a, 0, none⟩), .int .i64 up, .int .i64 id, .int .i64 before] k w fun v m => v = .int .i64 (linkL A up id before).1 ∧ m = [arB a p A.length c, arS p c (linkL A up id before).2] := by
  refine enter (args := [.pointer (some ⟨a, 0, none⟩), .int .i64 up, .int .i64 id, .int .i64 before]) Try.func11 rfl rfl ?_
  refine K0 (K1 ?_)
  refine l_y rfl rfl (y_assign rfl) ?_
  refine K2 (K3 (K0 (K4 (K0 (K1 ?_)))))
  refine l_y rfl rfl (y_move rfl) ?_
  refine CK [.b a, .p p] hO rfl (fun k' hx hr hO' => none_spec (hO := hO')) ?_
  rintro _ _ w ⟨rfl, rfl⟩ hO
  simp only [List.cons_append, List.nil_append] at hO
  refine l_y rfl rfl (y_assign rfl) ?_
  refine K2 (K3 (L9 (K0 (K1 ?_))))
  refine l_y rfl rfl (y_move rfl) ?_
  refine l_y rfl rfl (y_move rfl) ?_
  refine CK [.b a, .p p] hO rfl (fun k' hx hr hO' => has_spec (hO := hO')) ?_
  rintro _ _ w ⟨rfl, rfl⟩ hO
  simp only [List.cons_append, List.nil_append] at hO
  refine l_y rfl rfl (y_not rfl rfl) ?_
  refine l_y rfl rfl (y_move rfl) ?_
  refine l_split 19 rfl (fun hg19 => ?_) (fun hg19 => ?_)
  · simp only [Bool.not_eq_true', Bool.not_eq_false'] at hg19
    repeat refine M2 ?_
    refine l_y rfl rfl (y_pick_t rfl rfl) ?_
    refine l_y rfl rfl (y_move rfl) ?_
    repeat refine M2 ?_
    refine l_y rfl rfl (y_pick_t rfl rfl) ?_
    refine l_y rfl rfl (y_assign rfl) ?_
    refine K2 (K3 (L8 (K0 (K1 ?_))))
    refine l_y rfl rfl (y_assign rfl) ?_
    refine K2 (K3 (K6 (L0 (K9 ?_))))
    exact fin1 rfl rfl ⟨_, ⟨by simp [linkL, *], by simp [linkL, *]⟩, hO⟩
  · simp only [Bool.not_eq_true', Bool.not_eq_false'] at hg19
    refine l_y rfl rfl (y_move rfl) ?_
    refine l_y rfl rfl (y_move rfl) ?_
    refine CK [.b a, .p p] hO rfl (fun k' hx hr hO' => has_spec (hO := hO')) ?_
    rintro _ _ w ⟨rfl, rfl⟩ hO
    simp only [List.cons_append, List.nil_append] at hO
    refine l_y rfl rfl (y_not rfl rfl) ?_
    refine l_y rfl rfl (y_pick_f rfl rfl) ?_
    refine l_y rfl rfl (y_move rfl) ?_
    refine l_split 25 rfl (fun hg25 => ?_) (fun hg25 => ?_)
    · simp only [Bool.not_eq_true', Bool.not_eq_false'] at hg25
      repeat refine M2 ?_
      refine l_y rfl rfl (y_pick_t rfl rfl) ?_
      refine l_y rfl rfl (y_assign rfl) ?_
      refine K2 (K3 (L8 (K0 (K1 ?_))))
      refine l_y rfl rfl (y_assign rfl) ?_
      refine K2 (K3 (K6 (L0 (K9 ?_))))
      exact fin1 rfl rfl ⟨_, ⟨by simp [linkL, *], by simp [linkL, *]⟩, hO⟩
    · simp only [Bool.not_eq_true', Bool.not_eq_false'] at hg25
      refine l_y rfl rfl (y_move rfl) ?_
      refine Z1 (fun h3_12 => ?_) (fun h3_12 => ?_)
      · refine l_y rfl rfl (y_move rfl) ?_
        refine l_y rfl rfl (y_move rfl) ?_
        refine l_y rfl rfl (y_move rfl) ?_
        refine CK [.b a, .p p] hO rfl (fun k' hx hr hO' => has_spec (hO := hO')) ?_
        rintro _ _ w ⟨rfl, rfl⟩ hO
        simp only [List.cons_append, List.nil_append] at hO
        refine l_y rfl rfl (y_not rfl rfl) ?_
        refine l_y rfl rfl (y_pick_t rfl rfl) ?_
        refine l_y rfl rfl (y_pick_f rfl rfl) ?_
        refine l_y rfl rfl (y_assign rfl) ?_
        refine K2 (K3 ?_)
        refine c_split rfl (fun hc14 => ?_) (fun hc14 => ?_)
        · simp only [Bool.not_eq_true', Bool.not_eq_false'] at hc14
          refine K0 (K1 ?_)
          refine l_y rfl rfl (y_assign rfl) ?_
          refine K2 (K3 (K6 (L0 (K9 ?_))))
          exact fin1 rfl rfl ⟨_, ⟨by simp [linkL, *], by simp [linkL, *]⟩, hO⟩
        · simp only [Bool.not_eq_true', Bool.not_eq_false'] at hc14
          refine K0 ?_
          have hup := hasB_true hg19
          have hid := hasB_true hg25
          try have hbe := hasB_true hc14
          have hq1 : _ ∨ _ := hL.last up hg19
          try have hq2 : _ ∨ _ := hL.prev before hc14
          refine K1 ?_
          refine l_y rfl rfl (y_move rfl) ?_
          refine l_y rfl rfl (y_nilCheck rfl rfl) ?_
          refine l_y rfl rfl (y_fldb (o' := 0) rfl) ?_
          refine l_y rfl rfl (D5 hO rfl) ?_
          refine l_y rfl rfl (y_move rfl) ?_
          refine l_y rfl rfl (y_idx rfl rfl) ?_
          refine l_y rfl rfl (y_fld (j' := 0) rfl) ?_
          refine l_y rfl rfl (y_fld (j' := 0) rfl) ?_
          refine l_y rfl rfl (y_e1 (x0 := 0) hO rfl) ?_
          refine CK [] hO rfl (fun k' hx hr hO' => parent_spec (hO := hO')) ?_
          rintro _ _ w ⟨rfl, rfl⟩ hO
          simp only [List.cons_append, List.nil_append] at hO
          refine l_y rfl rfl (y_not rfl rfl) ?_
          refine l_y rfl rfl (y_move rfl) ?_
          refine l_split 47 rfl (fun hg47 => ?_) (fun hg47 => ?_)
          · simp only [Bool.not_eq_true', Bool.not_eq_false'] at hg47
            repeat refine M2 ?_
            refine l_y rfl rfl (y_pick_t rfl rfl) ?_
            refine l_y rfl rfl (y_move rfl) ?_
            repeat refine M2 ?_
            refine l_y rfl rfl (y_pick_t rfl rfl) ?_
            refine l_y rfl rfl (y_assign rfl) ?_
            refine K2 (K3 (L8 (K0 (K1 ?_))))
            refine l_y rfl rfl (y_assign rfl) ?_
            refine K2 (K3 (K6 (L0 (K9 ?_))))
            exact fin1 rfl rfl ⟨_, ⟨by simp [linkL, *], by simp [linkL, *]⟩, hO⟩
          · simp only [Bool.not_eq_true', Bool.not_eq_false'] at hg47
            refine l_y rfl rfl (y_move rfl) ?_
            refine l_y rfl rfl (y_nilCheck rfl rfl) ?_
            refine l_y rfl rfl (y_fldb (o' := 0) rfl) ?_
            refine l_y rfl rfl (D5 hO rfl) ?_
            refine l_y rfl rfl (y_move rfl) ?_
            refine l_y rfl rfl (y_idx rfl rfl) ?_
            refine l_y rfl rfl (y_fld (j' := 0) rfl) ?_
            refine l_y rfl rfl (y_fld (j' := 0) rfl) ?_
            refine l_y rfl rfl (y_e1 (x0 := 0) hO rfl) ?_
            refine Z0 (fun h5_21 => ?_) (fun h5_21 => ?_)
            · refine l_y rfl rfl (y_pick_f rfl rfl) ?_
              refine l_y rfl rfl (y_move rfl) ?_
              repeat refine M2 ?_
              refine l_y rfl rfl (y_pick_t rfl rfl) ?_
              refine l_y rfl rfl (y_assign rfl) ?_
              refine K2 (K3 (L8 (K0 (K1 ?_))))
              refine l_y rfl rfl (y_assign rfl) ?_
              refine K2 (K3 (K6 (L0 (K9 ?_))))
              exact fin1 rfl rfl ⟨_, ⟨by simp [linkL, *], by simp [linkL, *]⟩, hO⟩
            · refine l_y rfl rfl (y_pick_f rfl rfl) ?_
              refine l_y rfl rfl (y_move rfl) ?_
              refine l_y rfl rfl (y_move rfl) ?_
              refine l_y rfl rfl (y_nilCheck rfl rfl) ?_
              refine l_y rfl rfl (y_fldb (o' := 0) rfl) ?_
              refine l_y rfl rfl (D5 hO rfl) ?_
              refine l_y rfl rfl (y_move rfl) ?_
              refine l_y rfl rfl (y_idx rfl rfl) ?_
              refine l_y rfl rfl (y_fld (j' := 0) rfl) ?_
              refine l_y rfl rfl (y_fld (j' := 0) rfl) ?_
              refine l_y rfl rfl (y_e1 (x0 := 0) hO rfl) ?_
              refine Z0 (fun h5_33 => ?_) (fun h5_33 => ?_)
              · refine l_y rfl rfl (y_pick_f rfl rfl) ?_
                refine l_y rfl rfl (y_assign rfl) ?_
                refine K2 (K3 (L8 (K0 (K1 ?_))))
                refine l_y rfl rfl (y_assign rfl) ?_
                refine K2 (K3 (K6 (L0 (K9 ?_))))
                exact fin1 rfl rfl ⟨_, ⟨by simp [linkL, *], by simp [linkL, *]⟩, hO⟩
              · refine l_y rfl rfl (y_pick_f rfl rfl) ?_
                refine l_y rfl rfl (y_assign rfl) ?_
                refine K2 (K3 (L9 (K0 (K1 ?_))))
                refine l_y rfl rfl (y_move rfl) ?_
                refine l_y rfl rfl (y_nilCheck rfl rfl) ?_
                refine l_y rfl rfl (y_fldb (o' := 0) rfl) ?_
                refine l_y rfl rfl (D5 hO rfl) ?_
                refine l_y rfl rfl (y_move rfl) ?_
                refine l_y rfl rfl (y_idx rfl rfl) ?_
                refine l_y rfl rfl (y_fld (j' := 0) rfl) ?_
                refine l_y rfl rfl (y_fld (j' := 6) rfl) ?_
                refine l_y rfl rfl (y_e1 (x0 := 6) hO rfl) ?_
                refine Z1 (fun h7_9 => ?_) (fun h7_9 => ?_)
                · refine l_y rfl rfl (y_move rfl) ?_
                  repeat refine M2 ?_
                  refine l_y rfl rfl (y_pick_t rfl rfl) ?_
                  refine l_y rfl rfl (y_assign rfl) ?_
                  refine K2 (K3 (L8 (K0 (K1 ?_))))
                  refine l_y rfl rfl (y_assign rfl) ?_
                  refine K2 (K3 (K6 (L0 (K9 ?_))))
                  exact fin1 rfl rfl ⟨_, ⟨by simp [linkL, *], by simp [linkL, *]⟩, hO⟩
                · refine l_y rfl rfl (y_move rfl) ?_
                  refine l_y rfl rfl (y_move rfl) ?_
                  refine l_y rfl rfl (y_move rfl) ?_
                  refine l_y rfl rfl (y_move rfl) ?_
                  refine CK [.b a, .p p] hO rfl (fun k' hx hr hO' => Above_spec hn hg hrk (hO := hO')) ?_
                  rintro _ _ w ⟨rfl, rfl⟩ hO
                  simp only [List.cons_append, List.nil_append] at hO
                  refine l_y rfl rfl (y_pick_f rfl rfl) ?_
                  refine l_y rfl rfl (y_assign rfl) ?_
                  refine K2 (K3 ?_)
                  refine c_split rfl (fun hc71 => ?_) (fun hc71 => ?_)
                  · refine K0 (K1 ?_)
                    refine l_y rfl rfl (y_assign rfl) ?_
                    refine K2 (K3 (K6 (L0 (K9 ?_))))
                    exact fin1 rfl rfl ⟨_, ⟨by simp [linkL, *], by simp [linkL, *]⟩, hO⟩
                  · refine K0 (K1 ?_)
                    refine l_y rfl rfl (y_move rfl) ?_
                    refine Z1 (fun h9_1 => ?_) (fun h9_1 => ?_)
                    · first
                      | (exfalso; omega)
                      | skip
                        refine l_y rfl rfl (y_move rfl) ?_
                        refine l_y rfl rfl (y_move rfl) ?_
                        refine l_y rfl rfl (y_nilCheck rfl rfl) ?_
                        refine l_y rfl rfl (y_fldb (o' := 0) rfl) ?_
                        refine l_y rfl rfl (D5 hO rfl) ?_
                        refine l_y rfl rfl (y_move rfl) ?_
                        refine l_y rfl rfl (y_idx rfl rfl) ?_
                        refine l_y rfl rfl (y_fld (j' := 0) rfl) ?_
                        refine l_y rfl rfl (y_fld (j' := 6) rfl) ?_
                        refine l_y rfl rfl (y_e1 (x0 := 6) hO rfl) ?_
                        refine l_y rfl rfl (y_move rfl) ?_
                        refine Z1 (fun h9_13 => ?_) (fun h9_13 => ?_)
                        · refine l_y rfl rfl (y_pick_t rfl rfl) ?_
                          refine l_y rfl rfl (y_assign rfl) ?_
                          refine K2 (K3 (L8 (K0 (K1 ?_))))
                          refine l_y rfl rfl (y_assign rfl) ?_
                          refine K2 (K3 (K6 (L0 (K9 ?_))))
                          exact fin1 rfl rfl ⟨_, ⟨by simp [linkL, *], by simp [linkL, *]⟩, hO⟩
                        · refine l_y rfl rfl (y_pick_t rfl rfl) ?_
                          refine l_y rfl rfl (y_assign rfl) ?_
                          refine K2 (K3 (L9 (K5 (K8 (K3 (K0 (K1 ?_)))))))
                          refine l_y rfl rfl (y_move rfl) ?_
                          refine l_y rfl rfl (y_nilCheck rfl rfl) ?_
                          refine l_y rfl rfl (y_fldb (o' := 0) rfl) ?_
                          refine l_y rfl rfl (D5 hO rfl) ?_
                          refine l_y rfl rfl (y_move rfl) ?_
                          refine l_y rfl rfl (y_idx rfl rfl) ?_
                          refine l_y rfl rfl (y_fld (j' := 0) rfl) ?_
                          refine l_y rfl rfl (y_fld (j' := 8) rfl) ?_
                          refine l_y rfl rfl (y_e1 (x0 := 8) hO rfl) ?_
                          refine l_y rfl rfl (y_assign rfl) ?_
                          refine K2 (K3 (K0 (K0 (K1 ?_))))
                          refine l_y rfl rfl (y_move rfl) ?_
                          refine Z1 (fun h12_1 => ?_) (fun h12_1 => ?_)
                          · first
                            | (exfalso; omega)
                            | skip
                              refine K2 (K3 (L8 (K1 ?_)))
                              refine l_y rfl rfl (y_move rfl) ?_
                              refine l_y rfl rfl (y_nilCheck rfl rfl) ?_
                              refine l_y rfl rfl (y_fldb (o' := 0) rfl) ?_
                              refine l_y rfl rfl (D5 hO rfl) ?_
                              refine l_y rfl rfl (y_move rfl) ?_
                              refine l_y rfl rfl (y_idx rfl rfl) ?_
                              refine l_y rfl rfl (y_fld (j' := 0) rfl) ?_
                              refine l_y rfl rfl (y_fld (j' := 9) rfl) ?_
                              refine l_y rfl rfl (y_e1 (x0 := 9) hO rfl) ?_
                              refine l_y rfl rfl (y_assign rfl) ?_
                              refine K2 (K3 (K0 (K1 ?_)))
                              refine l_y rfl rfl (y_move rfl) ?_
                              refine l_y rfl rfl (y_nilCheck rfl rfl) ?_
                              refine l_y rfl rfl (y_fldb (o' := 0) rfl) ?_
                              refine l_y rfl rfl (D5 hO rfl) ?_
                              refine l_y rfl rfl (y_move rfl) ?_
                              refine l_y rfl rfl (y_idx rfl rfl) ?_
                              refine l_y rfl rfl (y_assign rfl) ?_
                              refine K2 (K3 (K0 (K1 ?_)))
                              refine l_y rfl rfl (y_move rfl) ?_
                              refine l_y rfl rfl (y_move rfl) ?_
                              refine l_y rfl rfl (y_move rfl) ?_
                              refine l_y rfl rfl (y_move rfl) ?_
                              refine l_y rfl rfl (y_move rfl) ?_
                              refine l_y rfl rfl (y_move rfl) ?_
                              refine l_y rfl rfl (y_nilCheck rfl rfl) ?_
                              refine l_y rfl rfl (y_fld (j' := 0) rfl) ?_
                              refine l_y rfl rfl (y_fld (j' := 6) rfl) ?_
                              refine s_e1 (x0 := 6) hO rfl rfl (fun w hO => ?_)
                              refine l_y rfl rfl (y_nilCheck rfl rfl) ?_
                              refine l_y rfl rfl (y_fld (j' := 0) rfl) ?_
                              refine l_y rfl rfl (y_fld (j' := 9) rfl) ?_
                              refine s_e1 (x0 := 9) hO rfl rfl (fun w hO => ?_)
                              simp only [at_set_eq (show id.toNat < A.length by omega), List.set_set] at hO
                              refine l_y rfl rfl (y_nilCheck rfl rfl) ?_
                              refine l_y rfl rfl (y_fld (j' := 0) rfl) ?_
                              refine l_y rfl rfl (y_fld (j' := 10) rfl) ?_
                              refine s_e1 (x0 := 10) hO rfl rfl (fun w hO => ?_)
                              simp only [at_set_eq (show id.toNat < A.length by omega), List.set_set] at hO
                              refine K2 (K3 (K0 ?_))
                              have hO : Own k w [arB a p A.length c, arS p c (setLinks A id up (at_ A (before : Int).toNat).Node.Prev before)] := hO
                              refine K1 ?_
                              refine l_y rfl rfl (y_move rfl) ?_
                              refine l_y rfl rfl (y_move rfl) ?_
                              refine l_y rfl rfl (y_move rfl) ?_
                              refine l_y rfl rfl (y_move rfl) ?_
                              refine CK [.b a, .p p] hO rfl (fun k' hx hr hO' => join_spec hg (by simp only [setLinks, List.length_set, joinL_len]) (by omega) (by omega) (by omega) (hO := hO')) ?_
                              rintro _ _ w ⟨rfl, rfl⟩ hO
                              simp only [List.cons_append, List.nil_append] at hO
                              refine K2 (K3 (K0 (K1 ?_)))
                              refine l_y rfl rfl (y_move rfl) ?_
                              refine l_y rfl rfl (y_move rfl) ?_
                              refine l_y rfl rfl (y_move rfl) ?_
                              refine l_y rfl rfl (y_move rfl) ?_
                              refine CK [.b a, .p p] hO rfl (fun k' hx hr hO' => join_spec hg (by simp only [setLinks, List.length_set, joinL_len]) (by omega) (by omega) (by omega) (hO := hO')) ?_
                              rintro _ _ w ⟨rfl, rfl⟩ hO
                              simp only [List.cons_append, List.nil_append] at hO
                              refine K2 (K3 (K0 (K1 ?_)))
                              refine l_y rfl rfl (y_assign rfl) ?_
                              refine K2 (K3 (K6 ?_))
                              have e : prevL A up before = (at_ A (before : Int).toNat).Node.Prev := by simp only [prevL]; first | rw [if_pos h12_1] | rw [if_neg h12_1]
                              have e2 : linkL A up id before = (0, joinL (joinL (setLinks A id up (prevL A up before) before) up (prevL A up before) id) up id before) := by
                                unfold linkL; rw [if_neg (by simp [*]), if_neg (by simp [*]), if_neg (by simp [*]), if_neg (by simp [*])]
                              exact fin1 rfl rfl ⟨_, ⟨by rw [e2], by rw [e2, e]⟩, hO⟩
                          · first
                            | (exfalso; omega)
                            | skip
                              refine K2 (K3 (L9 (K5 (K3 (K0 (K1 ?_))))))
                              refine l_y rfl rfl (y_move rfl) ?_
                              refine l_y rfl rfl (y_nilCheck rfl rfl) ?_
                              refine l_y rfl rfl (y_fldb (o' := 0) rfl) ?_
                              refine l_y rfl rfl (D5 hO rfl) ?_
                              refine l_y rfl rfl (y_move rfl) ?_
                              refine l_y rfl rfl (y_idx rfl rfl) ?_
                              refine l_y rfl rfl (y_assign rfl) ?_
                              refine K2 (K3 (K0 (K1 ?_)))
                              refine l_y rfl rfl (y_move rfl) ?_
                              refine l_y rfl rfl (y_move rfl) ?_
                              refine l_y rfl rfl (y_move rfl) ?_
                              refine l_y rfl rfl (y_move rfl) ?_
                              refine l_y rfl rfl (y_move rfl) ?_
                              refine l_y rfl rfl (y_move rfl) ?_
                              refine l_y rfl rfl (y_nilCheck rfl rfl) ?_
                              refine l_y rfl rfl (y_fld (j' := 0) rfl) ?_
                              refine l_y rfl rfl (y_fld (j' := 6) rfl) ?_
                              refine s_e1 (x0 := 6) hO rfl rfl (fun w hO => ?_)
                              refine l_y rfl rfl (y_nilCheck rfl rfl) ?_
                              refine l_y rfl rfl (y_fld (j' := 0) rfl) ?_
                              refine l_y rfl rfl (y_fld (j' := 9) rfl) ?_
                              refine s_e1 (x0 := 9) hO rfl rfl (fun w hO => ?_)
                              simp only [at_set_eq (show id.toNat < A.length by omega), List.set_set] at hO
                              refine l_y rfl rfl (y_nilCheck rfl rfl) ?_
                              refine l_y rfl rfl (y_fld (j' := 0) rfl) ?_
                              refine l_y rfl rfl (y_fld (j' := 10) rfl) ?_
                              refine s_e1 (x0 := 10) hO rfl rfl (fun w hO => ?_)
                              simp only [at_set_eq (show id.toNat < A.length by omega), List.set_set] at hO
                              refine K2 (K3 (K0 ?_))
                              have hO : Own k w [arB a p A.length c, arS p c (setLinks A id up (at_ A (up : Int).toNat).Node.Last before)] := hO
                              refine K1 ?_
                              refine l_y rfl rfl (y_move rfl) ?_
                              refine l_y rfl rfl (y_move rfl) ?_
                              refine l_y rfl rfl (y_move rfl) ?_
                              refine l_y rfl rfl (y_move rfl) ?_
                              refine CK [.b a, .p p] hO rfl (fun k' hx hr hO' => join_spec hg (by simp only [setLinks, List.length_set, joinL_len]) (by omega) (by omega) (by omega) (hO := hO')) ?_
                              rintro _ _ w ⟨rfl, rfl⟩ hO
                              simp only [List.cons_append, List.nil_append] at hO
                              refine K2 (K3 (K0 (K1 ?_)))
                              refine l_y rfl rfl (y_move rfl) ?_
                              refine l_y rfl rfl (y_move rfl) ?_
                              refine l_y rfl rfl (y_move rfl) ?_
                              refine l_y rfl rfl (y_move rfl) ?_
                              refine CK [.b a, .p p] hO rfl (fun k' hx hr hO' => join_spec hg (by simp only [setLinks, List.length_set, joinL_len]) (by omega) (by omega) (by omega) (hO := hO')) ?_
                              rintro _ _ w ⟨rfl, rfl⟩ hO
                              simp only [List.cons_append, List.nil_append] at hO
                              refine K2 (K3 (K0 (K1 ?_)))
                              refine l_y rfl rfl (y_assign rfl) ?_
                              refine K2 (K3 (K6 ?_))
                              have e : prevL A up before = (at_ A (up : Int).toNat).Node.Last := by simp only [prevL]; first | rw [if_pos h12_1] | rw [if_neg h12_1]
                              have e2 : linkL A up id before = (0, joinL (joinL (setLinks A id up (prevL A up before) before) up (prevL A up before) id) up id before) := by
                                unfold linkL; rw [if_neg (by simp [*]), if_neg (by simp [*]), if_neg (by simp [*]), if_neg (by simp [*])]
                              exact fin1 rfl rfl ⟨_, ⟨by rw [e2], by rw [e2, e]⟩, hO⟩
                    · first
                      | (exfalso; omega)
                      | skip
                        refine l_y rfl rfl (y_move rfl) ?_
                        repeat refine M2 ?_
                        refine l_y rfl rfl (y_pick_f rfl rfl) ?_
                        refine l_y rfl rfl (y_assign rfl) ?_
                        refine K2 (K3 (L9 (K5 (K8 (K3 (K0 (K1 ?_)))))))
                        refine l_y rfl rfl (y_move rfl) ?_
                        refine l_y rfl rfl (y_nilCheck rfl rfl) ?_
                        refine l_y rfl rfl (y_fldb (o' := 0) rfl) ?_
                        refine l_y rfl rfl (D5 hO rfl) ?_
                        refine l_y rfl rfl (y_move rfl) ?_
                        refine l_y rfl rfl (y_idx rfl rfl) ?_
                        refine l_y rfl rfl (y_fld (j' := 0) rfl) ?_
                        refine l_y rfl rfl (y_fld (j' := 8) rfl) ?_
                        refine l_y rfl rfl (y_e1 (x0 := 8) hO rfl) ?_
                        refine l_y rfl rfl (y_assign rfl) ?_
                        refine K2 (K3 (K0 (K0 (K1 ?_))))
                        refine l_y rfl rfl (y_move rfl) ?_
                        refine Z1 (fun h12_1 => ?_) (fun h12_1 => ?_)
                        · first
                          | (exfalso; omega)
                          | skip
                            refine K2 (K3 (L8 (K1 ?_)))
                            refine l_y rfl rfl (y_move rfl) ?_
                            refine l_y rfl rfl (y_nilCheck rfl rfl) ?_
                            refine l_y rfl rfl (y_fldb (o' := 0) rfl) ?_
                            refine l_y rfl rfl (D5 hO rfl) ?_
                            refine l_y rfl rfl (y_move rfl) ?_
                            refine l_y rfl rfl (y_idx rfl rfl) ?_
                            refine l_y rfl rfl (y_fld (j' := 0) rfl) ?_
                            refine l_y rfl rfl (y_fld (j' := 9) rfl) ?_
                            refine l_y rfl rfl (y_e1 (x0 := 9) hO rfl) ?_
                            refine l_y rfl rfl (y_assign rfl) ?_
                            refine K2 (K3 (K0 (K1 ?_)))
                            refine l_y rfl rfl (y_move rfl) ?_
                            refine l_y rfl rfl (y_nilCheck rfl rfl) ?_
                            refine l_y rfl rfl (y_fldb (o' := 0) rfl) ?_
                            refine l_y rfl rfl (D5 hO rfl) ?_
                            refine l_y rfl rfl (y_move rfl) ?_
                            refine l_y rfl rfl (y_idx rfl rfl) ?_
                            refine l_y rfl rfl (y_assign rfl) ?_
                            refine K2 (K3 (K0 (K1 ?_)))
                            refine l_y rfl rfl (y_move rfl) ?_
                            refine l_y rfl rfl (y_move rfl) ?_
                            refine l_y rfl rfl (y_move rfl) ?_
                            refine l_y rfl rfl (y_move rfl) ?_
                            refine l_y rfl rfl (y_move rfl) ?_
                            refine l_y rfl rfl (y_move rfl) ?_
                            refine l_y rfl rfl (y_nilCheck rfl rfl) ?_
                            refine l_y rfl rfl (y_fld (j' := 0) rfl) ?_
                            refine l_y rfl rfl (y_fld (j' := 6) rfl) ?_
                            refine s_e1 (x0 := 6) hO rfl rfl (fun w hO => ?_)
                            refine l_y rfl rfl (y_nilCheck rfl rfl) ?_
                            refine l_y rfl rfl (y_fld (j' := 0) rfl) ?_
                            refine l_y rfl rfl (y_fld (j' := 9) rfl) ?_
                            refine s_e1 (x0 := 9) hO rfl rfl (fun w hO => ?_)
                            simp only [at_set_eq (show id.toNat < A.length by omega), List.set_set] at hO
                            refine l_y rfl rfl (y_nilCheck rfl rfl) ?_
                            refine l_y rfl rfl (y_fld (j' := 0) rfl) ?_
                            refine l_y rfl rfl (y_fld (j' := 10) rfl) ?_
                            refine s_e1 (x0 := 10) hO rfl rfl (fun w hO => ?_)
                            simp only [at_set_eq (show id.toNat < A.length by omega), List.set_set] at hO
                            refine K2 (K3 (K0 ?_))
                            have hO : Own k w [arB a p A.length c, arS p c (setLinks A id up (at_ A (before : Int).toNat).Node.Prev before)] := hO
                            refine K1 ?_
                            refine l_y rfl rfl (y_move rfl) ?_
                            refine l_y rfl rfl (y_move rfl) ?_
                            refine l_y rfl rfl (y_move rfl) ?_
                            refine l_y rfl rfl (y_move rfl) ?_
                            refine CK [.b a, .p p] hO rfl (fun k' hx hr hO' => join_spec hg (by simp only [setLinks, List.length_set, joinL_len]) (by omega) (by omega) (by omega) (hO := hO')) ?_
                            rintro _ _ w ⟨rfl, rfl⟩ hO
                            simp only [List.cons_append, List.nil_append] at hO
                            refine K2 (K3 (K0 (K1 ?_)))
                            refine l_y rfl rfl (y_move rfl) ?_
                            refine l_y rfl rfl (y_move rfl) ?_
                            refine l_y rfl rfl (y_move rfl) ?_
                            refine l_y rfl rfl (y_move rfl) ?_
                            refine CK [.b a, .p p] hO rfl (fun k' hx hr hO' => join_spec hg (by simp only [setLinks, List.length_set, joinL_len]) (by omega) (by omega) (by omega) (hO := hO')) ?_
                            rintro _ _ w ⟨rfl, rfl⟩ hO
                            simp only [List.cons_append, List.nil_append] at hO
                            refine K2 (K3 (K0 (K1 ?_)))
                            refine l_y rfl rfl (y_assign rfl) ?_
                            refine K2 (K3 (K6 ?_))
                            have e : prevL A up before = (at_ A (before : Int).toNat).Node.Prev := by simp only [prevL]; first | rw [if_pos h12_1] | rw [if_neg h12_1]
                            have e2 : linkL A up id before = (0, joinL (joinL (setLinks A id up (prevL A up before) before) up (prevL A up before) id) up id before) := by
                              unfold linkL; rw [if_neg (by simp [*]), if_neg (by simp [*]), if_neg (by simp [*]), if_neg (by simp [*])]
                            exact fin1 rfl rfl ⟨_, ⟨by rw [e2], by rw [e2, e]⟩, hO⟩
                        · first
                          | (exfalso; omega)
                          | skip
                            refine K2 (K3 (L9 (K5 (K3 (K0 (K1 ?_))))))
                            refine l_y rfl rfl (y_move rfl) ?_
                            refine l_y rfl rfl (y_nilCheck rfl rfl) ?_
                            refine l_y rfl rfl (y_fldb (o' := 0) rfl) ?_
                            refine l_y rfl rfl (D5 hO rfl) ?_
                            refine l_y rfl rfl (y_move rfl) ?_
                            refine l_y rfl rfl (y_idx rfl rfl) ?_
                            refine l_y rfl rfl (y_assign rfl) ?_
                            refine K2 (K3 (K0 (K1 ?_)))
                            refine l_y rfl rfl (y_move rfl) ?_
                            refine l_y rfl rfl (y_move rfl) ?_
                            refine l_y rfl rfl (y_move rfl) ?_
                            refine l_y rfl rfl (y_move rfl) ?_
                            refine l_y rfl rfl (y_move rfl) ?_
                            refine l_y rfl rfl (y_move rfl) ?_
                            refine l_y rfl rfl (y_nilCheck rfl rfl) ?_
                            refine l_y rfl rfl (y_fld (j' := 0) rfl) ?_
                            refine l_y rfl rfl (y_fld (j' := 6) rfl) ?_
                            refine s_e1 (x0 := 6) hO rfl rfl (fun w hO => ?_)
                            refine l_y rfl rfl (y_nilCheck rfl rfl) ?_
                            refine l_y rfl rfl (y_fld (j' := 0) rfl) ?_
                            refine l_y rfl rfl (y_fld (j' := 9) rfl) ?_
                            refine s_e1 (x0 := 9) hO rfl rfl (fun w hO => ?_)
                            simp only [at_set_eq (show id.toNat < A.length by omega), List.set_set] at hO
                            refine l_y rfl rfl (y_nilCheck rfl rfl) ?_
                            refine l_y rfl rfl (y_fld (j' := 0) rfl) ?_
                            refine l_y rfl rfl (y_fld (j' := 10) rfl) ?_
                            refine s_e1 (x0 := 10) hO rfl rfl (fun w hO => ?_)
                            simp only [at_set_eq (show id.toNat < A.length by omega), List.set_set] at hO
                            refine K2 (K3 (K0 ?_))
                            have hO : Own k w [arB a p A.length c, arS p c (setLinks A id up (at_ A (up : Int).toNat).Node.Last before)] := hO
                            refine K1 ?_
                            refine l_y rfl rfl (y_move rfl) ?_
                            refine l_y rfl rfl (y_move rfl) ?_
                            refine l_y rfl rfl (y_move rfl) ?_
                            refine l_y rfl rfl (y_move rfl) ?_
                            refine CK [.b a, .p p] hO rfl (fun k' hx hr hO' => join_spec hg (by simp only [setLinks, List.length_set, joinL_len]) (by omega) (by omega) (by omega) (hO := hO')) ?_
                            rintro _ _ w ⟨rfl, rfl⟩ hO
                            simp only [List.cons_append, List.nil_append] at hO
                            refine K2 (K3 (K0 (K1 ?_)))
                            refine l_y rfl rfl (y_move rfl) ?_
                            refine l_y rfl rfl (y_move rfl) ?_
                            refine l_y rfl rfl (y_move rfl) ?_
                            refine l_y rfl rfl (y_move rfl) ?_
                            refine CK [.b a, .p p] hO rfl (fun k' hx hr hO' => join_spec hg (by simp only [setLinks, List.length_set, joinL_len]) (by omega) (by omega) (by omega) (hO := hO')) ?_
                            rintro _ _ w ⟨rfl, rfl⟩ hO
                            simp only [List.cons_append, List.nil_append] at hO
                            refine K2 (K3 (K0 (K1 ?_)))
                            refine l_y rfl rfl (y_assign rfl) ?_
                            refine K2 (K3 (K6 ?_))
                            have e : prevL A up before = (at_ A (up : Int).toNat).Node.Last := by simp only [prevL]; first | rw [if_pos h12_1] | rw [if_neg h12_1]
                            have e2 : linkL A up id before = (0, joinL (joinL (setLinks A id up (prevL A up before) before) up (prevL A up before) id) up id before) := by
                              unfold linkL; rw [if_neg (by simp [*]), if_neg (by simp [*]), if_neg (by simp [*]), if_neg (by simp [*])]
                            exact fin1 rfl rfl ⟨_, ⟨by rw [e2], by rw [e2, e]⟩, hO⟩
      · refine l_y rfl rfl (y_move rfl) ?_
        repeat refine M2 ?_
        refine l_y rfl rfl (y_pick_f rfl rfl) ?_
        refine l_y rfl rfl (y_pick_f rfl rfl) ?_
        refine l_y rfl rfl (y_assign rfl) ?_
        refine K2 (K3 (L9 (K0 ?_)))
        have hup := hasB_true hg19
        have hid := hasB_true hg25
        try have hbe := hasB_true hc14
        have hq1 : _ ∨ _ := hL.last up hg19
        try have hq2 : _ ∨ _ := hL.prev before hc14
        refine K1 ?_
        refine l_y rfl rfl (y_move rfl) ?_
        refine l_y rfl rfl (y_nilCheck rfl rfl) ?_
        refine l_y rfl rfl (y_fldb (o' := 0) rfl) ?_
        refine l_y rfl rfl (D5 hO rfl) ?_
        refine l_y rfl rfl (y_move rfl) ?_
        refine l_y rfl rfl (y_idx rfl rfl) ?_
        refine l_y rfl rfl (y_fld (j' := 0) rfl) ?_
        refine l_y rfl rfl (y_fld (j' := 0) rfl) ?_
        refine l_y rfl rfl (y_e1 (x0 := 0) hO rfl) ?_
        refine CK [] hO rfl (fun k' hx hr hO' => parent_spec (hO := hO')) ?_
        rintro _ _ w ⟨rfl, rfl⟩ hO
        simp only [List.cons_append, List.nil_append] at hO
        refine l_y rfl rfl (y_not rfl rfl) ?_
        refine l_y rfl rfl (y_move rfl) ?_
        refine l_split 47 rfl (fun hg47 => ?_) (fun hg47 => ?_)
        · simp only [Bool.not_eq_true', Bool.not_eq_false'] at hg47
          repeat refine M2 ?_
          refine l_y rfl rfl (y_pick_t rfl rfl) ?_
          refine l_y rfl rfl (y_move rfl) ?_
          repeat refine M2 ?_
          refine l_y rfl rfl (y_pick_t rfl rfl) ?_
          refine l_y rfl rfl (y_assign rfl) ?_
          refine K2 (K3 (L8 (K0 (K1 ?_))))
          refine l_y rfl rfl (y_assign rfl) ?_
          refine K2 (K3 (K6 (L0 (K9 ?_))))
          exact fin1 rfl rfl ⟨_, ⟨by simp [linkL, *], by simp [linkL, *]⟩, hO⟩
        · simp only [Bool.not_eq_true', Bool.not_eq_false'] at hg47
          refine l_y rfl rfl (y_move rfl) ?_
          refine l_y rfl rfl (y_nilCheck rfl rfl) ?_
          refine l_y rfl rfl (y_fldb (o' := 0) rfl) ?_
          refine l_y rfl rfl (D5 hO rfl) ?_
          refine l_y rfl rfl (y_move rfl) ?_
          refine l_y rfl rfl (y_idx rfl rfl) ?_
          refine l_y rfl rfl (y_fld (j' := 0) rfl) ?_
          refine l_y rfl rfl (y_fld (j' := 0) rfl) ?_
          refine l_y rfl rfl (y_e1 (x0 := 0) hO rfl) ?_
          refine Z0 (fun h5_21 => ?_) (fun h5_21 => ?_)
          · refine l_y rfl rfl (y_pick_f rfl rfl) ?_
            refine l_y rfl rfl (y_move rfl) ?_
            repeat refine M2 ?_
            refine l_y rfl rfl (y_pick_t rfl rfl) ?_
            refine l_y rfl rfl (y_assign rfl) ?_
            refine K2 (K3 (L8 (K0 (K1 ?_))))
            refine l_y rfl rfl (y_assign rfl) ?_
            refine K2 (K3 (K6 (L0 (K9 ?_))))
            exact fin1 rfl rfl ⟨_, ⟨by simp [linkL, *], by simp [linkL, *]⟩, hO⟩
          · refine l_y rfl rfl (y_pick_f rfl rfl) ?_
            refine l_y rfl rfl (y_move rfl) ?_
            refine l_y rfl rfl (y_move rfl) ?_
            refine l_y rfl rfl (y_nilCheck rfl rfl) ?_
            refine l_y rfl rfl (y_fldb (o' := 0) rfl) ?_
            refine l_y rfl rfl (D5 hO rfl) ?_
            refine l_y rfl rfl (y_move rfl) ?_
            refine l_y rfl rfl (y_idx rfl rfl) ?_
            refine l_y rfl rfl (y_fld (j' := 0) rfl) ?_
            refine l_y rfl rfl (y_fld (j' := 0) rfl) ?_
            refine l_y rfl rfl (y_e1 (x0 := 0) hO rfl) ?_
            refine Z0 (fun h5_33 => ?_) (fun h5_33 => ?_)
            · refine l_y rfl rfl (y_pick_f rfl rfl) ?_
              refine l_y rfl rfl (y_assign rfl) ?_
              refine K2 (K3 (L8 (K0 (K1 ?_))))
              refine l_y rfl rfl (y_assign rfl) ?_
              refine K2 (K3 (K6 (L0 (K9 ?_))))
              exact fin1 rfl rfl ⟨_, ⟨by simp [linkL, *], by simp [linkL, *]⟩, hO⟩
            · refine l_y rfl rfl (y_pick_f rfl rfl) ?_
              refine l_y rfl rfl (y_assign rfl) ?_
              refine K2 (K3 (L9 (K0 (K1 ?_))))
              refine l_y rfl rfl (y_move rfl) ?_
              refine l_y rfl rfl (y_nilCheck rfl rfl) ?_
              refine l_y rfl rfl (y_fldb (o' := 0) rfl) ?_
              refine l_y rfl rfl (D5 hO rfl) ?_
              refine l_y rfl rfl (y_move rfl) ?_
              refine l_y rfl rfl (y_idx rfl rfl) ?_
              refine l_y rfl rfl (y_fld (j' := 0) rfl) ?_
              refine l_y rfl rfl (y_fld (j' := 6) rfl) ?_
              refine l_y rfl rfl (y_e1 (x0 := 6) hO rfl) ?_
              refine Z1 (fun h7_9 => ?_) (fun h7_9 => ?_)
              · refine l_y rfl rfl (y_move rfl) ?_
                repeat refine M2 ?_
                refine l_y rfl rfl (y_pick_t rfl rfl) ?_
                refine l_y rfl rfl (y_assign rfl) ?_
                refine K2 (K3 (L8 (K0 (K1 ?_))))
                refine l_y rfl rfl (y_assign rfl) ?_
                refine K2 (K3 (K6 (L0 (K9 ?_))))
                exact fin1 rfl rfl ⟨_, ⟨by simp [linkL, *], by simp [linkL, *]⟩, hO⟩
              · refine l_y rfl rfl (y_move rfl) ?_
                refine l_y rfl rfl (y_move rfl) ?_
                refine l_y rfl rfl (y_move rfl) ?_
                refine l_y rfl rfl (y_move rfl) ?_
                refine CK [.b a, .p p] hO rfl (fun k' hx hr hO' => Above_spec hn hg hrk (hO := hO')) ?_
                rintro _ _ w ⟨rfl, rfl⟩ hO
                simp only [List.cons_append, List.nil_append] at hO
                refine l_y rfl rfl (y_pick_f rfl rfl) ?_
                refine l_y rfl rfl (y_assign rfl) ?_
                refine K2 (K3 ?_)
                refine c_split rfl (fun hc71 => ?_) (fun hc71 => ?_)
                · refine K0 (K1 ?_)
                  refine l_y rfl rfl (y_assign rfl) ?_
                  refine K2 (K3 (K6 (L0 (K9 ?_))))
                  exact fin1 rfl rfl ⟨_, ⟨by simp [linkL, *], by simp [linkL, *]⟩, hO⟩
                · refine K0 (K1 ?_)
                  refine l_y rfl rfl (y_move rfl) ?_
                  refine Z1 (fun h9_1 => ?_) (fun h9_1 => ?_)
                  · first
                    | (exfalso; omega)
                    | skip
                      refine l_y rfl rfl (y_move rfl) ?_
                      refine l_y rfl rfl (y_move rfl) ?_
                      refine l_y rfl rfl (y_nilCheck rfl rfl) ?_
                      refine l_y rfl rfl (y_fldb (o' := 0) rfl) ?_
                      refine l_y rfl rfl (D5 hO rfl) ?_
                      refine l_y rfl rfl (y_move rfl) ?_
                      refine l_y rfl rfl (y_idx rfl rfl) ?_
                      refine l_y rfl rfl (y_fld (j' := 0) rfl) ?_
                      refine l_y rfl rfl (y_fld (j' := 6) rfl) ?_
                      refine l_y rfl rfl (y_e1 (x0 := 6) hO rfl) ?_
                      refine l_y rfl rfl (y_move rfl) ?_
                      refine Z1 (fun h9_13 => ?_) (fun h9_13 => ?_)
                      · refine l_y rfl rfl (y_pick_t rfl rfl) ?_
                        refine l_y rfl rfl (y_assign rfl) ?_
                        refine K2 (K3 (L8 (K0 (K1 ?_))))
                        refine l_y rfl rfl (y_assign rfl) ?_
                        refine K2 (K3 (K6 (L0 (K9 ?_))))
                        exact fin1 rfl rfl ⟨_, ⟨by simp [linkL, *], by simp [linkL, *]⟩, hO⟩
                      · refine l_y rfl rfl (y_pick_t rfl rfl) ?_
                        refine l_y rfl rfl (y_assign rfl) ?_
                        refine K2 (K3 (L9 (K5 (K8 (K3 (K0 (K1 ?_)))))))
                        refine l_y rfl rfl (y_move rfl) ?_
                        refine l_y rfl rfl (y_nilCheck rfl rfl) ?_
                        refine l_y rfl rfl (y_fldb (o' := 0) rfl) ?_
                        refine l_y rfl rfl (D5 hO rfl) ?_
                        refine l_y rfl rfl (y_move rfl) ?_
                        refine l_y rfl rfl (y_idx rfl rfl) ?_
                        refine l_y rfl rfl (y_fld (j' := 0) rfl) ?_
                        refine l_y rfl rfl (y_fld (j' := 8) rfl) ?_
                        refine l_y rfl rfl (y_e1 (x0 := 8) hO rfl) ?_
                        refine l_y rfl rfl (y_assign rfl) ?_
                        refine K2 (K3 (K0 (K0 (K1 ?_))))
                        refine l_y rfl rfl (y_move rfl) ?_
                        refine Z1 (fun h12_1 => ?_) (fun h12_1 => ?_)
                        · first
                          | (exfalso; omega)
                          | skip
                            refine K2 (K3 (L8 (K1 ?_)))
                            refine l_y rfl rfl (y_move rfl) ?_
                            refine l_y rfl rfl (y_nilCheck rfl rfl) ?_
                            refine l_y rfl rfl (y_fldb (o' := 0) rfl) ?_
                            refine l_y rfl rfl (D5 hO rfl) ?_
                            refine l_y rfl rfl (y_move rfl) ?_
                            refine l_y rfl rfl (y_idx rfl rfl) ?_
                            refine l_y rfl rfl (y_fld (j' := 0) rfl) ?_
                            refine l_y rfl rfl (y_fld (j' := 9) rfl) ?_
                            refine l_y rfl rfl (y_e1 (x0 := 9) hO rfl) ?_
                            refine l_y rfl rfl (y_assign rfl) ?_
                            refine K2 (K3 (K0 (K1 ?_)))
                            refine l_y rfl rfl (y_move rfl) ?_
                            refine l_y rfl rfl (y_nilCheck rfl rfl) ?_
                            refine l_y rfl rfl (y_fldb (o' := 0) rfl) ?_
                            refine l_y rfl rfl (D5 hO rfl) ?_
                            refine l_y rfl rfl (y_move rfl) ?_
                            refine l_y rfl rfl (y_idx rfl rfl) ?_
                            refine l_y rfl rfl (y_assign rfl) ?_
                            refine K2 (K3 (K0 (K1 ?_)))
                            refine l_y rfl rfl (y_move rfl) ?_
                            refine l_y rfl rfl (y_move rfl) ?_
                            refine l_y rfl rfl (y_move rfl) ?_
                            refine l_y rfl rfl (y_move rfl) ?_
                            refine l_y rfl rfl (y_move rfl) ?_
                            refine l_y rfl rfl (y_move rfl) ?_
                            refine l_y rfl rfl (y_nilCheck rfl rfl) ?_
                            refine l_y rfl rfl (y_fld (j' := 0) rfl) ?_
                            refine l_y rfl rfl (y_fld (j' := 6) rfl) ?_
                            refine s_e1 (x0 := 6) hO rfl rfl (fun w hO => ?_)
                            refine l_y rfl rfl (y_nilCheck rfl rfl) ?_
                            refine l_y rfl rfl (y_fld (j' := 0) rfl) ?_
                            refine l_y rfl rfl (y_fld (j' := 9) rfl) ?_
                            refine s_e1 (x0 := 9) hO rfl rfl (fun w hO => ?_)
                            simp only [at_set_eq (show id.toNat < A.length by omega), List.set_set] at hO
                            refine l_y rfl rfl (y_nilCheck rfl rfl) ?_
                            refine l_y rfl rfl (y_fld (j' := 0) rfl) ?_
                            refine l_y rfl rfl (y_fld (j' := 10) rfl) ?_
                            refine s_e1 (x0 := 10) hO rfl rfl (fun w hO => ?_)
                            simp only [at_set_eq (show id.toNat < A.length by omega), List.set_set] at hO
                            refine K2 (K3 (K0 ?_))
                            have hO : Own k w [arB a p A.length c, arS p c (setLinks A id up (at_ A (before : Int).toNat).Node.Prev before)] := hO
                            refine K1 ?_
                            refine l_y rfl rfl (y_move rfl) ?_
                            refine l_y rfl rfl (y_move rfl) ?_
                            refine l_y rfl rfl (y_move rfl) ?_
                            refine l_y rfl rfl (y_move rfl) ?_
                            refine CK [.b a, .p p] hO rfl (fun k' hx hr hO' => join_spec hg (by simp only [setLinks, List.length_set, joinL_len]) (by omega) (by omega) (by omega) (hO := hO')) ?_
                            rintro _ _ w ⟨rfl, rfl⟩ hO
                            simp only [List.cons_append, List.nil_append] at hO
                            refine K2 (K3 (K0 (K1 ?_)))
                            refine l_y rfl rfl (y_move rfl) ?_
                            refine l_y rfl rfl (y_move rfl) ?_
                            refine l_y rfl rfl (y_move rfl) ?_
                            refine l_y rfl rfl (y_move rfl) ?_
                            refine CK [.b a, .p p] hO rfl (fun k' hx hr hO' => join_spec hg (by simp only [setLinks, List.length_set, joinL_len]) (by omega) (by omega) (by omega) (hO := hO')) ?_
                            rintro _ _ w ⟨rfl, rfl⟩ hO
                            simp only [List.cons_append, List.nil_append] at hO
                            refine K2 (K3 (K0 (K1 ?_)))
                            refine l_y rfl rfl (y_assign rfl) ?_
                            refine K2 (K3 (K6 ?_))
                            have e : prevL A up before = (at_ A (before : Int).toNat).Node.Prev := by simp only [prevL]; first | rw [if_pos h12_1] | rw [if_neg h12_1]
                            have e2 : linkL A up id before = (0, joinL (joinL (setLinks A id up (prevL A up before) before) up (prevL A up before) id) up id before) := by
                              unfold linkL; rw [if_neg (by simp [*]), if_neg (by simp [*]), if_neg (by simp [*]), if_neg (by simp [*])]
                            exact fin1 rfl rfl ⟨_, ⟨by rw [e2], by rw [e2, e]⟩, hO⟩
                        · first
                          | (exfalso; omega)
                          | skip
                            refine K2 (K3 (L9 (K5 (K3 (K0 (K1 ?_))))))
                            refine l_y rfl rfl (y_move rfl) ?_
                            refine l_y rfl rfl (y_nilCheck rfl rfl) ?_
                            refine l_y rfl rfl (y_fldb (o' := 0) rfl) ?_
                            refine l_y rfl rfl (D5 hO rfl) ?_
                            refine l_y rfl rfl (y_move rfl) ?_
                            refine l_y rfl rfl (y_idx rfl rfl) ?_
                            refine l_y rfl rfl (y_assign rfl) ?_
                            refine K2 (K3 (K0 (K1 ?_)))
                            refine l_y rfl rfl (y_move rfl) ?_
                            refine l_y rfl rfl (y_move rfl) ?_
                            refine l_y rfl rfl (y_move rfl) ?_
                            refine l_y rfl rfl (y_move rfl) ?_
                            refine l_y rfl rfl (y_move rfl) ?_
                            refine l_y rfl rfl (y_move rfl) ?_
                            refine l_y rfl rfl (y_nilCheck rfl rfl) ?_
                            refine l_y rfl rfl (y_fld (j' := 0) rfl) ?_
                            refine l_y rfl rfl (y_fld (j' := 6) rfl) ?_
                            refine s_e1 (x0 := 6) hO rfl rfl (fun w hO => ?_)
                            refine l_y rfl rfl (y_nilCheck rfl rfl) ?_
                            refine l_y rfl rfl (y_fld (j' := 0) rfl) ?_
                            refine l_y rfl rfl (y_fld (j' := 9) rfl) ?_
                            refine s_e1 (x0 := 9) hO rfl rfl (fun w hO => ?_)
                            simp only [at_set_eq (show id.toNat < A.length by omega), List.set_set] at hO
                            refine l_y rfl rfl (y_nilCheck rfl rfl) ?_
                            refine l_y rfl rfl (y_fld (j' := 0) rfl) ?_
                            refine l_y rfl rfl (y_fld (j' := 10) rfl) ?_
                            refine s_e1 (x0 := 10) hO rfl rfl (fun w hO => ?_)
                            simp only [at_set_eq (show id.toNat < A.length by omega), List.set_set] at hO
                            refine K2 (K3 (K0 ?_))
                            have hO : Own k w [arB a p A.length c, arS p c (setLinks A id up (at_ A (up : Int).toNat).Node.Last before)] := hO
                            refine K1 ?_
                            refine l_y rfl rfl (y_move rfl) ?_
                            refine l_y rfl rfl (y_move rfl) ?_
                            refine l_y rfl rfl (y_move rfl) ?_
                            refine l_y rfl rfl (y_move rfl) ?_
                            refine CK [.b a, .p p] hO rfl (fun k' hx hr hO' => join_spec hg (by simp only [setLinks, List.length_set, joinL_len]) (by omega) (by omega) (by omega) (hO := hO')) ?_
                            rintro _ _ w ⟨rfl, rfl⟩ hO
                            simp only [List.cons_append, List.nil_append] at hO
                            refine K2 (K3 (K0 (K1 ?_)))
                            refine l_y rfl rfl (y_move rfl) ?_
                            refine l_y rfl rfl (y_move rfl) ?_
                            refine l_y rfl rfl (y_move rfl) ?_
                            refine l_y rfl rfl (y_move rfl) ?_
                            refine CK [.b a, .p p] hO rfl (fun k' hx hr hO' => join_spec hg (by simp only [setLinks, List.length_set, joinL_len]) (by omega) (by omega) (by omega) (hO := hO')) ?_
                            rintro _ _ w ⟨rfl, rfl⟩ hO
                            simp only [List.cons_append, List.nil_append] at hO
                            refine K2 (K3 (K0 (K1 ?_)))
                            refine l_y rfl rfl (y_assign rfl) ?_
                            refine K2 (K3 (K6 ?_))
                            have e : prevL A up before = (at_ A (up : Int).toNat).Node.Last := by simp only [prevL]; first | rw [if_pos h12_1] | rw [if_neg h12_1]
                            have e2 : linkL A up id before = (0, joinL (joinL (setLinks A id up (prevL A up before) before) up (prevL A up before) id) up id before) := by
                              unfold linkL; rw [if_neg (by simp [*]), if_neg (by simp [*]), if_neg (by simp [*]), if_neg (by simp [*])]
                            exact fin1 rfl rfl ⟨_, ⟨by rw [e2], by rw [e2, e]⟩, hO⟩
                  · first
                    | (exfalso; omega)
                    | skip
                      refine l_y rfl rfl (y_move rfl) ?_
                      repeat refine M2 ?_
                      refine l_y rfl rfl (y_pick_f rfl rfl) ?_
                      refine l_y rfl rfl (y_assign rfl) ?_
                      refine K2 (K3 (L9 (K5 (K8 (K3 (K0 (K1 ?_)))))))
                      refine l_y rfl rfl (y_move rfl) ?_
                      refine l_y rfl rfl (y_nilCheck rfl rfl) ?_
                      refine l_y rfl rfl (y_fldb (o' := 0) rfl) ?_
                      refine l_y rfl rfl (D5 hO rfl) ?_
                      refine l_y rfl rfl (y_move rfl) ?_
                      refine l_y rfl rfl (y_idx rfl rfl) ?_
                      refine l_y rfl rfl (y_fld (j' := 0) rfl) ?_
                      refine l_y rfl rfl (y_fld (j' := 8) rfl) ?_
                      refine l_y rfl rfl (y_e1 (x0 := 8) hO rfl) ?_
                      refine l_y rfl rfl (y_assign rfl) ?_
                      refine K2 (K3 (K0 (K0 (K1 ?_))))
                      refine l_y rfl rfl (y_move rfl) ?_
                      refine Z1 (fun h12_1 => ?_) (fun h12_1 => ?_)
                      · first
                        | (exfalso; omega)
                        | skip
                          refine K2 (K3 (L8 (K1 ?_)))
                          refine l_y rfl rfl (y_move rfl) ?_
                          refine l_y rfl rfl (y_nilCheck rfl rfl) ?_
                          refine l_y rfl rfl (y_fldb (o' := 0) rfl) ?_
                          refine l_y rfl rfl (D5 hO rfl) ?_
                          refine l_y rfl rfl (y_move rfl) ?_
                          refine l_y rfl rfl (y_idx rfl rfl) ?_
                          refine l_y rfl rfl (y_fld (j' := 0) rfl) ?_
                          refine l_y rfl rfl (y_fld (j' := 9) rfl) ?_
                          refine l_y rfl rfl (y_e1 (x0 := 9) hO rfl) ?_
                          refine l_y rfl rfl (y_assign rfl) ?_
                          refine K2 (K3 (K0 (K1 ?_)))
                          refine l_y rfl rfl (y_move rfl) ?_
                          refine l_y rfl rfl (y_nilCheck rfl rfl) ?_
                          refine l_y rfl rfl (y_fldb (o' := 0) rfl) ?_
                          refine l_y rfl rfl (D5 hO rfl) ?_
                          refine l_y rfl rfl (y_move rfl) ?_
                          refine l_y rfl rfl (y_idx rfl rfl) ?_
                          refine l_y rfl rfl (y_assign rfl) ?_
                          refine K2 (K3 (K0 (K1 ?_)))
                          refine l_y rfl rfl (y_move rfl) ?_
                          refine l_y rfl rfl (y_move rfl) ?_
                          refine l_y rfl rfl (y_move rfl) ?_
                          refine l_y rfl rfl (y_move rfl) ?_
                          refine l_y rfl rfl (y_move rfl) ?_
                          refine l_y rfl rfl (y_move rfl) ?_
                          refine l_y rfl rfl (y_nilCheck rfl rfl) ?_
                          refine l_y rfl rfl (y_fld (j' := 0) rfl) ?_
                          refine l_y rfl rfl (y_fld (j' := 6) rfl) ?_
                          refine s_e1 (x0 := 6) hO rfl rfl (fun w hO => ?_)
                          refine l_y rfl rfl (y_nilCheck rfl rfl) ?_
                          refine l_y rfl rfl (y_fld (j' := 0) rfl) ?_
                          refine l_y rfl rfl (y_fld (j' := 9) rfl) ?_
                          refine s_e1 (x0 := 9) hO rfl rfl (fun w hO => ?_)
                          simp only [at_set_eq (show id.toNat < A.length by omega), List.set_set] at hO
                          refine l_y rfl rfl (y_nilCheck rfl rfl) ?_
                          refine l_y rfl rfl (y_fld (j' := 0) rfl) ?_
                          refine l_y rfl rfl (y_fld (j' := 10) rfl) ?_
                          refine s_e1 (x0 := 10) hO rfl rfl (fun w hO => ?_)
                          simp only [at_set_eq (show id.toNat < A.length by omega), List.set_set] at hO
                          refine K2 (K3 (K0 ?_))
                          have hO : Own k w [arB a p A.length c, arS p c (setLinks A id up (at_ A (before : Int).toNat).Node.Prev before)] := hO
                          refine K1 ?_
                          refine l_y rfl rfl (y_move rfl) ?_
                          refine l_y rfl rfl (y_move rfl) ?_
                          refine l_y rfl rfl (y_move rfl) ?_
                          refine l_y rfl rfl (y_move rfl) ?_
                          refine CK [.b a, .p p] hO rfl (fun k' hx hr hO' => join_spec hg (by simp only [setLinks, List.length_set, joinL_len]) (by omega) (by omega) (by omega) (hO := hO')) ?_
                          rintro _ _ w ⟨rfl, rfl⟩ hO
                          simp only [List.cons_append, List.nil_append] at hO
                          refine K2 (K3 (K0 (K1 ?_)))
                          refine l_y rfl rfl (y_move rfl) ?_
                          refine l_y rfl rfl (y_move rfl) ?_
                          refine l_y rfl rfl (y_move rfl) ?_
                          refine l_y rfl rfl (y_move rfl) ?_
                          refine CK [.b a, .p p] hO rfl (fun k' hx hr hO' => join_spec hg (by simp only [setLinks, List.length_set, joinL_len]) (by omega) (by omega) (by omega) (hO := hO')) ?_
                          rintro _ _ w ⟨rfl, rfl⟩ hO
                          simp only [List.cons_append, List.nil_append] at hO
                          refine K2 (K3 (K0 (K1 ?_)))
                          refine l_y rfl rfl (y_assign rfl) ?_
                          refine K2 (K3 (K6 ?_))
                          have e : prevL A up before = (at_ A (before : Int).toNat).Node.Prev := by simp only [prevL]; first | rw [if_pos h12_1] | rw [if_neg h12_1]
                          have e2 : linkL A up id before = (0, joinL (joinL (setLinks A id up (prevL A up before) before) up (prevL A up before) id) up id before) := by
                            unfold linkL; rw [if_neg (by simp [*]), if_neg (by simp [*]), if_neg (by simp [*]), if_neg (by simp [*])]
                          exact fin1 rfl rfl ⟨_, ⟨by rw [e2], by rw [e2, e]⟩, hO⟩
                      · first
                        | (exfalso; omega)
                        | skip
                          refine K2 (K3 (L9 (K5 (K3 (K0 (K1 ?_))))))
                          refine l_y rfl rfl (y_move rfl) ?_
                          refine l_y rfl rfl (y_nilCheck rfl rfl) ?_
                          refine l_y rfl rfl (y_fldb (o' := 0) rfl) ?_
                          refine l_y rfl rfl (D5 hO rfl) ?_
                          refine l_y rfl rfl (y_move rfl) ?_
                          refine l_y rfl rfl (y_idx rfl rfl) ?_
                          refine l_y rfl rfl (y_assign rfl) ?_
                          refine K2 (K3 (K0 (K1 ?_)))
                          refine l_y rfl rfl (y_move rfl) ?_
                          refine l_y rfl rfl (y_move rfl) ?_
                          refine l_y rfl rfl (y_move rfl) ?_
                          refine l_y rfl rfl (y_move rfl) ?_
                          refine l_y rfl rfl (y_move rfl) ?_
                          refine l_y rfl rfl (y_move rfl) ?_
                          refine l_y rfl rfl (y_nilCheck rfl rfl) ?_
                          refine l_y rfl rfl (y_fld (j' := 0) rfl) ?_
                          refine l_y rfl rfl (y_fld (j' := 6) rfl) ?_
                          refine s_e1 (x0 := 6) hO rfl rfl (fun w hO => ?_)
                          refine l_y rfl rfl (y_nilCheck rfl rfl) ?_
                          refine l_y rfl rfl (y_fld (j' := 0) rfl) ?_
                          refine l_y rfl rfl (y_fld (j' := 9) rfl) ?_
                          refine s_e1 (x0 := 9) hO rfl rfl (fun w hO => ?_)
                          simp only [at_set_eq (show id.toNat < A.length by omega), List.set_set] at hO
                          refine l_y rfl rfl (y_nilCheck rfl rfl) ?_
                          refine l_y rfl rfl (y_fld (j' := 0) rfl) ?_
                          refine l_y rfl rfl (y_fld (j' := 10) rfl) ?_
                          refine s_e1 (x0 := 10) hO rfl rfl (fun w hO => ?_)
                          simp only [at_set_eq (show id.toNat < A.length by omega), List.set_set] at hO
                          refine K2 (K3 (K0 ?_))
                          have hO : Own k w [arB a p A.length c, arS p c (setLinks A id up (at_ A (up : Int).toNat).Node.Last before)] := hO
                          refine K1 ?_
                          refine l_y rfl rfl (y_move rfl) ?_
                          refine l_y rfl rfl (y_move rfl) ?_
                          refine l_y rfl rfl (y_move rfl) ?_
                          refine l_y rfl rfl (y_move rfl) ?_
                          refine CK [.b a, .p p] hO rfl (fun k' hx hr hO' => join_spec hg (by simp only [setLinks, List.length_set, joinL_len]) (by omega) (by omega) (by omega) (hO := hO')) ?_
                          rintro _ _ w ⟨rfl, rfl⟩ hO
                          simp only [List.cons_append, List.nil_append] at hO
                          refine K2 (K3 (K0 (K1 ?_)))
                          refine l_y rfl rfl (y_move rfl) ?_
                          refine l_y rfl rfl (y_move rfl) ?_
                          refine l_y rfl rfl (y_move rfl) ?_
                          refine l_y rfl rfl (y_move rfl) ?_
                          refine CK [.b a, .p p] hO rfl (fun k' hx hr hO' => join_spec hg (by simp only [setLinks, List.length_set, joinL_len]) (by omega) (by omega) (by omega) (hO := hO')) ?_
                          rintro _ _ w ⟨rfl, rfl⟩ hO
                          simp only [List.cons_append, List.nil_append] at hO
                          refine K2 (K3 (K0 (K1 ?_)))
                          refine l_y rfl rfl (y_assign rfl) ?_
                          refine K2 (K3 (K6 ?_))
                          have e : prevL A up before = (at_ A (up : Int).toNat).Node.Last := by simp only [prevL]; first | rw [if_pos h12_1] | rw [if_neg h12_1]
                          have e2 : linkL A up id before = (0, joinL (joinL (setLinks A id up (prevL A up before) before) up (prevL A up before) id) up id before) := by
                            unfold linkL; rw [if_neg (by simp [*]), if_neg (by simp [*]), if_neg (by simp [*]), if_neg (by simp [*])]
                          exact fin1 rfl rfl ⟨_, ⟨by rw [e2], by rw [e2, e]⟩, hO⟩
def unlinkL (A : List Node_one) (id : Int) : Int × List Node_one :=
  if hasB A id = false then (6, A)
  else if (at_ A id.toNat).Node.Parent = -1 then (5, A)
  else (0, setLinks (joinL A (at_ A id.toNat).Node.Parent (at_ A id.toNat).Node.Prev (at_ A id.toNat).Node.Next) id (-1) (-1) (-1))
set_option maxHeartbeats 2000000 in
theorem Unlink_spec {k : Ctx} {w : World} {a : Nat} {A : List Node_one} {p : Option Addr} {c : Nat} {id : Int} (hn : 0 < A.length) (hg : Gs p A.length) (hL : LinksOk A) (hO : Own k w [arB a p A.length c, arS p c A]) :
    Tri Try.prog 62 #[.pointer (some ⟨a, 0, none⟩), .int .i64 id] k w fun v m => v = .int .i64 (unlinkL A id).1 ∧ m = [arB a p A.length c, arS p c (unlinkL A id).2] := by
  refine enter (args := [.pointer (some ⟨a, 0, none⟩), .int .i64 id]) Try.func62 rfl rfl ?_
  refine K0 (K1 ?_)
  refine l_y rfl rfl (y_assign rfl) ?_
  refine K2 (K3 (K0 (K4 (K0 (K1 ?_)))))
  refine l_y rfl rfl (y_move rfl) ?_
  refine CK [.b a, .p p] hO rfl (fun k' hx hr hO' => none_spec (hO := hO')) ?_
  rintro _ _ w ⟨rfl, rfl⟩ hO
  simp only [List.cons_append, List.nil_append] at hO
  refine l_y rfl rfl (y_assign rfl) ?_
  refine K2 (K3 (L9 (K0 (K1 ?_))))
  refine l_y rfl rfl (y_move rfl) ?_
  refine l_y rfl rfl (y_move rfl) ?_
  refine CK [.b a, .p p] hO rfl (fun k' hx hr hO' => has_spec (hO := hO')) ?_
  rintro _ _ w ⟨rfl, rfl⟩ hO
  simp only [List.cons_append, List.nil_append] at hO
  refine l_y rfl rfl (y_not rfl rfl) ?_
  refine l_y rfl rfl (y_assign rfl) ?_
  refine K2 (K3 ?_)
  refine c_split rfl (fun hc9 => ?_) (fun hc9 => ?_)
  · simp only [Bool.not_eq_true', Bool.not_eq_false'] at hc9
    refine K0 (K1 ?_)
    refine l_y rfl rfl (y_assign rfl) ?_
    refine K2 (K3 (K6 (L0 (K9 ?_))))
    exact fin1 rfl rfl ⟨_, ⟨by simp [unlinkL, hc9], by simp [unlinkL, hc9]⟩, hO⟩
  · simp only [Bool.not_eq_true', Bool.not_eq_false'] at hc9
    refine K5 (K8 (K3 (K0 ?_)))
    have hid := hasB_true hc9
    have hq1 : _ ∨ _ := hL.parent id hc9
    have hq2 : _ ∨ _ := hL.prev id hc9
    have hq3 : _ ∨ _ := hL.next id hc9
    refine K1 ?_
    refine l_y rfl rfl (y_move rfl) ?_
    refine l_y rfl rfl (y_nilCheck rfl rfl) ?_
    refine l_y rfl rfl (y_fldb (o' := 0) rfl) ?_
    refine l_y rfl rfl (D5 hO rfl) ?_
    refine l_y rfl rfl (y_move rfl) ?_
    refine l_y rfl rfl (y_idx rfl rfl) ?_
    refine l_y rfl rfl (y_assign rfl) ?_
    refine K2 (K3 (K0 (K0 (K1 ?_))))
    refine l_y rfl rfl (y_move rfl) ?_
    refine l_y rfl rfl (y_nilCheck rfl rfl) ?_
    refine l_y rfl rfl (y_fld (j' := 0) rfl) ?_
    refine l_y rfl rfl (y_fld (j' := 6) rfl) ?_
    refine l_y rfl rfl (y_e1 (x0 := 6) hO rfl) ?_
    refine Z0 (fun h6_5 => ?_) (fun h6_5 => ?_)
    · refine K2 (K3 (L8 (K0 (K1 ?_))))
      refine l_y rfl rfl (y_assign rfl) ?_
      refine K2 (K3 (K6 (K9 ?_)))
      exact fin1 rfl rfl ⟨_, ⟨by simp [unlinkL, hc9, h6_5], by simp [unlinkL, hc9, h6_5]⟩, hO⟩
    · refine K2 (K3 (L9 (K5 (K3 (K0 ?_)))))
      refine da_region (by intro c a d v w h; cases d <;> exact h) ?_
      have hO := hO.drew
      refine da_phase _ [16] (SO.ks [.p p] hO) ?_
      refine dx_u 0 (by kernel_rfl) rfl rfl rfl (fun w => y_move rfl) ?_
      refine dx_u 1 (by kernel_rfl) rfl rfl rfl (fun w => y_move rfl) ?_
      refine dx_u 2 (by kernel_rfl) rfl rfl rfl (fun w => y_nilCheck rfl rfl) ?_
      refine dx_u 3 (by kernel_rfl) rfl rfl rfl (fun w => y_fld (j' := 0) rfl) ?_
      refine dx_u 4 (by kernel_rfl) rfl rfl rfl (fun w => y_fld (j' := 6) rfl) ?_
      refine dx_y 5 (by kernel_rfl) rfl rfl rfl (fun w ⟨m, hw⟩ => y_e1 (x0 := 6) hw rfl) ?_
      refine dx_u 6 (by kernel_rfl) rfl rfl rfl (fun w => y_move rfl) ?_
      refine dx_u 7 (by kernel_rfl) rfl rfl rfl (fun w => y_nilCheck rfl rfl) ?_
      refine dx_u 8 (by kernel_rfl) rfl rfl rfl (fun w => y_fld (j' := 0) rfl) ?_
      refine dx_u 9 (by kernel_rfl) rfl rfl rfl (fun w => y_fld (j' := 9) rfl) ?_
      refine dx_y 10 (by kernel_rfl) rfl rfl rfl (fun w ⟨m, hw⟩ => y_e1 (x0 := 9) hw rfl) ?_
      refine dx_u 11 (by kernel_rfl) rfl rfl rfl (fun w => y_move rfl) ?_
      refine dx_u 12 (by kernel_rfl) rfl rfl rfl (fun w => y_nilCheck rfl rfl) ?_
      refine dx_u 13 (by kernel_rfl) rfl rfl rfl (fun w => y_fld (j' := 0) rfl) ?_
      refine dx_u 14 (by kernel_rfl) rfl rfl rfl (fun w => y_fld (j' := 10) rfl) ?_
      refine dx_y 15 (by kernel_rfl) rfl rfl rfl (fun w ⟨m, hw⟩ => y_e1 (x0 := 10) hw rfl) ?_
      refine dx_close 16 (by kernel_rfl) rfl rfl ?_
      refine CK [.b a, .p p] hO rfl (fun k' hx hr hO' => join_spec hg (by simp only [setLinks, List.length_set, joinL_len]) (by omega) (by omega) (by omega) (hO := hO')) ?_
      rintro _ _ w ⟨rfl, rfl⟩ hO
      simp only [List.cons_append, List.nil_append] at hO
      refine o_done ?_
      refine da_end (by kernel_rfl) ?_
      refine K3 (K0 ?_)
      have hgj : Gs p (joinL A (at_ A id.toNat).Node.Parent (at_ A id.toNat).Node.Prev (at_ A id.toNat).Node.Next).length := by rw [joinL_len]; exact hg
      have hlj : id.toNat < (joinL A (at_ A id.toNat).Node.Parent (at_ A id.toNat).Node.Prev (at_ A id.toNat).Node.Next).length := by rw [joinL_len]; omega
      refine K1 ?_
      refine l_y rfl rfl (y_move rfl) ?_
      refine l_y rfl rfl (y_move rfl) ?_
      refine l_y rfl rfl (y_move rfl) ?_
      refine l_y rfl rfl (y_nilCheck rfl rfl) ?_
      refine l_y rfl rfl (y_fld (j' := 0) rfl) ?_
      refine l_y rfl rfl (y_fld (j' := 6) rfl) ?_
      refine s_e1 (x0 := 6) hO rfl rfl (fun w hO => ?_)
      refine l_y rfl rfl (y_nilCheck rfl rfl) ?_
      refine l_y rfl rfl (y_fld (j' := 0) rfl) ?_
      refine l_y rfl rfl (y_fld (j' := 9) rfl) ?_
      refine s_e1 (x0 := 9) hO rfl rfl (fun w hO => ?_)
      simp only [at_set_eq hlj, List.set_set] at hO
      refine l_y rfl rfl (y_nilCheck rfl rfl) ?_
      refine l_y rfl rfl (y_fld (j' := 0) rfl) ?_
      refine l_y rfl rfl (y_fld (j' := 10) rfl) ?_
      refine s_e1 (x0 := 10) hO rfl rfl (fun w hO => ?_)
      simp only [at_set_eq hlj, List.set_set] at hO
      refine K2 (K3 (K0 (K1 ?_)))
      refine l_y rfl rfl (y_assign rfl) ?_
      refine K2 (K3 (K6 ?_))
      have e2 : unlinkL A id = (0, setLinks (joinL A (at_ A id.toNat).Node.Parent (at_ A id.toNat).Node.Prev (at_ A id.toNat).Node.Next) id (-1) (-1) (-1)) := by
        unfold unlinkL; rw [if_neg (by simp [*]), if_neg h6_5]
      exact fin1 rfl rfl ⟨_, ⟨by rw [e2], by rw [e2]; rfl⟩, hO⟩
end Go.Proofs.Ythkmnohghpdjhaa
end
section
set_option linter.unusedVariables false
set_option linter.unusedSimpArgs false
set_option maxRecDepth 100000
namespace Go.Proofs.Ythkmnohghpdjhaa
open Go Go.Hb Go.RowKit
def AttrsOk (A : List Node_one) : Prop := ∀ i, i < A.length → (at_ A i).Node.Attrs.length ≤ 1024
def setAttrs (o : Node_one) (p : Option Addr) (l : List Api_attr) (c : Nat) : Node_one := { o with Node := { o.Node with AttrsP := p, Attrs := l, AttrsC := c } }
end Go.Proofs.Ythkmnohghpdjhaa
end
section
set_option linter.unusedVariables false
set_option linter.unusedSimpArgs false
set_option maxRecDepth 100000
namespace Go.Proofs.Ythkmnohghpdjhaa
open Go Go.Hb Go.RowKit
instance (priority := high) AtK.ho (a : Nat) (A : List Node_one) (l : List HP) : AtK (arenaL a A :: l) (.o a) (arenaL a A) l := ⟨.hd _ l⟩
def textN (s : ByteArray) : Api_node := ⟨2, 0, ⟨#[]⟩, none, [], 0, s, ⟨#[]⟩, 0, 0, 0, 0, 0, 0⟩
def commentN (s : ByteArray) : Api_node := ⟨3, 0, ⟨#[]⟩, none, [], 0, s, ⟨#[]⟩, 0, 0, 0, 0, 0, 0⟩
def doctypeN (n p s : ByteArray) : Api_node := ⟨4, 0, n, none, [], 0, p, s, 0, 0, 0, 0, 0, 0⟩
def fragmentN : Api_node := ⟨5, 0, ⟨#[]⟩, none, [], 0, ⟨#[]⟩, ⟨#[]⟩, 0, 0, 0, 0, 0, 0⟩
def documentN : Api_node := ⟨0, 0, ⟨#[]⟩, none, [], 0, ⟨#[]⟩, ⟨#[]⟩, 0, 0, 0, 0, 0, 0⟩
def elementN (q : Option Addr) (d : Nat) (sp : Int) (nm : ByteArray) (xs : List Api_attr) : Api_node := ⟨1, sp, nm, q, xs, d, ⟨#[]⟩, ⟨#[]⟩, 0, 0, 0, 0, 0, 0⟩
theorem nil_attrs {k : Ctx} {w : World} {l : List HP} (hO : Own k w l) : Own k w (sls none 0 63 4 Api_attr.cells ([] : List Api_attr) :: l) := sl_nil _ _ hO
theorem Text_spec {k : Ctx} {w : World} {a : Nat} {A : List Node_one} {s : ByteArray} (hn : 0 < A.length) (hc : A.length ≤ 32768) (hO : Own k w [arenaL a A]) :
    Tri Try.prog 12 #[.pointer (some ⟨a, 0, none⟩), .string s] k w fun v m => v = .tuple #[.int .i64 (addL A (textN s) [s]).1, .int .i64 (addL A (textN s) [s]).2.1] ∧ m = [arenaL a (addL A (textN s) [s]).2.2] := by
  refine enter (args := [.pointer (some ⟨a, 0, none⟩), .string s]) Try.func12 rfl rfl ?_
  have hO := nil_attrs hO
  refine K0 (K1 ?_)
  refine l_y rfl rfl (y_assign rfl) ?_
  refine l_y rfl rfl (y_assign rfl) ?_
  refine K2 (K3 (K0 (K1 ?_)))
  refine l_y rfl rfl (y_move rfl) ?_
  refine l_y rfl rfl (y_move rfl) ?_
  refine s_build (parts := [(0, .const (.int .i64 2)), (4, .tmp 7)]) (cs := [.int .i64 2, .int .i64 0, .string ⟨#[]⟩, .slice none 0 0, .string s, .string ⟨#[]⟩, .int .i64 0, .int .i64 0, .int .i64 0, .int .i64 0, .int .i64 0, .int .i64 0]) rfl rfl (fun a ha => partsOf_sound ha _ _ rfl) (by kernel_rfl) ?_
  refine l_y rfl rfl (y_move rfl) ?_
  refine s_lit (parts := [(0, .tmp 9)]) (enc := eS) [s] [.string s] hO rfl (fun b10 w hO => ?_)
  refine CK [.o a, .p none] hO rfl (fun k' hx hr hO' => add_spec (n := textN s) (ts := [s]) hn hc (sls_roK hr (sls_fct hO)) (by simp) (hO := hO')) ?_
  rintro _ _ w ⟨rfl, rfl⟩ hO
  refine l_y rfl rfl (y_extract rfl rfl) ?_
  refine l_y rfl rfl (y_extract rfl rfl) ?_
  refine l_y rfl rfl (y_assign rfl) ?_
  refine l_y rfl rfl (y_assign rfl) ?_
  refine K2 (K3 (K6 ?_))
  exact fin2 rfl rfl rfl ⟨_, ⟨rfl, rfl⟩, hO.one⟩
theorem Comment_spec {k : Ctx} {w : World} {a : Nat} {A : List Node_one} {s : ByteArray} (hn : 0 < A.length) (hc : A.length ≤ 32768) (hO : Own k w [arenaL a A]) :
    Tri Try.prog 43 #[.pointer (some ⟨a, 0, none⟩), .string s] k w fun v m => v = .tuple #[.int .i64 (addL A (commentN s) [s]).1, .int .i64 (addL A (commentN s) [s]).2.1] ∧ m = [arenaL a (addL A (commentN s) [s]).2.2] := by
  refine enter (args := [.pointer (some ⟨a, 0, none⟩), .string s]) Try.func43 rfl rfl ?_
  have hO := nil_attrs hO
  refine K0 (K1 ?_)
  refine l_y rfl rfl (y_assign rfl) ?_
  refine l_y rfl rfl (y_assign rfl) ?_
  refine K2 (K3 (K0 (K1 ?_)))
  refine l_y rfl rfl (y_move rfl) ?_
  refine l_y rfl rfl (y_move rfl) ?_
  refine s_build (parts := [(0, .const (.int .i64 3)), (4, .tmp 7)]) (cs := [.int .i64 3, .int .i64 0, .string ⟨#[]⟩, .slice none 0 0, .string s, .string ⟨#[]⟩, .int .i64 0, .int .i64 0, .int .i64 0, .int .i64 0, .int .i64 0, .int .i64 0]) rfl rfl (fun a ha => partsOf_sound ha _ _ rfl) (by kernel_rfl) ?_
  refine l_y rfl rfl (y_move rfl) ?_
  refine s_lit (parts := [(0, .tmp 9)]) (enc := eS) [s] [.string s] hO rfl (fun b10 w hO => ?_)
  refine CK [.o a, .p none] hO rfl (fun k' hx hr hO' => add_spec (n := commentN s) (ts := [s]) hn hc (sls_roK hr (sls_fct hO)) (by simp) (hO := hO')) ?_
  rintro _ _ w ⟨rfl, rfl⟩ hO
  refine l_y rfl rfl (y_extract rfl rfl) ?_
  refine l_y rfl rfl (y_extract rfl rfl) ?_
  refine l_y rfl rfl (y_assign rfl) ?_
  refine l_y rfl rfl (y_assign rfl) ?_
  refine K2 (K3 (K6 ?_))
  exact fin2 rfl rfl rfl ⟨_, ⟨rfl, rfl⟩, hO.one⟩
theorem Doctype_spec {k : Ctx} {w : World} {a : Nat} {A : List Node_one} {n p s : ByteArray} (hn : 0 < A.length) (hc : A.length ≤ 32768) (hO : Own k w [arenaL a A]) :
    Tri Try.prog 45 #[.pointer (some ⟨a, 0, none⟩), .string n, .string p, .string s] k w fun v m => v = .tuple #[.int .i64 (addL A (doctypeN n p s) [n, p, s]).1, .int .i64 (addL A (doctypeN n p s) [n, p, s]).2.1] ∧ m = [arenaL a (addL A (doctypeN n p s) [n, p, s]).2.2] := by
  refine enter (args := [.pointer (some ⟨a, 0, none⟩), .string n, .string p, .string s]) Try.func45 rfl rfl ?_
  have hO := nil_attrs hO
  refine K0 (K1 ?_)
  refine l_y rfl rfl (y_assign rfl) ?_
  refine l_y rfl rfl (y_assign rfl) ?_
  refine K2 (K3 (K0 (K1 ?_)))
  refine l_y rfl rfl (y_move rfl) ?_
  refine l_y rfl rfl (y_move rfl) ?_
  refine l_y rfl rfl (y_move rfl) ?_
  refine l_y rfl rfl (y_move rfl) ?_
  refine s_build (parts := [(0, .const (.int .i64 4)), (2, .tmp 11), (4, .tmp 12), (5, .tmp 13)]) (cs := [.int .i64 4, .int .i64 0, .string n, .slice none 0 0, .string p, .string s, .int .i64 0, .int .i64 0, .int .i64 0, .int .i64 0, .int .i64 0, .int .i64 0]) rfl rfl (fun a ha => partsOf_sound ha _ _ rfl) (by kernel_rfl) ?_
  refine l_y rfl rfl (y_move rfl) ?_
  refine l_y rfl rfl (y_move rfl) ?_
  refine l_y rfl rfl (y_move rfl) ?_
  refine s_lit (parts := [(0, .tmp 15), (1, .tmp 16), (2, .tmp 17)]) (enc := eS) [n, p, s] [.string n, .string p, .string s] hO rfl (fun b18 w hO => ?_)
  refine CK [.o a, .p none] hO rfl (fun k' hx hr hO' => add_spec (n := doctypeN n p s) (ts := [n, p, s]) hn hc (sls_roK hr (sls_fct hO)) (by simp) (hO := hO')) ?_
  rintro _ _ w ⟨rfl, rfl⟩ hO
  refine l_y rfl rfl (y_extract rfl rfl) ?_
  refine l_y rfl rfl (y_extract rfl rfl) ?_
  refine l_y rfl rfl (y_assign rfl) ?_
  refine l_y rfl rfl (y_assign rfl) ?_
  refine K2 (K3 (K6 ?_))
  exact fin2 rfl rfl rfl ⟨_, ⟨rfl, rfl⟩, hO.one⟩
theorem Fragment_spec {k : Ctx} {w : World} {a : Nat} {A : List Node_one} (hn : 0 < A.length) (hc : A.length ≤ 32768) (hO : Own k w [arenaL a A]) :
    Tri Try.prog 29 #[.pointer (some ⟨a, 0, none⟩)] k w fun v m => v = .tuple #[.int .i64 (addL A fragmentN []).1, .int .i64 (addL A fragmentN []).2.1] ∧ m = [arenaL a (addL A fragmentN []).2.2] := by
  refine enter (args := [.pointer (some ⟨a, 0, none⟩)]) Try.func29 rfl rfl ?_
  have hO := nil_attrs hO
  refine K0 (K1 ?_)
  refine l_y rfl rfl (y_assign rfl) ?_
  refine l_y rfl rfl (y_assign rfl) ?_
  refine K2 (K3 (K0 (K1 ?_)))
  refine l_y rfl rfl (y_move rfl) ?_
  refine s_build (parts := [(0, .const (.int .i64 5))]) (cs := [.int .i64 5, .int .i64 0, .string ⟨#[]⟩, .slice none 0 0, .string ⟨#[]⟩, .string ⟨#[]⟩, .int .i64 0, .int .i64 0, .int .i64 0, .int .i64 0, .int .i64 0, .int .i64 0]) rfl rfl (fun a ha => partsOf_sound ha _ _ rfl) (by kernel_rfl) ?_
  refine CK [.o a, .p none] hO rfl (fun k' hx hr hO' => add_spec (n := fragmentN) (ts := []) hn hc (Sli.nil rfl) (by simp) (hO := hO')) ?_
  rintro _ _ w ⟨rfl, rfl⟩ hO
  refine l_y rfl rfl (y_extract rfl rfl) ?_
  refine l_y rfl rfl (y_extract rfl rfl) ?_
  refine l_y rfl rfl (y_assign rfl) ?_
  refine l_y rfl rfl (y_assign rfl) ?_
  refine K2 (K3 (K6 ?_))
  exact fin2 rfl rfl rfl ⟨_, ⟨rfl, rfl⟩, hO.one⟩
theorem New_spec {k : Ctx} {w : World} (hO : Own k w []) :
    Tri Try.prog 9 #[] k w fun v m => ∃ a, v = .pointer (some ⟨a, 0, none⟩) ∧ m = [arenaL a [blankN documentN]] := by
  refine enter (args := []) Try.func9 rfl rfl ?_
  have hO := nil_attrs hO
  refine K0 (K1 ?_)
  refine l_y rfl rfl (y_assign rfl) ?_
  refine K2 (K3 (K0 (K1 ?_)))
  refine s_build (parts := [(0, .const (.int .i64 0))]) (cs := [.int .i64 0, .int .i64 0, .string ⟨#[]⟩, .slice none 0 0, .string ⟨#[]⟩, .string ⟨#[]⟩, .int .i64 0, .int .i64 0, .int .i64 0, .int .i64 0, .int .i64 0, .int .i64 0]) rfl rfl (fun a ha => partsOf_sound ha _ _ rfl) (by kernel_rfl) ?_
  refine CK [] hO rfl (fun k' hx hr hO' => blank_spec (n := documentN) (hO := hO')) ?_
  rintro _ _ w ⟨rfl, rfl⟩ hO
  simp only [List.nil_append] at hO
  refine s_lit (parts := [(0, .tmp 2)]) (enc := Node_one.cells) [(blankN documentN)] [.agg [.int .i64 (blankN documentN).Node.Kind, .int .i64 (blankN documentN).Node.Space, .string (blankN documentN).Node.Name, .slice (blankN documentN).Node.AttrsP (blankN documentN).Node.Attrs.length (blankN documentN).Node.AttrsC, .string (blankN documentN).Node.Data, .string (blankN documentN).Node.System, .int .i64 (blankN documentN).Node.Parent, .int .i64 (blankN documentN).Node.First, .int .i64 (blankN documentN).Node.Last, .int .i64 (blankN documentN).Node.Prev, .int .i64 (blankN documentN).Node.Next, .int .i64 (blankN documentN).Node.Inner, .int .i64 (blankN documentN).host].toArray] hO rfl (fun b3 w hO => ?_)
  refine s_build (parts := [(0, .tmp 3)]) (cs := [.slice (some ⟨b3, 0, none⟩) 1 1]) rfl rfl (fun a ha => partsOf_sound ha _ _ rfl) (by kernel_rfl) ?_
  refine s_box (vs := [.slice (some ⟨b3, 0, none⟩) 1 1]) hO rfl rfl rfl (by rfl) fun b5 w hO => ?_
  refine l_y rfl rfl (y_assign rfl) ?_
  refine K2 (K3 (K6 ?_))
  refine fin1 rfl rfl ⟨_, ⟨_, rfl, rfl⟩, ?_⟩
  have hO : Own k w ([attrsP (blankN documentN)] ++ _) := hO.ks [.p none]
  have hO := (Own.shut hO).ks [.s, .b b5, .p (some ⟨b3, 0, none⟩)]
  exact (arenaL_shut (A := [blankN documentN]) hO).one
def templateS : ByteArray := ⟨#[116, 101, 109, 112, 108, 97, 116, 101]⟩
def tmpl (sp : Int) (nm : ByteArray) : Prop := sp = 0 ∧ nm = templateS
instance (sp : Int) (nm : ByteArray) : Decidable (tmpl sp nm) := by unfold tmpl; infer_instance
def attrTexts (xs : List Api_attr) : List ByteArray := xs.flatMap fun x => [x.Prefix, x.Name, x.Value]
def setInner (A : List Node_one) (i v : Int) : List Node_one := A.set i.toNat { at_ A i.toNat with Node := { (at_ A i.toNat).Node with Inner := v } }
def setHost (A : List Node_one) (i v : Int) : List Node_one := A.set i.toNat { at_ A i.toNat with host := v }
def elementL (A : List Node_one) (sp : Int) (nm : ByteArray) (xs : List Api_attr) (q : Option Addr) (d : Nat) : Int × Int × List Node_one :=
  if sp < 0 ∨ 2 < sp then (0, 1, A) else if 1024 < xs.length then (0, 2, A)
  else if tmpl sp nm ∧ A.length = 32767 then (0, 9, A)
  else if longB (nm :: attrTexts xs) = true then (0, 2, A) else if 32768 ≤ A.length then (0, 9, A)
  else if tmpl sp nm then (A.length, 0, setHost (setInner (A ++ [blankN (elementN q d sp nm xs)] ++ [blankN fragmentN]) A.length (A ++ [blankN (elementN q d sp nm xs)]).length) (A ++ [blankN (elementN q d sp nm xs)]).length A.length)
  else (A.length, 0, A ++ [blankN (elementN q d sp nm xs)])
theorem attrTexts_len {xs : List Api_attr} : (attrTexts xs).length = 3 * xs.length := by
  induction xs with
  | nil => rfl
  | cons x xs ih => simp only [attrTexts, List.flatMap_cons, List.length_append, List.length_cons, List.length_nil] at ih ⊢; omega
theorem addC_spec {k : Ctx} {w : World} {a : Nat} {A : List Node_one} {n : Api_node} {ts : List ByteArray} {tp : Option Addr} {tc : Nat} (hn : 0 < A.length) (hc : A.length ≤ 32768) (ht : Sli (Ro k) (.slice tp ts.length tc) (ts.map eS)) (htl : ts.length ≤ 1000000) (hO : Own k w [arenaL a A, attrsP (blankN n)]) :
    Tri Try.prog 27 #[.pointer (some ⟨a, 0, none⟩), .agg (Api_node.cells n).toArray, .slice tp ts.length tc] k w fun v m =>
      (longB ts = true ∧ v = .tuple #[.int .i64 0, .int .i64 2] ∧ m = [arenaL a A]) ∨ (longB ts = false ∧ 32768 ≤ A.length ∧ v = .tuple #[.int .i64 0, .int .i64 9] ∧ m = [arenaL a A]) ∨ (longB ts = false ∧ A.length < 32768 ∧ v = .tuple #[.int .i64 ((A.length : Nat) : Int), .int .i64 0] ∧ m = [arenaL a (A ++ [blankN n])]) := by
  refine (add_spec hn hc ht htl hO).mono ?_
  rintro v m ⟨rfl, rfl⟩
  cases hl : longB ts with
  | true => exact .inl ⟨rfl, by simp [addL, hl], by simp [addL, hl]⟩
  | false =>
    by_cases h9 : 32768 ≤ A.length
    · exact .inr (.inl ⟨rfl, h9, by simp [addL, hl, h9], by simp [addL, hl, h9]⟩)
    · exact .inr (.inr ⟨rfl, by omega, by simp [addL, hl, h9], by simp [addL, hl, h9]⟩)
theorem FragmentOk_spec {k : Ctx} {w : World} {a : Nat} {A : List Node_one} (hn : 0 < A.length) (hc : A.length < 32768) (hO : Own k w [arenaL a A]) :
    Tri Try.prog 29 #[.pointer (some ⟨a, 0, none⟩)] k w fun v m => v = .tuple #[.int .i64 ((A.length : Nat) : Int), .int .i64 0] ∧ m = [arenaL a (A ++ [blankN fragmentN])] := by
  refine (Fragment_spec hn (by omega) hO).mono ?_
  rintro v m ⟨rfl, rfl⟩
  have e : addL A fragmentN [] = ((A.length : Int), 0, A ++ [blankN fragmentN]) := by rw [addL, if_neg (by simp [longB]), if_neg (by omega)]
  rw [e]; exact ⟨rfl, rfl⟩
set_option maxHeartbeats 4000000 in
theorem Element_spec {k : Ctx} {w : World} {a : Nat} {A : List Node_one} {sp : Int} {nm : ByteArray} {xs : List Api_attr} {ap : Option Addr} {ac : Nat} (hn : 0 < A.length) (hc : A.length ≤ 32768) (hs : Sli (Ro k) (.slice ap xs.length ac) (xs.map Api_attr.cells)) (hO : Own k w [arenaL a A]) :
    Tri Try.prog 10 #[.pointer (some ⟨a, 0, none⟩), .int .i64 sp, .string nm, .slice ap xs.length ac] k w fun v m => ∃ q d, v = .tuple #[.int .i64 (elementL A sp nm xs q d).1, .int .i64 (elementL A sp nm xs q d).2.1] ∧ m = [arenaL a (elementL A sp nm xs q d).2.2] := by
  refine enter (args := [.pointer (some ⟨a, 0, none⟩), .int .i64 sp, .string nm, .slice ap xs.length ac]) Try.func10 rfl rfl ?_
  have hgs := sli_gs hs
  obtain ⟨p, c, hg, hO⟩ := arenaL_open hO
  refine K0 (K1 ?_)
  refine l_y rfl rfl (y_assign rfl) ?_
  refine l_y rfl rfl (y_assign rfl) ?_
  refine K2 (K3 (K0 (K4 (K0 (K1 ?_)))))
  refine l_y rfl rfl (y_move rfl) ?_
  refine CK [.b a, .p p] hO rfl (fun k' hx hr hO' => none_spec (hO := hO')) ?_
  rintro _ _ w ⟨rfl, rfl⟩ hO
  simp only [List.cons_append, List.nil_append] at hO
  refine l_y rfl rfl (y_assign rfl) ?_
  refine K2 (K3 (L9 (K0 (K1 ?_))))
  refine l_y rfl rfl (y_move rfl) ?_
  refine Z0 (fun h3_1 => ?_) (fun h3_1 => ?_)
  · refine l_y rfl rfl (y_move rfl) ?_
    repeat refine M2 ?_
    refine l_y rfl rfl (y_pick_t rfl rfl) ?_
    refine l_y rfl rfl (y_assign rfl) ?_
    refine K2 (K3 (L8 (K0 (K1 ?_))))
    refine l_y rfl rfl (y_assign rfl) ?_
    refine l_y rfl rfl (y_assign rfl) ?_
    refine K2 (K3 (K6 (L0 (K9 ?_))))
    have hO := (arenaL_shut (hO.ks [.s, .b a, .p p])).one
    have e : elementL A sp nm xs none 0 = (0, 1, A) := by rw [elementL, if_pos (by omega)]
    exact fin2 rfl rfl rfl ⟨_, ⟨none, 0, by rw [e], rfl⟩, by rw [e]; exact hO⟩
  · refine l_y rfl rfl (y_move rfl) ?_
    refine l_y rfl rfl (y_move rfl) ?_
    refine Z0 (fun h3_4 => ?_) (fun h3_4 => ?_)
    · refine l_y rfl rfl (y_pick_f rfl rfl) ?_
      refine l_y rfl rfl (y_assign rfl) ?_
      refine K2 (K3 (L8 (K0 (K1 ?_))))
      refine l_y rfl rfl (y_assign rfl) ?_
      refine l_y rfl rfl (y_assign rfl) ?_
      refine K2 (K3 (K6 (L0 (K9 ?_))))
      have hO := (arenaL_shut (hO.ks [.s, .b a, .p p])).one
      have e : elementL A sp nm xs none 0 = (0, 1, A) := by rw [elementL, if_pos (by omega)]
      exact fin2 rfl rfl rfl ⟨_, ⟨none, 0, by rw [e], rfl⟩, by rw [e]; exact hO⟩
    · refine l_y rfl rfl (y_pick_f rfl rfl) ?_
      refine l_y rfl rfl (y_assign rfl) ?_
      refine K2 (K3 (L9 (K0 (K1 ?_))))
      refine l_y rfl rfl (y_move rfl) ?_
      refine l_y rfl rfl (y_lenL rfl) ?_
      refine Z0 (fun h5_2 => ?_) (fun h5_2 => ?_)
      · refine l_y rfl rfl (y_assign rfl) ?_
        refine K2 (K3 (L8 (K0 (K1 ?_))))
        refine l_y rfl rfl (y_assign rfl) ?_
        refine l_y rfl rfl (y_assign rfl) ?_
        refine K2 (K3 (K6 (L0 (K9 ?_))))
        have hO := (arenaL_shut (hO.ks [.s, .b a, .p p])).one
        have e : elementL A sp nm xs none 0 = (0, 2, A) := by rw [elementL, if_neg (by omega), if_pos (by omega)]
        exact fin2 rfl rfl rfl ⟨_, ⟨none, 0, by rw [e], rfl⟩, by rw [e]; exact hO⟩
      · refine l_y rfl rfl (y_assign rfl) ?_
        refine K2 (K3 (L9 (K5 (K8 (K3 (K0 (K1 ?_)))))))
        refine l_y rfl rfl (y_move rfl) ?_
        refine s_lit (parts := [(0, .tmp 32)]) (enc := eS) [nm] [.string nm] hO rfl (fun b33 w hO => ?_)
        refine l_y rfl rfl (y_assign rfl) ?_
        refine K2 (K3 (K0 (K0 (K1 ?_))))
        refine l_y rfl rfl (y_move rfl) ?_
        refine l_y rfl rfl (y_lenL rfl) ?_
        refine l_y rfl rfl (y_move rfl) ?_
        refine K2 (K3 (K4 ?_))
        refine c_rounds (X := Nat × Option Addr × Nat × List ByteArray) (fun x => [(0, .pointer (some ⟨a, 0, none⟩)), (1, .int .i64 sp), (2, .string nm), (3, .slice ap xs.length ac), (8, .int .i64 0), (9, .int .i64 0), (10, .slice x.2.1 x.2.2.2.length x.2.2.1), (34, .slice ap xs.length ac), (35, .int .i64 ((xs.length : Nat) : Int)), (36, .int .i64 (x.1 : Int))]) (fun x w => Own k w [arB a p A.length c, arS p c A, sep (A.map attrsP), sls x.2.1 x.2.2.1 9 1 eS x.2.2.2] ∧ (x.1 ≤ xs.length) ∧ (x.2.2.2 = nm :: attrTexts (xs.take x.1))) (fun x => xs.length - x.1) ((0, some ⟨b33, 0, none⟩, 1, [nm])) ⟨rfl, rfl, rfl, rfl, rfl, rfl, rfl, rfl, rfl, rfl, trivial⟩ ⟨hO.only [.b a, .p p, .s, .p (some ⟨b33, 0, none⟩)], Nat.zero_le _, rfl⟩ ?_
        rintro x w m hm ⟨hO, hi, ht⟩
        have hxl : xs.length ≤ 1024 := by omega
        have htl : x.2.2.2.length = 1 + 3 * x.1 := by rw [ht, List.length_cons, attrTexts_len, List.length_take]; omega
        refine K0 (K1 ?_)
        refine Z0 (fun h9_0 => ?_) (fun h9_0 => ?_)
        · refine K2 (K3 (K0 (L8 (K5 (K3 (K0 (K4 (K0 (K1 ?_)))))))))
          refine l_y rfl rfl (y_idx rfl rfl) ?_
          refine l_y rfl rfl (y_rA (x0 := 0) (enc := Api_attr.cells) (xs := xs) (cs := [.int .i64 (at_ xs ((x.1 : Int) : Int).toNat).Space, .string (at_ xs ((x.1 : Int) : Int).toNat).Prefix, .string (at_ xs ((x.1 : Int) : Int).toNat).Name, .string (at_ xs ((x.1 : Int) : Int).toNat).Value]) hO rfl) ?_
          refine s_alloc (vs := [.int .i64 0, .string ⟨#[]⟩, .string ⟨#[]⟩, .string ⟨#[]⟩]) hO rfl rfl rfl fun b12 w hO => ?_
          refine Y3 hO rfl rfl (fun w hO => ?_)
          refine K2 (K3 (K1 ?_))
          refine l_y rfl rfl (y_move rfl) ?_
          refine l_y rfl rfl (y_fldb (o' := 1) rfl) ?_
          refine l_y rfl rfl (D5 hO rfl) ?_
          refine l_y rfl rfl (y_fldb (o' := 2) rfl) ?_
          refine l_y rfl rfl (D5 hO rfl) ?_
          refine l_y rfl rfl (y_fldb (o' := 3) rfl) ?_
          refine l_y rfl rfl (D5 hO rfl) ?_
          refine s_lit (parts := [(0, .tmp 42), (1, .tmp 44), (2, .tmp 46)]) (enc := eS) [(at_ xs ((x.1 : Int) : Int).toNat).Prefix, (at_ xs ((x.1 : Int) : Int).toNat).Name, (at_ xs ((x.1 : Int) : Int).toNat).Value] [.string (at_ xs ((x.1 : Int) : Int).toNat).Prefix, .string (at_ xs ((x.1 : Int) : Int).toNat).Name, .string (at_ xs ((x.1 : Int) : Int).toNat).Value] hO rfl (fun b47 w hO => ?_)
          refine s_app hO rfl rfl (src_own hO) (fun p48 c48 w hO gs48 => ?_)
          refine l_y rfl rfl (y_assign rfl) ?_
          refine K2 (K8 (K3 (K1 ?_)))
          refine l_y rfl rfl (D4) ?_
          refine l_y rfl rfl (y_move rfl) ?_
          refine K2 ?_
          exact q_next ((x.1 + 1, p48, c48, _)) ⟨rfl, rfl, rfl, rfl, rfl, rfl, rfl, rfl, rfl, rfl, trivial⟩ ⟨hO.only [.b a, .p p, .s, .p p48], by dsimp only; omega, by dsimp only; rw [ht, take_succ_at (by omega)]; simp only [attrTexts, List.flatMap_append, List.flatMap_cons, List.flatMap_nil, List.append_nil, List.cons_append]; rfl⟩ (by dsimp only; omega)
        · refine K2 (K3 (K0 (L9 (K7 (L1 (L1 (L2 (K3 (K0 ?_)))))))))
          obtain ⟨i, tp, tc, ts⟩ := x
          dsimp only at hi ht hO htl hm h9_0
          have hie : i = xs.length := by omega
          subst hie
          rw [List.take_length] at ht
          have htt : sp = 0 ∧ nm = templateS ↔ tmpl sp nm := Iff.rfl
          refine K1 ?_
          refine l_y rfl rfl (y_move rfl) ?_
          refine Z0 (fun h13_1 => ?_) (fun h13_1 => ?_)
          · refine l_y rfl rfl (y_move rfl) ?_
            refine l_y rfl rfl (y_move rfl) ?_
            refine Z2 (fun h13_4 => ?_) (fun h13_4 => ?_)
            · refine l_y rfl rfl (y_pick_t rfl rfl) ?_
              refine l_y rfl rfl (y_assign rfl) ?_
              refine K2 (K3 (K0 (K0 (K1 ?_))))
              refine l_y rfl rfl (y_move rfl) ?_
              refine l_y rfl rfl (y_move rfl) ?_
              refine l_y rfl rfl (y_move rfl) ?_
              refine l_y rfl rfl (y_nilCheck rfl rfl) ?_
              refine l_y rfl rfl (y_fldb (o' := 0) rfl) ?_
              refine l_y rfl rfl (D5 hO rfl) ?_
              refine l_y rfl rfl (y_lenL rfl) ?_
              refine Z0 (fun h14_7 => ?_) (fun h14_7 => ?_)
              · refine l_y rfl rfl (y_pick_t rfl rfl) ?_
                refine K2 (K3 (L8 (K0 (K1 ?_))))
                refine l_y rfl rfl (y_assign rfl) ?_
                refine l_y rfl rfl (y_assign rfl) ?_
                refine K2 (K3 (K6 (K9 ?_)))
                have hO := (arenaL_shut (hO.ks [.s, .b a, .p p])).one
                have e : elementL A sp nm xs none 0 = (0, 9, A) := by rw [elementL, if_neg (by omega), if_neg (by omega), if_pos ⟨⟨h13_1, h13_4⟩, by omega⟩]
                exact fin2 rfl rfl rfl ⟨_, ⟨none, 0, by rw [e], rfl⟩, by rw [e]; exact hO⟩
              · refine l_y rfl rfl (y_pick_t rfl rfl) ?_
                refine K2 (K3 (L9 (K5 (K3 (K0 ?_)))))
                have hnt : ¬ (tmpl sp nm ∧ A.length = 32767) := by
                  rintro ⟨⟨q1, q2⟩, q3⟩
                  first | exact h13_1 q1 | exact h13_4 q2 | omega
                refine K1 ?_
                refine l_y rfl rfl (y_move rfl) ?_
                refine l_y rfl rfl (y_move rfl) ?_
                refine l_y rfl rfl (y_move rfl) ?_
                refine l_y rfl rfl (y_move rfl) ?_
                refine CK [] hO rfl (fun k' hx hr hO' => own_spec (hs.ext hO hx) (by omega) (hO := hO')) ?_
                rintro _ _ w ⟨b70, rfl, rfl⟩ hO
                simp only [List.cons_append, List.nil_append] at hO
                refine s_build (parts := [(0, .const (.int .i64 1)), (1, .tmp 67), (2, .tmp 68), (3, .tmp 70)]) (cs := [.int .i64 1, .int .i64 sp, .string nm, .slice (some ⟨b70, 0, none⟩) xs.length xs.length, .string ⟨#[]⟩, .string ⟨#[]⟩, .int .i64 0, .int .i64 0, .int .i64 0, .int .i64 0, .int .i64 0, .int .i64 0]) rfl rfl (fun a ha => partsOf_sound ha _ _ rfl) (by kernel_rfl) ?_
                refine l_y rfl rfl (y_move rfl) ?_
                have hO := arenaL_shut (hO.ks [.s, .b a, .p p])
                refine CK [.o a, .p (some ⟨b70, 0, none⟩)] hO rfl (fun k' hx hr hO' => addC_spec (n := elementN (some ⟨b70, 0, none⟩) xs.length sp nm xs) (ts := ts) hn hc (sls_roK hr (sls_fct (p := tp) hO)) (by omega) (hO := hO')) ?_
                rintro _ _ w (⟨ha1, rfl, rfl⟩ | ⟨ha1, ha2, rfl, rfl⟩ | ⟨ha1, ha2, rfl, rfl⟩) hO
                · simp only [List.cons_append, List.nil_append] at hO
                  refine l_y rfl rfl (y_move rfl) ?_
                  refine l_y rfl rfl (y_extract rfl rfl) ?_
                  refine l_y rfl rfl (y_extract rfl rfl) ?_
                  refine l_y rfl rfl (y_assign rfl) ?_
                  refine l_y rfl rfl (y_assign rfl) ?_
                  refine K2 (K3 (K0 (K0 (K1 ?_))))
                  refine l_y rfl rfl (y_move rfl) ?_
                  refine N3 ?_
                  refine l_y rfl rfl (y_move rfl) ?_
                  repeat refine M2 ?_
                  refine l_y rfl rfl (y_pick_f rfl rfl) ?_
                  refine K2 (K3 (L9 (K5 (K3 (K0 (K1 ?_))))))
                  refine l_y rfl rfl (y_move rfl) ?_
                  refine l_y rfl rfl (y_move rfl) ?_
                  refine l_y rfl rfl (y_assign rfl) ?_
                  refine l_y rfl rfl (y_assign rfl) ?_
                  refine K2 (K3 (K6 ?_))
                  have e : elementL A sp nm xs none 0 = (0, 2, A) := by rw [elementL, if_neg (by omega), if_neg (by omega), if_neg hnt, if_pos (ht ▸ ha1)]
                  exact fin2 rfl rfl rfl ⟨_, ⟨none, 0, by rw [e], rfl⟩, by rw [e]; exact hO.one⟩
                · simp only [List.cons_append, List.nil_append] at hO
                  refine l_y rfl rfl (y_move rfl) ?_
                  refine l_y rfl rfl (y_extract rfl rfl) ?_
                  refine l_y rfl rfl (y_extract rfl rfl) ?_
                  refine l_y rfl rfl (y_assign rfl) ?_
                  refine l_y rfl rfl (y_assign rfl) ?_
                  refine K2 (K3 (K0 (K0 (K1 ?_))))
                  refine l_y rfl rfl (y_move rfl) ?_
                  refine N3 ?_
                  refine l_y rfl rfl (y_move rfl) ?_
                  repeat refine M2 ?_
                  refine l_y rfl rfl (y_pick_f rfl rfl) ?_
                  refine K2 (K3 (L9 (K5 (K3 (K0 (K1 ?_))))))
                  refine l_y rfl rfl (y_move rfl) ?_
                  refine l_y rfl rfl (y_move rfl) ?_
                  refine l_y rfl rfl (y_assign rfl) ?_
                  refine l_y rfl rfl (y_assign rfl) ?_
                  refine K2 (K3 (K6 ?_))
                  have e : elementL A sp nm xs none 0 = (0, 9, A) := by rw [elementL, if_neg (by omega), if_neg (by omega), if_neg hnt, if_neg (by rw [← ht, ha1]; simp), if_pos ha2]
                  exact fin2 rfl rfl rfl ⟨_, ⟨none, 0, by rw [e], rfl⟩, by rw [e]; exact hO.one⟩
                · simp only [List.cons_append, List.nil_append] at hO
                  refine l_y rfl rfl (y_move rfl) ?_
                  refine l_y rfl rfl (y_extract rfl rfl) ?_
                  refine l_y rfl rfl (y_extract rfl rfl) ?_
                  refine l_y rfl rfl (y_assign rfl) ?_
                  refine l_y rfl rfl (y_assign rfl) ?_
                  refine K2 (K3 (K0 (K0 (K1 ?_))))
                  refine l_y rfl rfl (y_move rfl) ?_
                  refine N2 ?_
                  refine l_y rfl rfl (y_move rfl) ?_
                  refine l_y rfl rfl (y_move rfl) ?_
                  refine l_y rfl rfl (y_pick_t rfl rfl) ?_
                  refine K2 (K3 (L8 (K0 (K1 ?_))))
                  refine l_y rfl rfl (y_move rfl) ?_
                  refine CK [.o a] hO rfl (fun k' hx hr hO' => FragmentOk_spec (by simp) (by simp; omega) (hO := hO')) ?_
                  rintro _ _ w ⟨rfl, rfl⟩ hO
                  simp only [List.cons_append, List.nil_append] at hO
                  refine l_y rfl rfl (y_move rfl) ?_
                  refine l_y rfl rfl (y_extract rfl rfl) ?_
                  refine l_y rfl rfl (y_extract rfl rfl) ?_
                  refine l_y rfl rfl (y_assign rfl) ?_
                  refine l_y rfl rfl (y_assign rfl) ?_
                  refine K2 (K3 ?_)
                  obtain ⟨p2, c2, hg2, hO⟩ := arenaL_open hO
                  have hl2 : (A ++ [blankN (elementN (some ⟨b70, 0, none⟩) xs.length sp nm xs)] ++ [blankN fragmentN]).length = A.length + 2 := by simp
                  have hl1 : (A ++ [blankN (elementN (some ⟨b70, 0, none⟩) xs.length sp nm xs)]).length = A.length + 1 := by simp
                  refine da_region (by intro c a d v w h; cases d <;> exact h) ?_
                  have hO := hO.drew
                  refine da_phase _ [15] (SO.ks [.b a] hO) ?_
                  refine dx_u 0 (by kernel_rfl) rfl rfl rfl (fun w => y_move rfl) ?_
                  refine dx_u 1 (by kernel_rfl) rfl rfl rfl (fun w => y_nilCheck rfl rfl) ?_
                  refine dx_u 2 (by kernel_rfl) rfl rfl rfl (fun w => y_fldb (o' := 0) rfl) ?_
                  refine dx_y 3 (by kernel_rfl) rfl rfl rfl (fun w ⟨m, hw⟩ => D5 hw rfl) ?_
                  refine dx_u 4 (by kernel_rfl) rfl rfl rfl (fun w => y_move rfl) ?_
                  refine dx_u 5 (by kernel_rfl) rfl rfl rfl (fun w => y_move rfl) ?_
                  refine dx_u 6 (by kernel_rfl) rfl rfl rfl (fun w => y_nilCheck rfl rfl) ?_
                  refine dx_u 7 (by kernel_rfl) rfl rfl rfl (fun w => y_fldb (o' := 0) rfl) ?_
                  refine dx_y 8 (by kernel_rfl) rfl rfl rfl (fun w ⟨m, hw⟩ => D5 hw rfl) ?_
                  refine dx_u 9 (by kernel_rfl) rfl rfl rfl (fun w => y_move rfl) ?_
                  refine dx_u 10 (by kernel_rfl) rfl rfl rfl (fun w => y_move rfl) ?_
                  refine dx_u 11 (by kernel_rfl) rfl rfl rfl (fun w => y_move rfl) ?_
                  refine dx_u 12 (by kernel_rfl) rfl rfl rfl (fun w => y_idx rfl rfl) ?_
                  refine dx_u 13 (by kernel_rfl) rfl rfl rfl (fun w => y_fld (j' := 0) rfl) ?_
                  refine dx_u 14 (by kernel_rfl) rfl rfl rfl (fun w => y_fld (j' := 11) rfl) ?_
                  refine dx_close 15 (by kernel_rfl) rfl rfl ?_
                  refine s_e1 (x0 := 11) hO rfl rfl (fun w hO => ?_)
                  refine o_done ?_
                  refine da_phase _ [18] (SO.ks [] hO) ?_
                  refine dx_u 16 (by kernel_rfl) rfl rfl rfl (fun w => y_idx rfl rfl) ?_
                  refine dx_u 17 (by kernel_rfl) rfl rfl rfl (fun w => y_fld (j' := 12) rfl) ?_
                  refine dx_close 18 (by kernel_rfl) rfl rfl ?_
                  refine s_e1 (x0 := 12) hO rfl rfl (fun w hO => ?_)
                  refine o_done ?_
                  refine da_end (by kernel_rfl) ?_
                  refine K3 (K0 (K1 ?_))
                  refine l_y rfl rfl (y_move rfl) ?_
                  refine l_y rfl rfl (y_move rfl) ?_
                  refine l_y rfl rfl (y_assign rfl) ?_
                  refine l_y rfl rfl (y_assign rfl) ?_
                  refine K2 (K3 (K6 ?_))
                  have e : elementL A sp nm xs (some ⟨b70, 0, none⟩) xs.length = ((A.length : Int), 0, setHost (setInner (A ++ [blankN (elementN (some ⟨b70, 0, none⟩) xs.length sp nm xs)] ++ [blankN fragmentN]) A.length (A ++ [blankN (elementN (some ⟨b70, 0, none⟩) xs.length sp nm xs)]).length) (A ++ [blankN (elementN (some ⟨b70, 0, none⟩) xs.length sp nm xs)]).length A.length) := by
                    rw [elementL, if_neg (by omega), if_neg (by omega), if_neg hnt, if_neg (by rw [← ht, ha1]; simp), if_neg (by omega), if_pos ⟨h13_1, h13_4⟩]
                  exact fin2 rfl rfl rfl ⟨_, ⟨some ⟨b70, 0, none⟩, xs.length, by rw [e], rfl⟩, by rw [e]; exact (arenaL_shut (hO.ks [.s, .b a, .p p2]) (by simp only [setHost, setInner]; rw [attrs_set, attrs_set] <;> rfl) (by simp [setHost, setInner])).one⟩
            · refine l_y rfl rfl (y_pick_t rfl rfl) ?_
              refine l_y rfl rfl (y_assign rfl) ?_
              refine K2 (K3 (K0 (K0 (K1 ?_))))
              refine l_y rfl rfl (y_move rfl) ?_
              refine l_y rfl rfl (y_move rfl) ?_
              repeat refine M2 ?_
              refine l_y rfl rfl (y_pick_f rfl rfl) ?_
              refine K2 (K3 (L9 (K5 (K3 (K0 ?_)))))
              have hnt : ¬ (tmpl sp nm ∧ A.length = 32767) := by
                rintro ⟨⟨q1, q2⟩, q3⟩
                first | exact h13_1 q1 | exact h13_4 q2 | omega
              refine K1 ?_
              refine l_y rfl rfl (y_move rfl) ?_
              refine l_y rfl rfl (y_move rfl) ?_
              refine l_y rfl rfl (y_move rfl) ?_
              refine l_y rfl rfl (y_move rfl) ?_
              refine CK [] hO rfl (fun k' hx hr hO' => own_spec (hs.ext hO hx) (by omega) (hO := hO')) ?_
              rintro _ _ w ⟨b70, rfl, rfl⟩ hO
              simp only [List.cons_append, List.nil_append] at hO
              refine s_build (parts := [(0, .const (.int .i64 1)), (1, .tmp 67), (2, .tmp 68), (3, .tmp 70)]) (cs := [.int .i64 1, .int .i64 sp, .string nm, .slice (some ⟨b70, 0, none⟩) xs.length xs.length, .string ⟨#[]⟩, .string ⟨#[]⟩, .int .i64 0, .int .i64 0, .int .i64 0, .int .i64 0, .int .i64 0, .int .i64 0]) rfl rfl (fun a ha => partsOf_sound ha _ _ rfl) (by kernel_rfl) ?_
              refine l_y rfl rfl (y_move rfl) ?_
              have hO := arenaL_shut (hO.ks [.s, .b a, .p p])
              refine CK [.o a, .p (some ⟨b70, 0, none⟩)] hO rfl (fun k' hx hr hO' => addC_spec (n := elementN (some ⟨b70, 0, none⟩) xs.length sp nm xs) (ts := ts) hn hc (sls_roK hr (sls_fct (p := tp) hO)) (by omega) (hO := hO')) ?_
              rintro _ _ w (⟨ha1, rfl, rfl⟩ | ⟨ha1, ha2, rfl, rfl⟩ | ⟨ha1, ha2, rfl, rfl⟩) hO
              · simp only [List.cons_append, List.nil_append] at hO
                refine l_y rfl rfl (y_move rfl) ?_
                refine l_y rfl rfl (y_extract rfl rfl) ?_
                refine l_y rfl rfl (y_extract rfl rfl) ?_
                refine l_y rfl rfl (y_assign rfl) ?_
                refine l_y rfl rfl (y_assign rfl) ?_
                refine K2 (K3 (K0 (K0 (K1 ?_))))
                refine l_y rfl rfl (y_move rfl) ?_
                refine N3 ?_
                refine l_y rfl rfl (y_move rfl) ?_
                repeat refine M2 ?_
                refine l_y rfl rfl (y_pick_f rfl rfl) ?_
                refine K2 (K3 (L9 (K5 (K3 (K0 (K1 ?_))))))
                refine l_y rfl rfl (y_move rfl) ?_
                refine l_y rfl rfl (y_move rfl) ?_
                refine l_y rfl rfl (y_assign rfl) ?_
                refine l_y rfl rfl (y_assign rfl) ?_
                refine K2 (K3 (K6 ?_))
                have e : elementL A sp nm xs none 0 = (0, 2, A) := by rw [elementL, if_neg (by omega), if_neg (by omega), if_neg hnt, if_pos (ht ▸ ha1)]
                exact fin2 rfl rfl rfl ⟨_, ⟨none, 0, by rw [e], rfl⟩, by rw [e]; exact hO.one⟩
              · simp only [List.cons_append, List.nil_append] at hO
                refine l_y rfl rfl (y_move rfl) ?_
                refine l_y rfl rfl (y_extract rfl rfl) ?_
                refine l_y rfl rfl (y_extract rfl rfl) ?_
                refine l_y rfl rfl (y_assign rfl) ?_
                refine l_y rfl rfl (y_assign rfl) ?_
                refine K2 (K3 (K0 (K0 (K1 ?_))))
                refine l_y rfl rfl (y_move rfl) ?_
                refine N3 ?_
                refine l_y rfl rfl (y_move rfl) ?_
                repeat refine M2 ?_
                refine l_y rfl rfl (y_pick_f rfl rfl) ?_
                refine K2 (K3 (L9 (K5 (K3 (K0 (K1 ?_))))))
                refine l_y rfl rfl (y_move rfl) ?_
                refine l_y rfl rfl (y_move rfl) ?_
                refine l_y rfl rfl (y_assign rfl) ?_
                refine l_y rfl rfl (y_assign rfl) ?_
                refine K2 (K3 (K6 ?_))
                have e : elementL A sp nm xs none 0 = (0, 9, A) := by rw [elementL, if_neg (by omega), if_neg (by omega), if_neg hnt, if_neg (by rw [← ht, ha1]; simp), if_pos ha2]
                exact fin2 rfl rfl rfl ⟨_, ⟨none, 0, by rw [e], rfl⟩, by rw [e]; exact hO.one⟩
              · simp only [List.cons_append, List.nil_append] at hO
                refine l_y rfl rfl (y_move rfl) ?_
                refine l_y rfl rfl (y_extract rfl rfl) ?_
                refine l_y rfl rfl (y_extract rfl rfl) ?_
                refine l_y rfl rfl (y_assign rfl) ?_
                refine l_y rfl rfl (y_assign rfl) ?_
                refine K2 (K3 (K0 (K0 (K1 ?_))))
                refine l_y rfl rfl (y_move rfl) ?_
                refine N2 ?_
                refine l_y rfl rfl (y_move rfl) ?_
                refine l_y rfl rfl (y_move rfl) ?_
                refine l_y rfl rfl (y_pick_t rfl rfl) ?_
                refine K2 (K3 (L9 (K5 (K3 (K0 (K1 ?_))))))
                refine l_y rfl rfl (y_move rfl) ?_
                refine l_y rfl rfl (y_move rfl) ?_
                refine l_y rfl rfl (y_assign rfl) ?_
                refine l_y rfl rfl (y_assign rfl) ?_
                refine K2 (K3 (K6 ?_))
                have e : elementL A sp nm xs (some ⟨b70, 0, none⟩) xs.length = ((A.length : Int), 0, A ++ [blankN (elementN (some ⟨b70, 0, none⟩) xs.length sp nm xs)]) := by
                  rw [elementL, if_neg (by omega), if_neg (by omega), if_neg hnt, if_neg (by rw [← ht, ha1]; simp), if_neg (by omega), if_neg (by rintro ⟨q1, q2⟩; first | exact h13_1 q1 | exact h13_4 q2)]
                exact fin2 rfl rfl rfl ⟨_, ⟨some ⟨b70, 0, none⟩, xs.length, by rw [e], rfl⟩, by rw [e]; exact hO.one⟩
          · refine l_y rfl rfl (y_move rfl) ?_
            repeat refine M2 ?_
            refine l_y rfl rfl (y_pick_f rfl rfl) ?_
            refine l_y rfl rfl (y_assign rfl) ?_
            refine K2 (K3 (K0 (K0 (K1 ?_))))
            refine l_y rfl rfl (y_move rfl) ?_
            refine l_y rfl rfl (y_move rfl) ?_
            repeat refine M2 ?_
            refine l_y rfl rfl (y_pick_f rfl rfl) ?_
            refine K2 (K3 (L9 (K5 (K3 (K0 ?_)))))
            have hnt : ¬ (tmpl sp nm ∧ A.length = 32767) := by
              rintro ⟨⟨q1, q2⟩, q3⟩
              first | exact h13_1 q1 | exact h13_4 q2 | omega
            refine K1 ?_
            refine l_y rfl rfl (y_move rfl) ?_
            refine l_y rfl rfl (y_move rfl) ?_
            refine l_y rfl rfl (y_move rfl) ?_
            refine l_y rfl rfl (y_move rfl) ?_
            refine CK [] hO rfl (fun k' hx hr hO' => own_spec (hs.ext hO hx) (by omega) (hO := hO')) ?_
            rintro _ _ w ⟨b70, rfl, rfl⟩ hO
            simp only [List.cons_append, List.nil_append] at hO
            refine s_build (parts := [(0, .const (.int .i64 1)), (1, .tmp 67), (2, .tmp 68), (3, .tmp 70)]) (cs := [.int .i64 1, .int .i64 sp, .string nm, .slice (some ⟨b70, 0, none⟩) xs.length xs.length, .string ⟨#[]⟩, .string ⟨#[]⟩, .int .i64 0, .int .i64 0, .int .i64 0, .int .i64 0, .int .i64 0, .int .i64 0]) rfl rfl (fun a ha => partsOf_sound ha _ _ rfl) (by kernel_rfl) ?_
            refine l_y rfl rfl (y_move rfl) ?_
            have hO := arenaL_shut (hO.ks [.s, .b a, .p p])
            refine CK [.o a, .p (some ⟨b70, 0, none⟩)] hO rfl (fun k' hx hr hO' => addC_spec (n := elementN (some ⟨b70, 0, none⟩) xs.length sp nm xs) (ts := ts) hn hc (sls_roK hr (sls_fct (p := tp) hO)) (by omega) (hO := hO')) ?_
            rintro _ _ w (⟨ha1, rfl, rfl⟩ | ⟨ha1, ha2, rfl, rfl⟩ | ⟨ha1, ha2, rfl, rfl⟩) hO
            · simp only [List.cons_append, List.nil_append] at hO
              refine l_y rfl rfl (y_move rfl) ?_
              refine l_y rfl rfl (y_extract rfl rfl) ?_
              refine l_y rfl rfl (y_extract rfl rfl) ?_
              refine l_y rfl rfl (y_assign rfl) ?_
              refine l_y rfl rfl (y_assign rfl) ?_
              refine K2 (K3 (K0 (K0 (K1 ?_))))
              refine l_y rfl rfl (y_move rfl) ?_
              refine N3 ?_
              refine l_y rfl rfl (y_move rfl) ?_
              repeat refine M2 ?_
              refine l_y rfl rfl (y_pick_f rfl rfl) ?_
              refine K2 (K3 (L9 (K5 (K3 (K0 (K1 ?_))))))
              refine l_y rfl rfl (y_move rfl) ?_
              refine l_y rfl rfl (y_move rfl) ?_
              refine l_y rfl rfl (y_assign rfl) ?_
              refine l_y rfl rfl (y_assign rfl) ?_
              refine K2 (K3 (K6 ?_))
              have e : elementL A sp nm xs none 0 = (0, 2, A) := by rw [elementL, if_neg (by omega), if_neg (by omega), if_neg hnt, if_pos (ht ▸ ha1)]
              exact fin2 rfl rfl rfl ⟨_, ⟨none, 0, by rw [e], rfl⟩, by rw [e]; exact hO.one⟩
            · simp only [List.cons_append, List.nil_append] at hO
              refine l_y rfl rfl (y_move rfl) ?_
              refine l_y rfl rfl (y_extract rfl rfl) ?_
              refine l_y rfl rfl (y_extract rfl rfl) ?_
              refine l_y rfl rfl (y_assign rfl) ?_
              refine l_y rfl rfl (y_assign rfl) ?_
              refine K2 (K3 (K0 (K0 (K1 ?_))))
              refine l_y rfl rfl (y_move rfl) ?_
              refine N3 ?_
              refine l_y rfl rfl (y_move rfl) ?_
              repeat refine M2 ?_
              refine l_y rfl rfl (y_pick_f rfl rfl) ?_
              refine K2 (K3 (L9 (K5 (K3 (K0 (K1 ?_))))))
              refine l_y rfl rfl (y_move rfl) ?_
              refine l_y rfl rfl (y_move rfl) ?_
              refine l_y rfl rfl (y_assign rfl) ?_
              refine l_y rfl rfl (y_assign rfl) ?_
              refine K2 (K3 (K6 ?_))
              have e : elementL A sp nm xs none 0 = (0, 9, A) := by rw [elementL, if_neg (by omega), if_neg (by omega), if_neg hnt, if_neg (by rw [← ht, ha1]; simp), if_pos ha2]
              exact fin2 rfl rfl rfl ⟨_, ⟨none, 0, by rw [e], rfl⟩, by rw [e]; exact hO.one⟩
            · simp only [List.cons_append, List.nil_append] at hO
              refine l_y rfl rfl (y_move rfl) ?_
              refine l_y rfl rfl (y_extract rfl rfl) ?_
              refine l_y rfl rfl (y_extract rfl rfl) ?_
              refine l_y rfl rfl (y_assign rfl) ?_
              refine l_y rfl rfl (y_assign rfl) ?_
              refine K2 (K3 (K0 (K0 (K1 ?_))))
              refine l_y rfl rfl (y_move rfl) ?_
              refine N2 ?_
              refine l_y rfl rfl (y_move rfl) ?_
              refine l_y rfl rfl (y_move rfl) ?_
              refine l_y rfl rfl (y_pick_t rfl rfl) ?_
              refine K2 (K3 (L9 (K5 (K3 (K0 (K1 ?_))))))
              refine l_y rfl rfl (y_move rfl) ?_
              refine l_y rfl rfl (y_move rfl) ?_
              refine l_y rfl rfl (y_assign rfl) ?_
              refine l_y rfl rfl (y_assign rfl) ?_
              refine K2 (K3 (K6 ?_))
              have e : elementL A sp nm xs (some ⟨b70, 0, none⟩) xs.length = ((A.length : Int), 0, A ++ [blankN (elementN (some ⟨b70, 0, none⟩) xs.length sp nm xs)]) := by
                rw [elementL, if_neg (by omega), if_neg (by omega), if_neg hnt, if_neg (by rw [← ht, ha1]; simp), if_neg (by omega), if_neg (by rintro ⟨q1, q2⟩; first | exact h13_1 q1 | exact h13_4 q2)]
              exact fin2 rfl rfl rfl ⟨_, ⟨some ⟨b70, 0, none⟩, xs.length, by rw [e], rfl⟩, by rw [e]; exact hO.one⟩
end Go.Proofs.Ythkmnohghpdjhaa
end
section
set_option linter.unusedVariables false
set_option linter.unusedSimpArgs false
set_option maxRecDepth 100000
namespace Go.Proofs.Ythkmnohghpdjhaa
open Go Go.Hb Go.RowKit
/-- what Node tells, with attributes of its own -/
def ownN (n : Api_node) (q : Option Addr) (d : Nat) : Api_node := { n with AttrsP := q, AttrsC := d }
theorem Node_spec {k : Ctx} {w : World} {a : Nat} {A : List Node_one} {id : Int} (hn : 0 < A.length) (ha : AttrsOk A) (hO : Own k w [arenaL a A]) :
    Tri Try.prog 34 #[.pointer (some ⟨a, 0, none⟩), .int .i64 id] k w fun v m =>
      (hasB A id = false ∧ v = .tuple #[.agg (Api_node.cells default).toArray, .int .i64 6] ∧ m = [arenaL a A]) ∨
      (hasB A id = true ∧ ∃ q d, v = .tuple #[.agg (Api_node.cells (ownN (at_ A id.toNat).Node q d)).toArray, .int .i64 0] ∧ m = [arenaL a A, sls q d 63 4 Api_attr.cells (at_ A id.toNat).Node.Attrs]) := by
  refine enter (args := [.pointer (some ⟨a, 0, none⟩), .int .i64 id]) Try.func34 rfl rfl ?_
  obtain ⟨p, c, hg, hO⟩ := arenaL_open hO
  refine K0 (K1 ?_)
  refine s_alloc (vs := [.int .i64 0, .int .i64 0, .string ⟨#[]⟩, .slice none 0 0, .string ⟨#[]⟩, .string ⟨#[]⟩, .int .i64 0, .int .i64 0, .int .i64 0, .int .i64 0, .int .i64 0, .int .i64 0]) hO rfl rfl rfl fun b4 w hO => ?_
  refine l_y rfl rfl (y_assign rfl) ?_
  refine K2 (K3 (K0 (K4 (K0 (K1 ?_)))))
  refine l_y rfl rfl (y_move rfl) ?_
  refine CK [.b a, .p p] hO rfl (fun k' hx hr hO' => none_spec (hO := hO')) ?_
  rintro _ _ w ⟨rfl, rfl⟩ hO
  simp only [List.cons_append, List.nil_append] at hO
  refine l_y rfl rfl (y_assign rfl) ?_
  refine K2 (K3 (L9 (K0 (K1 ?_))))
  refine l_y rfl rfl (y_move rfl) ?_
  refine l_y rfl rfl (y_move rfl) ?_
  refine CK [.b a, .p p] hO rfl (fun k' hx hr hO' => has_spec (hO := hO')) ?_
  rintro _ _ w ⟨rfl, rfl⟩ hO
  simp only [List.cons_append, List.nil_append] at hO
  refine l_y rfl rfl (y_not rfl rfl) ?_
  refine l_y rfl rfl (y_assign rfl) ?_
  refine K2 (K3 ?_)
  refine c_split rfl (fun hc11 => ?_) (fun hc11 => ?_)
  · simp only [Bool.not_eq_true', Bool.not_eq_false'] at hc11
    refine K0 (K1 ?_)
    refine s_build (parts := []) (cs := [.int .i64 0, .int .i64 0, .string ⟨#[]⟩, .slice none 0 0, .string ⟨#[]⟩, .string ⟨#[]⟩, .int .i64 0, .int .i64 0, .int .i64 0, .int .i64 0, .int .i64 0, .int .i64 0]) rfl rfl (fun a ha => partsOf_sound ha _ _ rfl) (by kernel_rfl) ?_
    refine Y3 hO rfl rfl (fun w hO => ?_)
    refine l_y rfl rfl (y_assign rfl) ?_
    refine K2 (K3 (K6 (L0 (K9 ?_))))
    exact finC1 hO rfl rfl rfl ⟨_, .inl ⟨hc11, rfl, rfl⟩, (arenaL_shut (hO.ks [.s, .b a, .p p])).one⟩
  · simp only [Bool.not_eq_true', Bool.not_eq_false'] at hc11
    refine K5 (K8 (K3 (K0 ?_)))
    have hid := hasB_true hc11
    have hli := ha id.toNat (by omega)
    refine K1 ?_
    refine l_y rfl rfl (y_move rfl) ?_
    refine l_y rfl rfl (y_nilCheck rfl rfl) ?_
    refine l_y rfl rfl (y_fldb (o' := 0) rfl) ?_
    refine l_y rfl rfl (D5 hO rfl) ?_
    refine l_y rfl rfl (y_move rfl) ?_
    refine l_y rfl rfl (y_idx rfl rfl) ?_
    refine l_y rfl rfl (y_fld (j' := 0) rfl) ?_
    refine l_y rfl rfl (y_eA (x0 := 0) (cs := [.int .i64 (at_ A (id : Int).toNat).Node.Kind, .int .i64 (at_ A (id : Int).toNat).Node.Space, .string (at_ A (id : Int).toNat).Node.Name, .slice (at_ A (id : Int).toNat).Node.AttrsP (at_ A (id : Int).toNat).Node.Attrs.length (at_ A (id : Int).toNat).Node.AttrsC, .string (at_ A (id : Int).toNat).Node.Data, .string (at_ A (id : Int).toNat).Node.System, .int .i64 (at_ A (id : Int).toNat).Node.Parent, .int .i64 (at_ A (id : Int).toNat).Node.First, .int .i64 (at_ A (id : Int).toNat).Node.Last, .int .i64 (at_ A (id : Int).toNat).Node.Prev, .int .i64 (at_ A (id : Int).toNat).Node.Next, .int .i64 (at_ A (id : Int).toNat).Node.Inner]) hO rfl) ?_
    refine s_alloc (vs := [.int .i64 0, .int .i64 0, .string ⟨#[]⟩, .slice none 0 0, .string ⟨#[]⟩, .string ⟨#[]⟩, .int .i64 0, .int .i64 0, .int .i64 0, .int .i64 0, .int .i64 0, .int .i64 0]) hO rfl rfl rfl fun b6 w hO => ?_
    refine Y3 hO rfl rfl (fun w hO => ?_)
    refine K2 (K3 (K0 ?_))
    have hO := arena_pick (i := id.toNat) (by omega) (hO.ks [.s, .b a, .p p])
    refine K1 ?_
    refine l_y rfl rfl (y_fldb (o' := 3) rfl) ?_
    refine l_y rfl rfl (D5 hO rfl) ?_
    refine CK [] hO rfl (fun k' hx hr hO' => own_spec (sls_roK hr (sls_fct (p := (at_ A id.toNat).Node.AttrsP) hO)) (by omega) (hO := hO')) ?_
    rintro _ _ w ⟨q, rfl, rfl⟩ hO
    refine l_y rfl rfl (y_fldb (o' := 3) rfl) ?_
    refine Y1 hO rfl rfl (fun w hO => ?_)
    simp only [List.set_cons_zero, List.set_cons_succ] at hO
    refine K2 (K3 (K0 (K1 ?_)))
    refine l_y rfl rfl (D8 (cs := [.int .i64 (at_ A (id : Int).toNat).Node.Kind, .int .i64 (at_ A (id : Int).toNat).Node.Space, .string (at_ A (id : Int).toNat).Node.Name, .slice (some ⟨q, 0, none⟩) (at_ A id.toNat).Node.Attrs.length (at_ A id.toNat).Node.Attrs.length, .string (at_ A (id : Int).toNat).Node.Data, .string (at_ A (id : Int).toNat).Node.System, .int .i64 (at_ A (id : Int).toNat).Node.Parent, .int .i64 (at_ A (id : Int).toNat).Node.First, .int .i64 (at_ A (id : Int).toNat).Node.Last, .int .i64 (at_ A (id : Int).toNat).Node.Prev, .int .i64 (at_ A (id : Int).toNat).Node.Next, .int .i64 (at_ A (id : Int).toNat).Node.Inner]) hO rfl) ?_
    refine Y3 hO rfl rfl (fun w hO => ?_)
    refine l_y rfl rfl (y_assign rfl) ?_
    refine K2 (K3 (K6 ?_))
    have hO2 := arena_put (y := at_ A id.toNat) (by omega) (hO.ks [.p (at_ A id.toNat).Node.AttrsP, .s])
    rw [set_at (by omega)] at hO2
    exact finC1 hO rfl rfl rfl ⟨_, .inr ⟨hc11, some ⟨q, 0, none⟩, _, rfl, rfl⟩, ((arenaL_shut (hO2.ks [.s, .b a, .p p])).ks [.o a, .p (some ⟨q, 0, none⟩)]).two⟩
/-- the children from one on -/
def Chain (A : List Node_one) : Int → List Int → Prop
  | c, [] => c = -1
  | c, x :: xs => c = x ∧ x ≠ -1 ∧ hasB A x = true ∧ Chain A (at_ A x.toNat).Node.Next xs
abbrev itF (a : Nat) (p : Option Addr) (c : Nat) (A : List Node_one) (b2 b3 : Nat) (id : Int) : List HP := [arB a p A.length c, arS p c A, blk b2 23 [.pointer (some ⟨a, 0, none⟩)], blk b3 3 [.int .i64 id]]
theorem children_spec {k : Ctx} {w : World} {a : Nat} {id : Int} (hO : Own k w []) :
    Tri Try.prog 86 #[.pointer (some ⟨a, 0, none⟩), .int .i64 id] k w fun v m => ∃ b2 b3, v = .func (.func 100) #[] #[.pointer (some ⟨b2, 0, none⟩), .pointer (some ⟨b3, 0, none⟩)] ∧ m = [blk b2 23 [.pointer (some ⟨a, 0, none⟩)], blk b3 3 [.int .i64 id]] := by
  refine enter (args := [.pointer (some ⟨a, 0, none⟩), .int .i64 id]) Try.func86 rfl rfl ?_
  refine K0 (K1 ?_)
  refine s_box (vs := [.pointer (some ⟨a, 0, none⟩)]) hO rfl rfl rfl (by rfl) fun b2 w hO => ?_
  refine s_box (vs := [.int .i64 id]) hO rfl rfl rfl (by rfl) fun b3 w hO => ?_
  refine l_y rfl rfl (y_assign rfl) ?_
  refine K2 (K3 (K0 (K1 ?_)))
  refine l_y rfl rfl (y_makeFunc rfl rfl) ?_
  refine l_y rfl rfl (y_assign rfl) ?_
  refine K2 (K3 (K6 ?_))
  exact fin1 rfl rfl ⟨_, ⟨b2, b3, rfl, rfl⟩, hO.only [.b b2, .b b3]⟩
end Go.Proofs.Ythkmnohghpdjhaa
end
section
set_option linter.unusedVariables false
set_option linter.unusedSimpArgs false
set_option maxRecDepth 100000
namespace Go.Proofs.Ythkmnohghpdjhaa
open Go Go.Hb Go.RowKit
theorem lift2 {f : FuncId} {args : Array Value} {R : Value → Prop} {k : Ctx} {w : World} {a : Nat} {A A' : List Node_one} (hO : Own k w [arenaL a A]) (hl : A'.length = A.length) (ht : A'.map attrsP = A.map attrsP)
    (h : ∀ k' p c, Gs p A.length → Own k' w [arB a p A.length c, arS p c A] → Tri Try.prog f args k' w fun v m => R v ∧ m = [arB a p A.length c, arS p c A']) :
    Tri Try.prog f args k w fun v m => R v ∧ m = [arenaL a A'] := by
  obtain ⟨p, c, hg, hO⟩ := arenaL_open hO
  refine Ret.mono (Ret.framed hO (.cons (.hd _ _) (.cons (.hd _ _) (.nil _))) fun k' _ _ hO' => h k' p c hg hO') ?_
  rintro v w' ⟨m, ⟨hv, rfl⟩, hO⟩
  have hO : Own k w' [arB a p A.length c, arS p c A', sep (A.map attrsP)] := hO
  refine ⟨_, ⟨hv, rfl⟩, (arenaL_shut (hO.ks [.s, .b a, .p p]) ht.symm hl.symm).one⟩
theorem setLinks_len {A : List Node_one} {id up p n : Int} : (setLinks A id up p n).length = A.length := by simp [setLinks]
theorem setLinks_attrs {A : List Node_one} {id up p n : Int} : (setLinks A id up p n).map attrsP = A.map attrsP := attrs_set rfl
theorem linkL_len {A : List Node_one} {up id before : Int} : (linkL A up id before).2.length = A.length := by unfold linkL; (repeat' split) <;> simp only [joinL_len, setLinks_len]
theorem linkL_attrs {A : List Node_one} {up id before : Int} : (linkL A up id before).2.map attrsP = A.map attrsP := by unfold linkL; (repeat' split) <;> simp only [joinL_attrs, setLinks_attrs]
theorem unlinkL_len {A : List Node_one} {id : Int} : (unlinkL A id).2.length = A.length := by unfold unlinkL; (repeat' split) <;> simp only [joinL_len, setLinks_len]
theorem unlinkL_attrs {A : List Node_one} {id : Int} : (unlinkL A id).2.map attrsP = A.map attrsP := by unfold unlinkL; (repeat' split) <;> simp only [joinL_attrs, setLinks_attrs]
theorem LinkC_spec {k : Ctx} {w : World} {a : Nat} {A : List Node_one} {up id before : Int} (hn : 0 < A.length) (hrk : Ranked A) (hL : LinksOk A) (hO : Own k w [arenaL a A]) :
    Tri Try.prog 11 #[.pointer (some ⟨a, 0, none⟩), .int .i64 up, .int .i64 id, .int .i64 before] k w fun v m => v = .int .i64 (linkL A up id before).1 ∧ m = [arenaL a (linkL A up id before).2] := lift2 hO linkL_len linkL_attrs fun k' p c hg hO => Link_spec hn hg hrk hL hO
theorem UnlinkC_spec {k : Ctx} {w : World} {a : Nat} {A : List Node_one} {id : Int} (hn : 0 < A.length) (hL : LinksOk A) (hO : Own k w [arenaL a A]) :
    Tri Try.prog 62 #[.pointer (some ⟨a, 0, none⟩), .int .i64 id] k w fun v m => v = .int .i64 (unlinkL A id).1 ∧ m = [arenaL a (unlinkL A id).2] := lift2 hO unlinkL_len unlinkL_attrs fun k' p c hg hO => Unlink_spec hn hg hL hO
end Go.Proofs.Ythkmnohghpdjhaa
end
section
set_option linter.unusedVariables false
set_option linter.unusedSimpArgs false
set_option maxRecDepth 100000
namespace Go.Proofs.Ythkmnohghpdjhaa
open Go Go.Hb Go.RowKit
abbrev docD : Node_one := blankN documentN
abbrev QAttr {H : Type} : List Value → DataW H → Prop := QSt [QInt .i64, QStr, QStr, QStr]
theorem q_attr {H : Type} {enc : TypeId × Value → H} {W : World} : Reads enc Try.prog W 63 QAttr := by
  have h : Try.prog.cellsOf 63 = 4 := by kernel_rfl
  letI : Und Try.prog 63 _ := ⟨Try.underlying63⟩
  refine r_st ?_
  rw [h]
  exact .cons (m := 1) rfl (by kernel_rfl) r_int (.cons (m := 1) rfl (by kernel_rfl) r_str (.cons (m := 1) rfl (by kernel_rfl) r_str (.cons (m := 1) rfl (by kernel_rfl) r_str (.nil _))))
theorem attr_of {H : Type} {r : List Value} {d : DataW H} (h : QAttr r d) : ∃ x, r = Api_attr.cells x := by
  obtain ⟨ps, rfl, hq⟩ := h
  obtain ⟨c1, cs1, d1, ds1, rfl, rfl, g1, hq⟩ := hq.un
  obtain ⟨c2, cs2, d2, ds2, rfl, rfl, g2, hq⟩ := hq.un
  obtain ⟨c3, cs3, d3, ds3, rfl, rfl, g3, hq⟩ := hq.un
  obtain ⟨c4, cs4, d4, ds4, rfl, rfl, g4, hq⟩ := hq.un
  obtain ⟨rfl, rfl⟩ := hq.un0
  obtain ⟨sp, rfl, rfl, _⟩ := g1
  obtain ⟨s2, rfl, rfl, _⟩ := g2
  obtain ⟨s3, rfl, rfl, _⟩ := g3
  obtain ⟨s4, rfl, rfl, _⟩ := g4
  exact ⟨⟨sp, s2, s3, s4⟩, rfl⟩
theorem attrs_of {rows : List (List Value)} (h : ∀ r ∈ rows, ∃ x, r = Api_attr.cells x) : ∃ xs : List Api_attr, rows = xs.map Api_attr.cells := by
  induction rows with
  | nil => exact ⟨[], rfl⟩
  | cons r rows ih =>
    obtain ⟨x, rfl⟩ := h r (by simp)
    obtain ⟨xs, rfl⟩ := ih fun r hr => h r (by simp [hr])
    exact ⟨x :: xs, rfl⟩
end Go.Proofs.Ythkmnohghpdjhaa
end
section
set_option linter.unusedVariables false
set_option linter.unusedSimpArgs false
set_option maxRecDepth 100000
namespace Go.Proofs.Ythkmnohghpdjhaa
open Go Go.Hb Go.RowKit
instance : DecidableEq Api_attr := fun a b => decidable_of_iff (a.Space = b.Space ∧ a.Prefix = b.Prefix ∧ a.Name = b.Name ∧ a.Value = b.Value) ⟨fun ⟨h1, h2, h3, h4⟩ => Api_attr.ext h1 h2 h3 h4, fun h => by subst h; exact ⟨rfl, rfl, rfl, rfl⟩⟩
instance : EqT Try.prog 63 Api_attr.cells := ⟨by kernel_rfl, fun x y w => by
  have u3 := Try.underlying3
  have u9 := Try.underlying9
  have hS : Try.prog.underlying 63 = some (.struct (Try.prog.fieldsOf 63)) := by kernel_rfl
  have hp : Try.prog.stoodInHeld 63 = false := by kernel_rfl
  rw [show (10000 : Nat) = 9999 + 1 from rfl, run_equalIn_agg w 9999 63 _ _ hS hp]
  simp only [Program.fieldsOf, Try.underlying63, Api_attr.cells]
  go_simp
  simp only [ba_inj]
  have e : (x = y) ↔ x.Space = y.Space ∧ x.Prefix = y.Prefix ∧ x.Name = y.Name ∧ x.Value = y.Value := Api_attr.ext_iff
  by_cases h1 : x.Space = y.Space <;> by_cases h2 : x.Prefix = y.Prefix <;> by_cases h3 : x.Name = y.Name <;> by_cases h4 : x.Value = y.Value <;> simp [e, h1, h2, h3, h4]⟩
end Go.Proofs.Ythkmnohghpdjhaa
end
section
set_option linter.unusedVariables false
set_option linter.unusedSimpArgs false
set_option maxRecDepth 100000
namespace Go.Proofs.Ythkmnohghpdjhaa
open Go Go.Hb Go.RowKit
theorem chain_cons {A : List Node_one} {c : Int} {l : List Int} (h : Chain A c l) (hc : ¬ c = -1) : ∃ s, l = c :: s ∧ hasB A c = true ∧ Chain A (at_ A c.toNat).Node.Next s := by
  cases l with
  | nil => exact absurd h hc
  | cons x s =>
    obtain ⟨rfl, _, hh, hs⟩ := h
    exact ⟨s, rfl, hh, hs⟩
theorem chain_nil {A : List Node_one} {c : Int} {l : List Int} (h : Chain A c l) (hc : c = -1) : l = [] := by
  cases l with
  | nil => rfl
  | cons x s => obtain ⟨rfl, h1, _⟩ := h; exact absurd hc h1
theorem iter_spec {k : Ctx} {w : World} {a b2 b3 L D : Nat} {A : List Node_one} {p : Option Addr} {c : Nat} {id : Int} {xs : List Int} {M0 : List HP} {B : List Int → List HP → Prop} {stop : Code → List HP → Prop} {fn : FuncId} {tmps : Array Value} {ps : Array Tmp} {assign body : Code}
    (hg : Gs p A.length) (hid : hasB A id = true) (hch : Chain A (at_ A id.toNat).Node.First xs) (hps : ps.size = 1) (hB : B [] M0) (hO : Own k w (obj L (loopO .ready none fn tmps ps assign body D) :: (itF a p c A b2 b3 id ++ M0)))
    (hround : ∀ pre x suf M w, xs = pre ++ x :: suf → B pre M → Own k w (obj L (loopO .ready none fn tmps ps assign body D) :: (itF a p c A b2 b3 id ++ M)) →
      RoundIn Fence.wide 0 Try.prog L fn ((ps.zip #[.int .i64 x]).foldl (fun tmps (t, a) => tmps.setIfInBounds t a) tmps) assign body w (RP k L fn tmps ps assign body D (fun M' => ∃ M, B (pre ++ [x]) M ∧ M' = itF a p c A b2 b3 id ++ M) stop)) :
    Ret Try.prog 100 #[.func (.yield L) #[] #[], .pointer (some ⟨b2, 0, none⟩), .pointer (some ⟨b3, 0, none⟩)] w fun _ w2 =>
      (∃ M, (∃ M', B xs M' ∧ M = itF a p c A b2 b3 id ++ M') ∧ Own k w2 (obj L (loopO .ready none fn tmps ps assign body D) :: M)) ∨ (∃ c M, stop c M ∧ Own k w2 (obj L (loopO .done (some c) fn tmps ps assign body D) :: M)) := by
  refine enter (args := [.func (.yield L) #[] #[], .pointer (some ⟨b2, 0, none⟩), .pointer (some ⟨b3, 0, none⟩)]) Try.func100 rfl rfl ?_
  have hid2 := hasB_true hid
  simp only [List.cons_append, List.nil_append] at hO
  refine K0 ?_
  refine da_region (by intro c a d v w h; cases d <;> exact h) ?_
  have hO := hO.drew
  refine da_phase _ [] (SO.ks [.b b2, .b a, .b b3, .p p] hO) ?_
  refine dx_y 0 (by kernel_rfl) rfl rfl rfl (fun w ⟨m, hw⟩ => D5 hw rfl) ?_
  refine dx_u 1 (by kernel_rfl) rfl rfl rfl (fun w => y_nilCheck rfl rfl) ?_
  refine dx_u 2 (by kernel_rfl) rfl rfl rfl (fun w => y_fldb (o' := 0) rfl) ?_
  refine dx_y 3 (by kernel_rfl) rfl rfl rfl (fun w ⟨m, hw⟩ => D5 hw rfl) ?_
  refine dx_y 4 (by kernel_rfl) rfl rfl rfl (fun w ⟨m, hw⟩ => D5 hw rfl) ?_
  refine dx_u 5 (by kernel_rfl) rfl rfl rfl (fun w => y_idx rfl rfl) ?_
  refine dx_u 6 (by kernel_rfl) rfl rfl rfl (fun w => y_fld (j' := 0) rfl) ?_
  refine dx_u 7 (by kernel_rfl) rfl rfl rfl (fun w => y_fld (j' := 7) rfl) ?_
  refine dx_y 8 (by kernel_rfl) rfl rfl rfl (fun w ⟨m, hw⟩ => y_e1 (x0 := 7) hw rfl) ?_
  refine dx_u 9 (by kernel_rfl) rfl rfl rfl (fun w => y_assign rfl) ?_
  refine dx_end (by kernel_rfl) ?_
  refine K3 (K4 ?_)
  refine c_rounds (X := Int × List Int × List Int × List HP) (fun x => [(0, .func (.yield L) #[] #[]), (1, .pointer (some ⟨b2, 0, none⟩)), (4, .int .i64 x.1)]) (fun x w => Own k w (obj L (loopO .ready none fn tmps ps assign body D) :: arB a p A.length c :: arS p c A :: blk b2 23 [.pointer (some ⟨a, 0, none⟩)] :: blk b3 3 [.int .i64 id] :: x.2.2.2) ∧ (xs = x.2.1 ++ x.2.2.1) ∧ (Chain A x.1 x.2.2.1) ∧ (B x.2.1 x.2.2.2)) (fun x => x.2.2.1.length) ((_, [], xs, M0)) ⟨rfl, rfl, rfl, trivial⟩ ⟨hO, rfl, hch, hB⟩ ?_
  rintro x w m hm ⟨hO, hx, hc, hb⟩
  refine K0 (K0 ?_)
  refine x_region ?_
  refine x_y rfl rfl (y_move rfl) ?_
  refine x_y rfl rfl (y_cmpI rfl rfl rfl) ?_
  refine x_y rfl rfl (y_move rfl) ?_
  refine x_split 16 rfl (fun hg16 => ?_) (fun hg16 => ?_)
  · have h1_1 := ndt hg16
    refine x_y rfl rfl (y_move rfl) ?_
    refine x_y rfl rfl (y_move rfl) ?_
    obtain ⟨s, hs, hh, hch2⟩ := chain_cons hc h1_1
    have hh2 := hasB_true hh
    refine x_yield hO rfl rfl (by simp [hps]) (hround x.2.1 x.1 s x.2.2.2 w (by rw [hx, hs]) hb hO) (fun w M2 hM hO => ?_) (fun w c2 M2 hM hO => ?_)
    · obtain ⟨M3, hb2, rfl⟩ := hM
      simp only [List.cons_append, List.nil_append] at hO
      refine x_y rfl rfl (y_pick_t rfl rfl) ?_
      refine x_nil (K3 (L8 (K5 (K3 (K0 (K4 (K5 (K8 (K3 (K1 ?_))))))))))
      refine l_y rfl rfl (D5 hO rfl) ?_
      refine l_y rfl rfl (y_nilCheck rfl rfl) ?_
      refine l_y rfl rfl (y_fldb (o' := 0) rfl) ?_
      refine l_y rfl rfl (D5 hO rfl) ?_
      refine l_y rfl rfl (y_move rfl) ?_
      refine l_y rfl rfl (y_idx rfl rfl) ?_
      refine l_y rfl rfl (y_fld (j' := 0) rfl) ?_
      refine l_y rfl rfl (y_fld (j' := 10) rfl) ?_
      refine l_y rfl rfl (y_e1 (x0 := 10) hO rfl) ?_
      refine l_y rfl rfl (y_assign rfl) ?_
      refine K2 ?_
      have hO : Own k w (obj L (loopO .ready none fn tmps ps assign body D) :: arB a p A.length c :: arS p c A :: blk b2 23 [.pointer (some ⟨a, 0, none⟩)] :: blk b3 3 [.int .i64 id] :: M3) := hO
      exact q_next (((at_ A (x.1 : Int).toNat).Node.Next, x.2.1 ++ [x.1], s, M3)) ⟨rfl, rfl, rfl, trivial⟩ ⟨hO, by dsimp only; simp [hx, hs], hch2, hb2⟩ (by dsimp only; rw [hs] at hm; simp at hm; omega)
    · refine x_y rfl rfl (y_pick_t rfl rfl) ?_
      refine x_nil (K3 (L9 (K7 (L1 (L1 (L2 ?_))))))
      exact fin0 rfl (.inr ⟨_, _, hM, hO⟩)
  · have h1_1 := ndf hg16
    refine x_pass rfl rfl ?_
    refine x_pass rfl rfl ?_
    refine x_pass rfl rfl ?_
    refine x_y rfl rfl (y_pick_f rfl rfl) ?_
    refine x_nil (K3 (L9 (K7 (L1 (L1 (L2 ?_))))))
    have he := chain_nil hc h1_1
    exact fin0 rfl (.inl ⟨_, ⟨x.2.2.2, by rw [hx, he, List.append_nil]; exact hb, rfl⟩, hO⟩)
abbrev kidB (b5 : Nat) (A : List Node_one) (D : Nat) (pre : List Int) (M : List HP) : Prop := ∃ q d, M = [blk b5 43 [.slice q pre.length d], sls q d 3 1 (eI .i64) pre, sep (A.map attrsP), obj D (.deferred (some []))]
set_option maxHeartbeats 1000000 in
theorem Kids_spec {k : Ctx} {w : World} {a : Nat} {A : List Node_one} {id : Int} {xs : List Int} (hn : 0 < A.length) (hxl : xs.length ≤ 1000000) (hch : hasB A id = true → Chain A (at_ A id.toNat).Node.First xs) (hO : Own k w [arenaL a A]) :
    Tri Try.prog 54 #[.pointer (some ⟨a, 0, none⟩), .int .i64 id] k w fun v m =>
      (hasB A id = false ∧ v = .slice none 0 0 ∧ m = [arenaL a A]) ∨ (hasB A id = true ∧ ∃ q d, v = .slice q xs.length d ∧ m = [arenaL a A, sls q d 3 1 (eI .i64) xs]) := by
  refine enterM (args := [.pointer (some ⟨a, 0, none⟩), .int .i64 id]) Try.func54 rfl rfl ?_
  obtain ⟨p, c, hg, hO⟩ := arenaL_open hO
  refine K0 (K1 ?_)
  refine l_y rfl rfl (y_assign rfl) ?_
  refine K2 (K3 (K0 (K0 (K1 ?_))))
  refine l_y rfl rfl (y_move rfl) ?_
  refine CK [.b a, .p p] hO rfl (fun k' hx hr hO' => none_spec (hO := hO')) ?_
  rintro _ _ w ⟨rfl, rfl⟩ hO
  simp only [List.cons_append, List.nil_append] at hO
  refine l_y rfl rfl (y_move rfl) ?_
  refine l_y rfl rfl (y_move rfl) ?_
  refine l_y rfl rfl (y_move rfl) ?_
  refine CK [.b a, .p p] hO rfl (fun k' hx hr hO' => has_spec (hO := hO')) ?_
  rintro _ _ w ⟨rfl, rfl⟩ hO
  simp only [List.cons_append, List.nil_append] at hO
  refine l_y rfl rfl (y_not rfl rfl) ?_
  refine l_y rfl rfl (y_pick_f rfl rfl) ?_
  refine K2 (K3 ?_)
  refine c_split rfl (fun hc14 => ?_) (fun hc14 => ?_)
  · simp only [Bool.not_eq_true', Bool.not_eq_false'] at hc14
    refine K0 (K1 ?_)
    refine l_y rfl rfl (y_assign rfl) ?_
    refine K2 (K3 (K6 (K9 ?_)))
    refine finM0 (R := fun _ _ => True) ?_
    exact fin1 rfl rfl ⟨_, .inl ⟨by first | exact hc14 | exact hg12, rfl, rfl⟩, (arenaL_shut (hO.ks [.s, .b a, .p p])).one⟩
  · simp only [Bool.not_eq_true', Bool.not_eq_false'] at hc14
    refine K5 (K3 (K0 (K1 ?_)))
    refine s_alloc (vs := [.slice none 0 0]) hO rfl rfl rfl fun b5 w hO => ?_
    refine K2 (K3 (K0 (K0 ?_)))
    have hid := hc14
    have hO : Own k w (sls none 0 3 1 (eI .i64) ([] : List Int) :: _) := sl_nil 3 1 hO
    refine K1 ?_
    refine l_y rfl rfl (y_move rfl) ?_
    refine l_y rfl rfl (y_move rfl) ?_
    refine CK [] hO rfl (fun k' hx hr hO' => children_spec (hO := hO')) ?_
    rintro _ _ w ⟨b2, b3, rfl, rfl⟩ hO
    simp only [List.cons_append, List.nil_append] at hO
    refine K2 (K3 (K4 ?_))
    refine c_range (gf := 100) (lb := [.pointer (some ⟨b2, 0, none⟩), .pointer (some ⟨b3, 0, none⟩)]) (done := fun M => ∃ q d, M = itF a p c A b2 b3 id ++ [blk b5 43 [.slice q xs.length d], sls q d 3 1 (eI .i64) xs, sep (A.map attrsP)]) (stop := fun _ _ => False) hO rfl (fun fn tmps L D w hF hO => ?_) (fun D w M hM hO => ?_) (fun D w c M hM hO => ?_)
    · have hO2 : Own k w (obj L (loopO .ready none fn tmps _ _ _ D) :: (itF a p c A b2 b3 id ++ [blk b5 43 [.slice none ([] : List Int).length 0], sls none 0 3 1 (eI .i64) [], sep (A.map attrsP), obj D (.deferred (some []))])) := hO.ks [.o L, .b a, .p p, .b b2, .b b3, .b b5, .p none, .s, .o D]
      refine Ret.mono (iter_spec (B := kidB b5 A D) (stop := fun _ _ => False) hg hid (hch hid) rfl ⟨none, 0, rfl⟩ hO2 ?_) (fun v w2 h => ?_)
      rotate_left
      · rcases h with ⟨M, ⟨M', ⟨q, d, rfl⟩, rfl⟩, hO⟩ | ⟨_, _, h, _⟩
        · exact .inl ⟨_, ⟨q, d, rfl⟩, hO.ks [.o L, .o D]⟩
        · exact h.elim
      rintro pre x suf _ w hxs ⟨q, d, rfl⟩ hO
      have hpl : pre.length < xs.length := by rw [hxs]; simp
      simp only [List.cons_append, List.nil_append] at hO
      refine round_ok (n := Try.f54.ntmps) (E := [(5, .pointer (some ⟨b5, 0, none⟩)), (18, .int .i64 x)]) ?_ hO ?_
      · have e1 : (#[18].zip #[Value.int .i64 x]).foldl (fun tmps (t, a) => tmps.setIfInBounds t a) tmps = tmps.setIfInBounds 18 (.int .i64 x) := by simp
        rw [e1]
        exact (hF.put (d := some 18) rfl (.int .i64 x)).weaken (E' := [(5, .pointer (some ⟨b5, 0, none⟩)), (18, .int .i64 x)]) ⟨rfl, rfl, trivial⟩
      · refine CR1 ?_
        refine l_y rfl rfl (y_assign rfl) ?_
        refine K2 ?_
        refine q_assign hO (fun w hO => ?_)
        refine CR4 (CR1 ?_)
        refine l_y rfl rfl (D5 hO rfl) ?_
        refine l_y rfl rfl (y_move rfl) ?_
        refine s_lit (parts := [(0, .tmp 20)]) (enc := (eI .i64)) [x] [.int .i64 x] hO rfl (fun b21 w hO => ?_)
        refine s_app hO rfl rfl (src_own hO) (fun p22 c22 w hO gs22 => ?_)
        refine Y1 hO rfl rfl (fun w hO => ?_)
        simp only [List.set_cons_zero, List.set_cons_succ] at hO
        refine K2 (K8 ?_)
        exact q_bodyend ⟨_, ⟨_, _, rfl⟩, rfl⟩ (hO.only [.o L, .b a, .p p, .b b2, .b b3, .b b5, .p p22, .s, .o D])
    · obtain ⟨q, d, rfl⟩ := hM
      simp only [List.cons_append, List.nil_append] at hO
      refine K8 (K3 (K0 (K1 ?_)))
      refine l_y rfl rfl (D5 hO rfl) ?_
      refine l_y rfl rfl (y_assign rfl) ?_
      refine K2 (K3 (K6 ?_))
      refine finM hO (fun w hO => ?_)
      exact fin1 rfl rfl ⟨_, .inr ⟨hid, q, d, rfl, rfl⟩, ((arenaL_shut (hO.ks [.s, .b a, .p p])).ks [.o a, .p q]).two⟩
    · exact hM.elim
end Go.Proofs.Ythkmnohghpdjhaa
end
section
set_option linter.unusedVariables false
set_option linter.unusedSimpArgs false
namespace Go.Proofs.Ythkmnohghpdjhaa
open Go Go.Hb Go.RowKit
abbrev nodeA (A : List Node_one) (x : Int) : Api_node := (at_ A x.toNat).Node
def InA (A : List Node_one) (x : Int) : Prop := 0 ≤ x ∧ x < A.length
theorem inA_iff {A : List Node_one} {x : Int} : hasB A x = true ↔ InA A x := by simp [hasB, InA]
theorem InA.b {A : List Node_one} {x : Int} (h : InA A x) : hasB A x = true := inA_iff.2 h
/-- what is no link -/
def coreN (o : Node_one) : Node_one := { o with Node := { o.Node with Parent := 0, First := 0, Last := 0, Prev := 0, Next := 0 } }
theorem at_setI {A : List Node_one} {i y : Int} (hi : InA A i) (hy : 0 ≤ y) (v : Node_one) : at_ (A.set i.toNat v) y.toNat = if y = i then v else at_ A y.toNat := by
  obtain ⟨h0, h1⟩ := hi
  by_cases h : y = i
  · subst h; rw [if_pos rfl, at_set_eq (by omega)]
  · rw [if_neg h, at_set_ne (by omega)]
theorem setFirst_len {A : List Node_one} {i v : Int} : (setFirst A i v).length = A.length := by simp [setFirst]
theorem setFirst_core {A : List Node_one} {i y v : Int} (hi : InA A i) (hy : 0 ≤ y) : coreN (at_ (setFirst A i v) y.toNat) = coreN (at_ A y.toNat) := by
  rw [setFirst, at_setI hi hy]; split
  · next h => subst h; rfl
  · rfl
theorem setFirst_eq {A : List Node_one} {i y v : Int} (hi : InA A i) (hy : 0 ≤ y) : (nodeA (setFirst A i v) y).First = if y = i then v else (nodeA A y).First := by
  rw [nodeA, setFirst, at_setI hi hy]; split <;> rfl
theorem setLast_core {A : List Node_one} {i y v : Int} (hi : InA A i) (hy : 0 ≤ y) : coreN (at_ (setLast A i v) y.toNat) = coreN (at_ A y.toNat) := by
  rw [setLast, at_setI hi hy]; split
  · next h => subst h; rfl
  · rfl
theorem setLast_eq {A : List Node_one} {i y v : Int} (hi : InA A i) (hy : 0 ≤ y) : (nodeA (setLast A i v) y).Last = if y = i then v else (nodeA A y).Last := by
  rw [nodeA, setLast, at_setI hi hy]; split <;> rfl
theorem setNext_len {A : List Node_one} {i v : Int} : (setNext A i v).length = A.length := by simp [setNext]
theorem setNext_core {A : List Node_one} {i y v : Int} (hi : InA A i) (hy : 0 ≤ y) : coreN (at_ (setNext A i v) y.toNat) = coreN (at_ A y.toNat) := by
  rw [setNext, at_setI hi hy]; split
  · next h => subst h; rfl
  · rfl
theorem setNext_eq {A : List Node_one} {i y v : Int} (hi : InA A i) (hy : 0 ≤ y) : (nodeA (setNext A i v) y).Next = if y = i then v else (nodeA A y).Next := by
  rw [nodeA, setNext, at_setI hi hy]; split <;> rfl
theorem setPrev_core {A : List Node_one} {i y v : Int} (hi : InA A i) (hy : 0 ≤ y) : coreN (at_ (setPrev A i v) y.toNat) = coreN (at_ A y.toNat) := by
  rw [setPrev, at_setI hi hy]; split
  · next h => subst h; rfl
  · rfl
theorem setPrev_eq {A : List Node_one} {i y v : Int} (hi : InA A i) (hy : 0 ≤ y) : (nodeA (setPrev A i v) y).Prev = if y = i then v else (nodeA A y).Prev := by
  rw [nodeA, setPrev, at_setI hi hy]; split <;> rfl
theorem setFirst_Parent {A : List Node_one} {i y v : Int} (hi : InA A i) (hy : 0 ≤ y) : (nodeA (setFirst A i v) y).Parent = (nodeA A y).Parent := by
  rw [nodeA, setFirst, at_setI hi hy]; split
  · next h => subst h; rfl
  · rfl
theorem setFirst_Last {A : List Node_one} {i y v : Int} (hi : InA A i) (hy : 0 ≤ y) : (nodeA (setFirst A i v) y).Last = (nodeA A y).Last := by
  rw [nodeA, setFirst, at_setI hi hy]; split
  · next h => subst h; rfl
  · rfl
theorem setFirst_Next {A : List Node_one} {i y v : Int} (hi : InA A i) (hy : 0 ≤ y) : (nodeA (setFirst A i v) y).Next = (nodeA A y).Next := by
  rw [nodeA, setFirst, at_setI hi hy]; split
  · next h => subst h; rfl
  · rfl
theorem setFirst_Prev {A : List Node_one} {i y v : Int} (hi : InA A i) (hy : 0 ≤ y) : (nodeA (setFirst A i v) y).Prev = (nodeA A y).Prev := by
  rw [nodeA, setFirst, at_setI hi hy]; split
  · next h => subst h; rfl
  · rfl
theorem setLast_Parent {A : List Node_one} {i y v : Int} (hi : InA A i) (hy : 0 ≤ y) : (nodeA (setLast A i v) y).Parent = (nodeA A y).Parent := by
  rw [nodeA, setLast, at_setI hi hy]; split
  · next h => subst h; rfl
  · rfl
theorem setLast_First {A : List Node_one} {i y v : Int} (hi : InA A i) (hy : 0 ≤ y) : (nodeA (setLast A i v) y).First = (nodeA A y).First := by
  rw [nodeA, setLast, at_setI hi hy]; split
  · next h => subst h; rfl
  · rfl
theorem setLast_Next {A : List Node_one} {i y v : Int} (hi : InA A i) (hy : 0 ≤ y) : (nodeA (setLast A i v) y).Next = (nodeA A y).Next := by
  rw [nodeA, setLast, at_setI hi hy]; split
  · next h => subst h; rfl
  · rfl
theorem setLast_Prev {A : List Node_one} {i y v : Int} (hi : InA A i) (hy : 0 ≤ y) : (nodeA (setLast A i v) y).Prev = (nodeA A y).Prev := by
  rw [nodeA, setLast, at_setI hi hy]; split
  · next h => subst h; rfl
  · rfl
theorem setNext_Parent {A : List Node_one} {i y v : Int} (hi : InA A i) (hy : 0 ≤ y) : (nodeA (setNext A i v) y).Parent = (nodeA A y).Parent := by
  rw [nodeA, setNext, at_setI hi hy]; split
  · next h => subst h; rfl
  · rfl
theorem setNext_First {A : List Node_one} {i y v : Int} (hi : InA A i) (hy : 0 ≤ y) : (nodeA (setNext A i v) y).First = (nodeA A y).First := by
  rw [nodeA, setNext, at_setI hi hy]; split
  · next h => subst h; rfl
  · rfl
theorem setNext_Last {A : List Node_one} {i y v : Int} (hi : InA A i) (hy : 0 ≤ y) : (nodeA (setNext A i v) y).Last = (nodeA A y).Last := by
  rw [nodeA, setNext, at_setI hi hy]; split
  · next h => subst h; rfl
  · rfl
theorem setNext_Prev {A : List Node_one} {i y v : Int} (hi : InA A i) (hy : 0 ≤ y) : (nodeA (setNext A i v) y).Prev = (nodeA A y).Prev := by
  rw [nodeA, setNext, at_setI hi hy]; split
  · next h => subst h; rfl
  · rfl
theorem setPrev_Parent {A : List Node_one} {i y v : Int} (hi : InA A i) (hy : 0 ≤ y) : (nodeA (setPrev A i v) y).Parent = (nodeA A y).Parent := by
  rw [nodeA, setPrev, at_setI hi hy]; split
  · next h => subst h; rfl
  · rfl
theorem setPrev_First {A : List Node_one} {i y v : Int} (hi : InA A i) (hy : 0 ≤ y) : (nodeA (setPrev A i v) y).First = (nodeA A y).First := by
  rw [nodeA, setPrev, at_setI hi hy]; split
  · next h => subst h; rfl
  · rfl
theorem setPrev_Last {A : List Node_one} {i y v : Int} (hi : InA A i) (hy : 0 ≤ y) : (nodeA (setPrev A i v) y).Last = (nodeA A y).Last := by
  rw [nodeA, setPrev, at_setI hi hy]; split
  · next h => subst h; rfl
  · rfl
theorem setPrev_Next {A : List Node_one} {i y v : Int} (hi : InA A i) (hy : 0 ≤ y) : (nodeA (setPrev A i v) y).Next = (nodeA A y).Next := by
  rw [nodeA, setPrev, at_setI hi hy]; split
  · next h => subst h; rfl
  · rfl
theorem setLinks_core {A : List Node_one} {i y u p n : Int} (hi : InA A i) (hy : 0 ≤ y) : coreN (at_ (setLinks A i u p n) y.toNat) = coreN (at_ A y.toNat) := by
  rw [setLinks, at_setI hi hy]; split
  · next h => subst h; rfl
  · rfl
theorem setLinks_Parent {A : List Node_one} {i y u p n : Int} (hi : InA A i) (hy : 0 ≤ y) : (nodeA (setLinks A i u p n) y).Parent = if y = i then u else (nodeA A y).Parent := by
  rw [nodeA, setLinks, at_setI hi hy]; split <;> rfl
theorem setLinks_Prev {A : List Node_one} {i y u p n : Int} (hi : InA A i) (hy : 0 ≤ y) : (nodeA (setLinks A i u p n) y).Prev = if y = i then p else (nodeA A y).Prev := by
  rw [nodeA, setLinks, at_setI hi hy]; split <;> rfl
theorem setLinks_Next {A : List Node_one} {i y u p n : Int} (hi : InA A i) (hy : 0 ≤ y) : (nodeA (setLinks A i u p n) y).Next = if y = i then n else (nodeA A y).Next := by
  rw [nodeA, setLinks, at_setI hi hy]; split <;> rfl
theorem setLinks_First {A : List Node_one} {i y u p n : Int} (hi : InA A i) (hy : 0 ≤ y) : (nodeA (setLinks A i u p n) y).First = (nodeA A y).First := by
  rw [nodeA, setLinks, at_setI hi hy]; split
  · next h => subst h; rfl
  · rfl
theorem setLinks_Last {A : List Node_one} {i y u p n : Int} (hi : InA A i) (hy : 0 ≤ y) : (nodeA (setLinks A i u p n) y).Last = (nodeA A y).Last := by
  rw [nodeA, setLinks, at_setI hi hy]; split
  · next h => subst h; rfl
  · rfl
theorem InA.len {A B : List Node_one} {x : Int} (h : InA A x) (e : B.length = A.length) : InA B x := ⟨h.1, by rw [e]; exact h.2⟩
/-- what a row of children's neighbours is joined to -/
structure Joined (A B : List Node_one) (up l r y : Int) : Prop where
  core : coreN (at_ B y.toNat) = coreN (at_ A y.toNat)
  parent : (nodeA B y).Parent = (nodeA A y).Parent
  first : (nodeA B y).First = if l = -1 ∧ y = up then r else (nodeA A y).First
  last : (nodeA B y).Last = if r = -1 ∧ y = up then l else (nodeA A y).Last
  next : (nodeA B y).Next = if l ≠ -1 ∧ y = l then r else (nodeA A y).Next
  prev : (nodeA B y).Prev = if r ≠ -1 ∧ y = r then l else (nodeA A y).Prev
theorem joined {A : List Node_one} {up l r y : Int} (hu : InA A up) (hl : l = -1 ∨ InA A l) (hr : r = -1 ∨ InA A r) (hy : 0 ≤ y) : Joined A (joinL A up l r) up l r y := by
  unfold joinL joinA
  by_cases h1 : l = -1
  · rw [if_pos h1]
    have hlen : (setFirst A up r).length = A.length := setFirst_len
    have hu2 : InA (setFirst A up r) up := hu.len hlen
    unfold joinB
    by_cases h2 : r = -1
    · rw [if_pos h2]
      constructor
      · rw [setLast_core hu2 hy, setFirst_core hu hy]
      · rw [setLast_Parent hu2 hy, setFirst_Parent hu hy]
      · rw [setLast_First hu2 hy, setFirst_eq hu hy]; simp [h1]
      · rw [setLast_eq hu2 hy, setFirst_Last hu hy]; simp [h2]
      · rw [setLast_Next hu2 hy, setFirst_Next hu hy]; simp [h1]
      · rw [setLast_Prev hu2 hy, setFirst_Prev hu hy]; simp [h2]
    · rw [if_neg h2]
      have hr2 : InA (setFirst A up r) r := (hr.resolve_left h2).len hlen
      constructor
      · rw [setPrev_core hr2 hy, setFirst_core hu hy]
      · rw [setPrev_Parent hr2 hy, setFirst_Parent hu hy]
      · rw [setPrev_First hr2 hy, setFirst_eq hu hy]; simp [h1]
      · rw [setPrev_Last hr2 hy, setFirst_Last hu hy]; simp [h2]
      · rw [setPrev_Next hr2 hy, setFirst_Next hu hy]; simp [h1]
      · rw [setPrev_eq hr2 hy, setFirst_Prev hu hy]; simp [h2]
  · rw [if_neg h1]
    have hl1 := hl.resolve_left h1
    have hlen : (setNext A l r).length = A.length := setNext_len
    have hu2 : InA (setNext A l r) up := hu.len hlen
    unfold joinB
    by_cases h2 : r = -1
    · rw [if_pos h2]
      constructor
      · rw [setLast_core hu2 hy, setNext_core hl1 hy]
      · rw [setLast_Parent hu2 hy, setNext_Parent hl1 hy]
      · rw [setLast_First hu2 hy, setNext_First hl1 hy]; simp [h1]
      · rw [setLast_eq hu2 hy, setNext_Last hl1 hy]; simp [h2]
      · rw [setLast_Next hu2 hy, setNext_eq hl1 hy]; simp [h1]
      · rw [setLast_Prev hu2 hy, setNext_Prev hl1 hy]; simp [h2]
    · rw [if_neg h2]
      have hr2 : InA (setNext A l r) r := (hr.resolve_left h2).len hlen
      constructor
      · rw [setPrev_core hr2 hy, setNext_core hl1 hy]
      · rw [setPrev_Parent hr2 hy, setNext_Parent hl1 hy]
      · rw [setPrev_First hr2 hy, setNext_First hl1 hy]; simp [h1]
      · rw [setPrev_Last hr2 hy, setNext_Last hl1 hy]; simp [h2]
      · rw [setPrev_Next hr2 hy, setNext_eq hl1 hy]; simp [h1]
      · rw [setPrev_eq hr2 hy, setNext_Prev hl1 hy]; simp [h2]
/-- a node that is put between l and r -/
structure Put (A B : List Node_one) (up id l r y : Int) : Prop where
  core : coreN (at_ B y.toNat) = coreN (at_ A y.toNat)
  parent : (nodeA B y).Parent = if y = id then up else (nodeA A y).Parent
  first : (nodeA B y).First = if l = -1 ∧ y = up then id else (nodeA A y).First
  last : (nodeA B y).Last = if r = -1 ∧ y = up then id else (nodeA A y).Last
  next : (nodeA B y).Next = if y = id then r else if l ≠ -1 ∧ y = l then id else (nodeA A y).Next
  prev : (nodeA B y).Prev = if y = id then l else if r ≠ -1 ∧ y = r then id else (nodeA A y).Prev
theorem put_at {A : List Node_one} {up id l r y : Int} (hi : InA A id) (hu : InA A up) (hl : l = -1 ∨ InA A l) (hr : r = -1 ∨ InA A r) (hli : l ≠ id) (hri : r ≠ id) (hy : 0 ≤ y) : Put A (joinL (joinL (setLinks A id up l r) up l id) up id r) up id l r y := by
  have e1 : (setLinks A id up l r).length = A.length := setLinks_len
  have e2 : (joinL (setLinks A id up l r) up l id).length = A.length := by rw [joinL_len, e1]
  have hne : id ≠ -1 := by have := hi.1; omega
  have j1 := joined (A := setLinks A id up l r) (up := up) (l := l) (r := id) (hu.len e1) (hl.imp (fun h => h) fun h => h.len e1) (.inr (hi.len e1)) hy
  have j2 := joined (A := joinL (setLinks A id up l r) up l id) (up := up) (l := id) (r := r) (hu.len e2) (.inr (hi.len e2)) (hr.imp (fun h => h) fun h => h.len e2) hy
  constructor
  · rw [j2.core, j1.core, setLinks_core hi hy]
  · rw [j2.parent, j1.parent, setLinks_Parent hi hy]
  · rw [j2.first, if_neg (by simp [hne]), j1.first, setLinks_First hi hy]
  · rw [j2.last, j1.last, if_neg (c := id = -1 ∧ y = up) (by simp [hne]), setLinks_Last hi hy]
  · rw [j2.next, j1.next, setLinks_Next hi hy]
    by_cases h : y = id
    · subst h; simp [hne]
    · simp [h]
  · rw [j2.prev, j1.prev, setLinks_Prev hi hy]
    by_cases h : y = id
    · subst h; simp [hne, hri.symm]
    · simp [h]
/-- a node that is taken away -/
structure Gone (A B : List Node_one) (up id l r y : Int) : Prop where
  core : coreN (at_ B y.toNat) = coreN (at_ A y.toNat)
  parent : (nodeA B y).Parent = if y = id then -1 else (nodeA A y).Parent
  first : (nodeA B y).First = if l = -1 ∧ y = up then r else (nodeA A y).First
  last : (nodeA B y).Last = if r = -1 ∧ y = up then l else (nodeA A y).Last
  next : (nodeA B y).Next = if y = id then -1 else if l ≠ -1 ∧ y = l then r else (nodeA A y).Next
  prev : (nodeA B y).Prev = if y = id then -1 else if r ≠ -1 ∧ y = r then l else (nodeA A y).Prev
theorem gone_at {A : List Node_one} {up id l r y : Int} (hi : InA A id) (hu : InA A up) (hl : l = -1 ∨ InA A l) (hr : r = -1 ∨ InA A r) (hy : 0 ≤ y) : Gone A (setLinks (joinL A up l r) id (-1) (-1) (-1)) up id l r y := by
  have e : (joinL A up l r).length = A.length := joinL_len
  have j := joined hu hl hr hy
  have hi2 := hi.len e
  constructor
  · rw [setLinks_core hi2 hy, j.core]
  · rw [setLinks_Parent hi2 hy, j.parent]
  · rw [setLinks_First hi2 hy, j.first]
  · rw [setLinks_Last hi2 hy, j.last]
  · rw [setLinks_Next hi2 hy, j.next]
  · rw [setLinks_Prev hi2 hy, j.prev]
end Go.Proofs.Ythkmnohghpdjhaa
end
section
set_option linter.unusedVariables false
set_option linter.unusedSimpArgs false
namespace Go.Proofs.Ythkmnohghpdjhaa
open Go Go.Hb Go.RowKit
abbrev headL (l : List Int) : Int := l.headD (-1)
abbrev lastL (l : List Int) : Int := l.getLastD (-1)
theorem lastL_app {l : List Int} {x : Int} : lastL (l ++ [x]) = x := by simp [lastL, List.getLastD_eq_getLast?]
theorem lastL_app2 {l m : List Int} (h : m ≠ []) : lastL (l ++ m) = lastL m := by
  simp only [lastL, List.getLastD_eq_getLast?, List.getLast?_append]
  cases e : m.getLast? with
  | none => exact absurd (List.getLast?_eq_none_iff.1 e) h
  | some v => rfl
theorem lastL_mem {l : List Int} (h : l ≠ []) : lastL l ∈ l := by
  simp only [lastL, List.getLastD_eq_getLast?]
  cases e : l.getLast? with
  | none => exact absurd (List.getLast?_eq_none_iff.1 e) h
  | some v => exact List.mem_of_getLast? e
theorem headL_app {l m : List Int} (h : l ≠ []) : headL (l ++ m) = headL l := by cases l with | nil => exact absurd rfl h | cons => rfl
theorem headL_mem {l : List Int} (h : l ≠ []) : headL l ∈ l := by cases l with | nil => exact absurd rfl h | cons => simp
/-- the links of x's children l -/
structure Lnk (A : List Node_one) (x : Int) (l : List Int) : Prop where
  first : (nodeA A x).First = headL l
  last : (nodeA A x).Last = lastL l
  kid : ∀ pre y suf, l = pre ++ y :: suf → InA A y ∧ (nodeA A y).Parent = x ∧ (nodeA A y).Prev = lastL pre ∧ (nodeA A y).Next = headL suf
theorem Lnk.mem {A : List Node_one} {x y : Int} {l : List Int} (h : Lnk A x l) (hy : y ∈ l) : InA A y ∧ (nodeA A y).Parent = x := by
  obtain ⟨pre, suf, rfl⟩ := List.append_of_mem hy
  have := h.kid pre y suf rfl
  exact ⟨this.1, this.2.1⟩
theorem Lnk.chain {A : List Node_one} {x : Int} {l : List Int} (h : Lnk A x l) : Chain A (nodeA A x).First l := by
  have key : ∀ suf pre : List Int, l = pre ++ suf → Chain A (headL suf) suf := by
    intro suf
    induction suf with
    | nil => intro pre _; rfl
    | cons y suf ih =>
      intro pre e
      obtain ⟨h1, _, _, h4⟩ := h.kid pre y suf e
      refine ⟨rfl, by have := h1.1; omega, h1.b, ?_⟩
      show Chain A (nodeA A y).Next suf
      rw [h4]
      exact ih (pre ++ [y]) (by simp [e])
  rw [h.first]
  exact key l [] rfl
theorem Lnk.firstIn {A : List Node_one} {x : Int} {l : List Int} (h : Lnk A x l) : (nodeA A x).First = -1 ∨ InA A (nodeA A x).First := by
  rw [h.first]
  cases l with
  | nil => exact .inl rfl
  | cons y l => exact .inr (h.mem (by simp)).1
theorem Lnk.lastIn {A : List Node_one} {x : Int} {l : List Int} (h : Lnk A x l) : (nodeA A x).Last = -1 ∨ InA A (nodeA A x).Last := by
  rw [h.last]
  by_cases e : l = []
  · subst e; exact .inl rfl
  · exact .inr (h.mem (lastL_mem e)).1
/-- the rows of children of all nodes -/
structure Tree (A : List Node_one) (K : Int → List Int) : Prop where
  lnk : ∀ x, InA A x → Lnk A x (K x)
  nodup : ∀ x, InA A x → (K x).Nodup
  up : ∀ y, InA A y → (nodeA A y).Parent ≠ -1 → InA A (nodeA A y).Parent ∧ y ∈ K (nodeA A y).Parent
  free : ∀ y, InA A y → (nodeA A y).Parent = -1 → (nodeA A y).Prev = -1 ∧ (nodeA A y).Next = -1
  host : ∀ y, InA A y → (at_ A y.toNat).host = -1 ∨ InA A (at_ A y.toNat).host
  hostK : ∀ y, InA A y → (nodeA A y).Kind ≠ 5 → (at_ A y.toNat).host = -1
  upK : ∀ y, InA A y → (nodeA A y).Parent ≠ -1 → (nodeA A y).Kind ≠ 5
  inner : ∀ y, InA A y → (nodeA A y).Inner = -1 ∨ InA A (nodeA A y).Inner
  rank : Ranked A
  attrs : AttrsOk A
theorem Tree.nbr {A : List Node_one} {K : Int → List Int} (h : Tree A K) {y : Int} (hy : InA A y) (hp : (nodeA A y).Parent ≠ -1) : ∃ pre suf, K (nodeA A y).Parent = pre ++ y :: suf ∧ (nodeA A y).Prev = lastL pre ∧ (nodeA A y).Next = headL suf := by
  obtain ⟨hu, hm⟩ := h.up y hy hp
  obtain ⟨pre, suf, e⟩ := List.append_of_mem hm
  obtain ⟨_, _, h3, h4⟩ := (h.lnk _ hu).kid pre y suf e
  exact ⟨pre, suf, e, h3, h4⟩
theorem Tree.prevIn {A : List Node_one} {K : Int → List Int} (h : Tree A K) {y : Int} (hy : InA A y) : (nodeA A y).Prev = -1 ∨ InA A (nodeA A y).Prev := by
  by_cases hp : (nodeA A y).Parent = -1
  · exact .inl (h.free y hy hp).1
  · obtain ⟨pre, suf, e, h3, h4⟩ := h.nbr hy hp
    rw [h3]
    by_cases e2 : pre = []
    · subst e2; exact .inl rfl
    · exact .inr ((h.lnk _ (h.up y hy hp).1).mem (by rw [e]; exact List.mem_append_left _ (lastL_mem e2))).1
theorem Tree.nextIn {A : List Node_one} {K : Int → List Int} (h : Tree A K) {y : Int} (hy : InA A y) : (nodeA A y).Next = -1 ∨ InA A (nodeA A y).Next := by
  by_cases hp : (nodeA A y).Parent = -1
  · exact .inl (h.free y hy hp).2
  · obtain ⟨pre, suf, e, h3, h4⟩ := h.nbr hy hp
    rw [h4]
    by_cases e2 : suf = []
    · subst e2; exact .inl rfl
    · exact .inr ((h.lnk _ (h.up y hy hp).1).mem (by rw [e]; exact List.mem_append_right _ (List.mem_cons_of_mem _ (headL_mem e2)))).1
theorem Tree.links {A : List Node_one} {K : Int → List Int} (h : Tree A K) : LinksOk A where
  first x hx := (h.lnk x (inA_iff.1 hx)).firstIn
  last x hx := (h.lnk x (inA_iff.1 hx)).lastIn
  prev x hx := h.prevIn (inA_iff.1 hx)
  next x hx := h.nextIn (inA_iff.1 hx)
  parent x hx := by
    by_cases e : (nodeA A x).Parent = -1
    · exact .inl e
    · exact .inr (h.up x (inA_iff.1 hx) e).1
/-- a row without repeats of numbers below n is no longer than n -/
theorem nodup_le : ∀ (n : Nat) (l : List Int), l.Nodup → (∀ x ∈ l, 0 ≤ x ∧ x < n) → l.length ≤ n := by
  intro n
  induction n with
  | zero =>
    intro l _ h
    cases l with
    | nil => exact Nat.le_refl _
    | cons x l => have := h x (by simp); omega
  | succ n ih =>
    intro l hn h
    by_cases hm : (n : Int) ∈ l
    · have h1 := ih (l.erase n) (hn.erase _) (fun x hx => by
        have := h x (List.mem_of_mem_erase hx)
        have hne : x ≠ n := fun e => by subst e; exact hn.not_mem_erase hx
        omega)
      rw [List.length_erase_of_mem hm] at h1
      omega
    · have := ih l hn (fun x hx => by
        have := h x hx
        have hne : x ≠ n := fun e => by subst e; exact hm hx
        omega)
      omega
theorem Tree.len {A : List Node_one} {K : Int → List Int} (h : Tree A K) {x : Int} (hx : InA A x) : (K x).length ≤ A.length := nodup_le _ _ (h.nodup x hx) fun y hy => ((h.lnk x hx).mem hy).1
/-- the row with id ahead of before, or at the end -/
def insB (id before : Int) : List Int → List Int
  | [] => if before = -1 then [id] else []
  | y :: l => if y = before then id :: y :: insB id before l else y :: insB id before l
theorem insB_end {id : Int} : ∀ {l : List Int}, (∀ y ∈ l, y ≠ -1) → insB id (-1) l = l ++ [id]
  | [], _ => rfl
  | y :: l, h => by rw [insB, if_neg (h y (by simp)), insB_end fun z hz => h z (by simp [hz])]; rfl
theorem insB_not {id before : Int} (hb : before ≠ -1) : ∀ {l : List Int}, before ∉ l → insB id before l = l
  | [], _ => by rw [insB, if_neg hb]
  | y :: l, h => by rw [insB, if_neg (fun e => h (by simp [e])), insB_not hb fun hm => h (by simp [hm])]
theorem insB_at {id before : Int} (hb : before ≠ -1) : ∀ {pre suf : List Int}, (pre ++ before :: suf).Nodup → insB id before (pre ++ before :: suf) = pre ++ id :: before :: suf
  | [], suf, h => by
    show insB id before (before :: suf) = _
    rw [insB, if_pos rfl, insB_not hb (by simpa using (List.nodup_cons.1 h).1)]; rfl
  | y :: pre, suf, h => by
    have h2 := List.nodup_cons.1 h
    show insB id before (y :: (pre ++ before :: suf)) = _
    rw [insB, if_neg (fun e => h2.1 (by simp [e])), insB_at hb h2.2]; rfl
end Go.Proofs.Ythkmnohghpdjhaa
end
section
set_option linter.unusedVariables false
set_option linter.unusedSimpArgs false
namespace Go.Proofs.Ythkmnohghpdjhaa
open Go Go.Hb Go.RowKit
theorem app_cut {l1 l2 pre suf : List Int} {id y : Int} (h : l1 ++ id :: l2 = pre ++ y :: suf) : (y = id ∧ pre = l1 ∧ suf = l2) ∨ (∃ m, l2 = m ++ y :: suf ∧ pre = l1 ++ id :: m) ∨ (∃ m, l1 = pre ++ y :: m ∧ suf = m ++ id :: l2) := by
  rcases List.append_eq_append_iff.1 h with ⟨a, e1, e2⟩ | ⟨c, e1, e2⟩
  · cases a with
    | nil => injection e2 with e3 e4; exact .inl ⟨e3.symm, by simpa using e1, e4.symm⟩
    | cons b a => injection e2 with e3 e4; subst e3; exact .inr (.inl ⟨a, e4, e1⟩)
  · cases c with
    | nil => injection e2 with e3 e4; exact .inl ⟨e3, by simpa using e1.symm, e4⟩
    | cons b c => injection e2 with e3 e4; subst e3; exact .inr (.inr ⟨c, e1, e4⟩)
theorem app_cut2 {l1 l2 pre suf : List Int} {y : Int} (h : l1 ++ l2 = pre ++ y :: suf) : (∃ m, l2 = m ++ y :: suf ∧ pre = l1 ++ m) ∨ (∃ m, l1 = pre ++ y :: m ∧ suf = m ++ l2) := by
  rcases List.append_eq_append_iff.1 h with ⟨a, e1, e2⟩ | ⟨c, e1, e2⟩
  · exact .inl ⟨a, e2, e1⟩
  · cases c with
    | nil => exact .inl ⟨[], by simpa using e2.symm, by simpa using e1.symm⟩
    | cons b c => injection e2 with e3 e4; subst e3; exact .inr ⟨c, e1, e4⟩
theorem nodup_ne {l1 l2 : List Int} {x y : Int} (h : (l1 ++ l2).Nodup) (hx : x ∈ l1) (hy : y ∈ l2) : x ≠ y := (List.nodup_append.1 h).2.2 x hx y hy
theorem Lnk.put {A B : List Node_one} {up id : Int} {l1 l2 : List Int} (h : Lnk A up (l1 ++ l2)) (hn : (l1 ++ l2).Nodup) (hlen : B.length = A.length) (hu : InA A up) (hi : InA A id) (hni : id ∉ l1 ++ l2)
    (hp : ∀ y, 0 ≤ y → Put A B up id (lastL l1) (headL l2) y) : Lnk B up (l1 ++ id :: l2) := by
  have hi0 := hi.1
  have hu0 := hu.1
  have m1 : ∀ {m}, l1 ≠ [] → m = lastL l1 → m ∈ l1 := fun h e => e ▸ lastL_mem h
  have pu := hp up hu0
  constructor
  · rw [pu.first]
    by_cases e : l1 = []
    · subst e; rw [if_pos ⟨rfl, rfl⟩]; rfl
    · have := (h.mem (List.mem_append_left l2 (lastL_mem e))).1.1
      rw [if_neg (by omega), h.first, headL_app e, headL_app e]
  · rw [pu.last]
    by_cases e : l2 = []
    · subst e; rw [if_pos ⟨rfl, rfl⟩, lastL_app2 (by simp)]; rfl
    · have := (h.mem (List.mem_append_right l1 (headL_mem e))).1.1
      rw [if_neg (by omega), h.last, lastL_app2 e, lastL_app2 (by simp), show id :: l2 = [id] ++ l2 from rfl, lastL_app2 e]
  · intro pre y suf e
    rcases app_cut e with ⟨rfl, rfl, rfl⟩ | ⟨m, rfl, rfl⟩ | ⟨m, rfl, rfl⟩
    · have py := hp y hi0
      exact ⟨hi.len hlen, by rw [py.parent, if_pos rfl], by rw [py.prev, if_pos rfl], by rw [py.next, if_pos rfl]⟩
    · have hy := h.kid (l1 ++ m) y suf (by simp)
      obtain ⟨g1, g2, g3, g4⟩ := hy
      have py := hp y g1.1
      have hne : y ≠ id := fun e => hni (by simp [e])
      refine ⟨g1.len hlen, by rw [py.parent, if_neg hne, g2], ?_, ?_⟩
      · rw [py.prev, if_neg hne]
        by_cases em : m = []
        · subst em
          have := g1.1
          rw [if_pos ⟨by show y ≠ -1; omega, rfl⟩, lastL_app]
        · have hyr : y ≠ headL (m ++ y :: suf) := by
            rw [headL_app em]
            have h2 := (List.nodup_append.1 hn).2.1
            exact (nodup_ne h2 (headL_mem em) (by simp)).symm
          rw [if_neg (fun h => hyr h.2), g3, lastL_app2 em, lastL_app2 (by simp), show id :: m = [id] ++ m from rfl, lastL_app2 em]
      · rw [py.next, if_neg hne, if_neg, g4]
        rintro ⟨k1, k2⟩
        by_cases e1 : l1 = []
        · subst e1; exact k1 rfl
        · exact nodup_ne hn (lastL_mem e1) (y := y) (by simp) k2.symm
    · have hy := h.kid pre y (m ++ l2) (by simp)
      obtain ⟨g1, g2, g3, g4⟩ := hy
      have py := hp y g1.1
      have hne : y ≠ id := fun e => hni (by simp [e])
      refine ⟨g1.len hlen, by rw [py.parent, if_neg hne, g2], ?_, ?_⟩
      · rw [py.prev, if_neg hne, if_neg, g3]
        rintro ⟨k1, k2⟩
        by_cases e1 : l2 = []
        · subst e1; exact k1 rfl
        · exact nodup_ne hn (x := y) (by simp) (headL_mem e1) k2
      · rw [py.next, if_neg hne]
        by_cases em : m = []
        · subst em
          have := g1.1
          rw [if_pos ⟨by rw [lastL_app]; omega, by rw [lastL_app]⟩]
          rfl
        · have hyr : y ≠ lastL (pre ++ y :: m) := by
            rw [show pre ++ y :: m = (pre ++ [y]) ++ m by simp, lastL_app2 em]
            have h2 := (List.nodup_append.1 (List.nodup_append.1 hn).1).2.1
            exact fun e => (List.nodup_cons.1 h2).1 (e ▸ lastL_mem em)
          rw [if_neg (fun h => hyr h.2), g4, headL_app em, headL_app em]
theorem Lnk.gone {A B : List Node_one} {up id : Int} {l1 l2 : List Int} (h : Lnk A up (l1 ++ id :: l2)) (hn : (l1 ++ id :: l2).Nodup) (hlen : B.length = A.length) (hu : InA A up)
    (hp : ∀ y, 0 ≤ y → Gone A B up id (lastL l1) (headL l2) y) : Lnk B up (l1 ++ l2) := by
  have hu0 := hu.1
  have pu := hp up hu0
  have hn1 := (List.nodup_append.1 hn).1
  have hn2 := List.nodup_cons.1 (List.nodup_append.1 hn).2.1
  constructor
  · rw [pu.first]
    by_cases e : l1 = []
    · subst e; rw [if_pos ⟨rfl, rfl⟩]; rfl
    · have := (h.mem (List.mem_append_left _ (lastL_mem e))).1.1
      rw [if_neg (by omega), h.first, headL_app e, headL_app e]
  · rw [pu.last]
    by_cases e : l2 = []
    · subst e; rw [if_pos ⟨rfl, rfl⟩, List.append_nil]
    · have := (h.mem (List.mem_append_right l1 (List.mem_cons_of_mem id (headL_mem e)))).1.1
      rw [if_neg (by omega), h.last, lastL_app2 e, lastL_app2 (by simp), show id :: l2 = [id] ++ l2 from rfl, lastL_app2 e]
  · intro pre y suf e
    rcases app_cut2 e with ⟨m, rfl, rfl⟩ | ⟨m, rfl, rfl⟩
    · obtain ⟨g1, g2, g3, g4⟩ := h.kid (l1 ++ id :: m) y suf (by simp)
      have py := hp y g1.1
      have hne : y ≠ id := fun e => hn2.1 (by simp [e])
      refine ⟨g1.len hlen, by rw [py.parent, if_neg hne, g2], ?_, ?_⟩
      · rw [py.prev, if_neg hne]
        by_cases em : m = []
        · subst em
          have := g1.1
          rw [if_pos ⟨by show y ≠ -1; omega, rfl⟩, List.append_nil]
        · have hyr : y ≠ headL (m ++ y :: suf) := by
            rw [headL_app em]
            exact (nodup_ne hn2.2 (headL_mem em) (by simp)).symm
          rw [if_neg (fun h => hyr h.2), g3, lastL_app2 em, lastL_app2 (by simp), show id :: m = [id] ++ m from rfl, lastL_app2 em]
      · rw [py.next, if_neg hne, if_neg, g4]
        rintro ⟨k1, k2⟩
        by_cases e1 : l1 = []
        · subst e1; exact k1 rfl
        · exact nodup_ne hn (lastL_mem e1) (y := y) (by simp) k2.symm
    · obtain ⟨g1, g2, g3, g4⟩ := h.kid pre y (m ++ id :: l2) (by simp)
      have py := hp y g1.1
      have hne : y ≠ id := nodup_ne hn (by simp) (by simp)
      refine ⟨g1.len hlen, by rw [py.parent, if_neg hne, g2], ?_, ?_⟩
      · rw [py.prev, if_neg hne, if_neg, g3]
        rintro ⟨k1, k2⟩
        by_cases e1 : l2 = []
        · subst e1; exact k1 rfl
        · exact nodup_ne hn (x := y) (by simp) (List.mem_cons_of_mem id (headL_mem e1)) k2
      · rw [py.next, if_neg hne]
        by_cases em : m = []
        · subst em
          have := g1.1
          rw [if_pos ⟨by rw [lastL_app]; omega, by rw [lastL_app]⟩]
          rfl
        · have hyr : y ≠ lastL (pre ++ y :: m) := by
            rw [show pre ++ y :: m = (pre ++ [y]) ++ m by simp, lastL_app2 em]
            have h2 := (List.nodup_append.1 hn1).2.1
            exact fun e => (List.nodup_cons.1 h2).1 (e ▸ lastL_mem em)
          rw [if_neg (fun h => hyr h.2), g4, headL_app em, headL_app em]
end Go.Proofs.Ythkmnohghpdjhaa
end
section
set_option linter.unusedVariables false
set_option linter.unusedSimpArgs false
namespace Go.Proofs.Ythkmnohghpdjhaa
open Go Go.Hb Go.RowKit
theorem core_kind {o p : Node_one} (h : coreN o = coreN p) : o.Node.Kind = p.Node.Kind := by
  have := congrArg (fun z : Node_one => z.Node.Kind) h
  exact this
theorem core_host {o p : Node_one} (h : coreN o = coreN p) : o.host = p.host := by
  have := congrArg (fun z : Node_one => z.host) h
  exact this
theorem core_inner {o p : Node_one} (h : coreN o = coreN p) : o.Node.Inner = p.Node.Inner := by
  have := congrArg (fun z : Node_one => z.Node.Inner) h
  exact this
theorem core_attrs {o p : Node_one} (h : coreN o = coreN p) : o.Node.Attrs = p.Node.Attrs := by
  have := congrArg (fun z : Node_one => z.Node.Attrs) h
  exact this
theorem toNat_nat {i : Nat} : ((i : Int)).toNat = i := rfl
theorem attrs_core {A B : List Node_one} (hl : B.length = A.length) (hc : ∀ y : Int, 0 ≤ y → coreN (at_ B y.toNat) = coreN (at_ A y.toNat)) (h : AttrsOk A) : AttrsOk B := fun i hi => by
  have := hc i (by omega)
  rw [toNat_nat] at this
  rw [core_attrs this]; exact h i (by omega)
/-- where a link goes -/
structure LinkAt (A : List Node_one) (K : Int → List Int) (up id before : Int) (l1 l2 : List Int) : Prop where
  hup : InA A up
  hid : InA A id
  kup : parentB (nodeA A up).Kind = true
  kid : (nodeA A id).Kind ≠ 0 ∧ (nodeA A id).Kind ≠ 5
  free : (nodeA A id).Parent = -1
  above : ¬ Anc A up id
  row : K up = l1 ++ l2
  bef : before = headL l2
  prev : prevL A up before = lastL l1
  new : insB id before (K up) = l1 ++ id :: l2
  res : linkL A up id before = (0, joinL (joinL (setLinks A id up (lastL l1) before) up (lastL l1) id) up id before)
theorem link_ok {A : List Node_one} {K : Int → List Int} (h : Tree A K) {up id before : Int} (h0 : (linkL A up id before).1 = 0) : ∃ l1 l2, LinkAt A K up id before l1 l2 := by
  unfold linkL at h0
  split at h0; · simp at h0
  next c1 =>
  split at h0; · simp at h0
  next c2 =>
  split at h0; · simp at h0
  next c3 =>
  split at h0; · simp at h0
  next c4 =>
  have e1 : linkL A up id before = (0, joinL (joinL (setLinks A id up (prevL A up before) before) up (prevL A up before) id) up id before) := by
    unfold linkL; rw [if_neg c1, if_neg c2, if_neg c3, if_neg c4]
  have hup : InA A up := by
    rw [← inA_iff]; cases hb : hasB A up with
    | true => rfl
    | false => exact absurd (.inl hb) c1
  have hid : InA A id := by
    rw [← inA_iff]; cases hb : hasB A id with
    | true => rfl
    | false => exact absurd (.inr (.inl hb)) c1
  have hbe : before = -1 ∨ InA A before := by
    by_cases hb : before = -1
    · exact .inl hb
    · right; rw [← inA_iff]; cases hb2 : hasB A before with
      | true => rfl
      | false => exact absurd (.inr (.inr ⟨hb, hb2⟩)) c1
  have kup : parentB (nodeA A up).Kind = true := by
    cases hb : parentB (nodeA A up).Kind with
    | true => rfl
    | false => exact absurd (.inl hb) c2
  have free : (nodeA A id).Parent = -1 := by
    by_cases hb : (nodeA A id).Parent = -1
    · exact hb
    · exact absurd (.inl hb) c3
  have above : ¬ Anc A up id := fun hA => c3 (.inr (by rw [aboveB, hup.b, hid.b, ancB_of hA]; rfl))
  have kid : (nodeA A id).Kind ≠ 0 ∧ (nodeA A id).Kind ≠ 5 := ⟨fun hb => c2 (.inr (.inl hb)), fun hb => c2 (.inr (.inr hb))⟩
  by_cases hb : before = -1
  · subst hb
    have e2 : prevL A up (-1) = lastL (K up) := by rw [prevL, if_pos rfl]; exact (h.lnk up hup).last
    refine ⟨K up, [], hup, hid, kup, kid, free, above, by simp, rfl, e2, ?_, ?_⟩
    · rw [insB_end fun y hy => ?_]
      have := ((h.lnk up hup).mem hy).1.1; omega
    · rw [e1, e2]
  · have hbi := hbe.resolve_left hb
    have hpb : (nodeA A before).Parent = up := by
      by_cases hp : (nodeA A before).Parent = up
      · exact hp
      · exact absurd ⟨hb, hp⟩ c4
    obtain ⟨pre, suf, e, e3, _⟩ := h.nbr hbi (by rw [hpb]; have := hup.1; omega)
    rw [hpb] at e
    have e2 : prevL A up before = lastL pre := by rw [prevL, if_neg hb]; exact e3
    have hnd := h.nodup up hup
    refine ⟨pre, before :: suf, hup, hid, kup, kid, free, above, e, rfl, e2, ?_, ?_⟩
    · rw [e] at hnd ⊢; exact insB_at hb hnd
    · rw [e1, e2]
theorem LinkAt.put {A : List Node_one} {K : Int → List Int} (h : Tree A K) {up id before : Int} {l1 l2 : List Int} (g : LinkAt A K up id before l1 l2) : id ∉ l1 ++ l2 ∧ ∀ y, 0 ≤ y → Put A (linkL A up id before).2 up id (lastL l1) (headL l2) y := by
  have hL := h.lnk up g.hup
  rw [g.row] at hL
  have hni : id ∉ l1 ++ l2 := fun hm => by have := (hL.mem hm).2; rw [g.free] at this; have := g.hup.1; omega
  refine ⟨hni, fun y hy => ?_⟩
  rw [g.res, g.bef]
  refine put_at g.hid g.hup ?_ ?_ ?_ ?_ hy
  · by_cases e : l1 = []
    · subst e; exact .inl rfl
    · exact .inr (hL.mem (List.mem_append_left _ (lastL_mem e))).1
  · by_cases e : l2 = []
    · subst e; exact .inl rfl
    · exact .inr (hL.mem (List.mem_append_right _ (headL_mem e))).1
  · by_cases e : l1 = []
    · subst e; have := g.hid.1; show (-1 : Int) ≠ id; omega
    · exact fun e2 => hni (e2 ▸ List.mem_append_left _ (lastL_mem e))
  · by_cases e : l2 = []
    · subst e; have := g.hid.1; show (-1 : Int) ≠ id; omega
    · exact fun e2 => hni (e2 ▸ List.mem_append_right _ (headL_mem e))
def linkK (K : Int → List Int) (up id before : Int) : Int → List Int := fun x => if x = up then insB id before (K up) else K x
theorem rank_link {A B : List Node_one} {up id : Int} (hl : B.length = A.length) (hr : Ranked A) (hup : InA A up) (hid : InA A id) (hroot : nextUp A id = -1) (hna : ¬ Anc A up id) (hn : ∀ y, InA A y → nextUp B y = if y = id then up else nextUp A y) : Ranked B := by
  obtain ⟨rk, hrk⟩ := hr
  refine ⟨fun x => @ite Nat (Anc A x id) (Classical.propDecidable _) (rk x + rk up + 1) (rk x), fun x hx => ?_⟩
  have hxA : InA A x := ⟨(inA_iff.1 hx).1, by have := (inA_iff.1 hx).2; omega⟩
  rw [hn x hxA]
  by_cases e : x = id
  · subst e
    rw [if_pos rfl]
    right
    refine ⟨(hup.len hl).b, ?_⟩
    dsimp only
    rw [if_neg hna, if_pos (.refl x)]
    omega
  · rw [if_neg e]
    rcases hrk x hxA.b with h1 | ⟨h1, h2⟩
    · exact .inl h1
    · right
      refine ⟨((inA_iff.1 h1).len hl).b, ?_⟩
      dsimp only
      by_cases hA : Anc A x id
      · have := (anc_ne e (by have := hxA.1; omega)).1 hA
        rw [if_pos hA, if_pos this]; omega
      · rw [if_neg hA, if_neg (fun h => hA (.step (by have := hxA.1; omega) h))]; exact h2
theorem Tree.link {A : List Node_one} {K : Int → List Int} (h : Tree A K) {up id before : Int} (h0 : (linkL A up id before).1 = 0) : Tree (linkL A up id before).2 (linkK K up id before) := by
  obtain ⟨l1, l2, g⟩ := link_ok h h0
  obtain ⟨hni, hp⟩ := g.put h
  have hl : (linkL A up id before).2.length = A.length := linkL_len
  obtain ⟨B, hB⟩ : ∃ B, B = (linkL A up id before).2 := ⟨_, rfl⟩
  rw [← hB] at hp hl ⊢
  have hiA : ∀ {y}, InA B y → InA A y := fun h => h.len hl.symm
  have hL := h.lnk up g.hup
  have hN := h.nodup up g.hup
  rw [g.row] at hL hN
  have hu0 := g.hup.1
  have hpar : ∀ y, InA A y → (nodeA B y).Parent = if y = id then up else (nodeA A y).Parent := fun y hy => (hp y hy.1).parent
  constructor
  · intro x hx
    have hxA := hiA hx
    by_cases e : x = up
    · subst e
      rw [linkK, if_pos rfl, g.new]
      exact hL.put hN hl g.hup g.hid hni hp
    · rw [linkK, if_neg e]
      have hX := h.lnk x hxA
      have px := hp x hxA.1
      refine ⟨by rw [px.first, if_neg (fun h => e h.2), hX.first], by rw [px.last, if_neg (fun h => e h.2), hX.last], fun pre y suf ey => ?_⟩
      obtain ⟨g1, g2, g3, g4⟩ := hX.kid pre y suf ey
      have py := hp y g1.1
      have hne : y ≠ id := fun e2 => by rw [e2, g.free] at g2; have := hxA.1; omega
      have hnu : ∀ z, z ∈ l1 ++ l2 → y ≠ z := fun z hz e2 => by rw [e2, (hL.mem hz).2] at g2; exact e g2.symm
      refine ⟨g1.len hl, by rw [py.parent, if_neg hne, g2], ?_, ?_⟩
      · rw [py.prev, if_neg hne, if_neg, g3]
        rintro ⟨k1, k2⟩
        by_cases e1 : l2 = []
        · subst e1; exact k1 rfl
        · exact hnu _ (List.mem_append_right _ (headL_mem e1)) k2
      · rw [py.next, if_neg hne, if_neg, g4]
        rintro ⟨k1, k2⟩
        by_cases e1 : l1 = []
        · subst e1; exact k1 rfl
        · exact hnu _ (List.mem_append_left _ (lastL_mem e1)) k2
  · intro x hx
    by_cases e : x = up
    · subst e
      rw [linkK, if_pos rfl, g.new]
      have h3 := List.nodup_append.1 hN
      refine List.nodup_append.2 ⟨h3.1, List.nodup_cons.2 ⟨fun hm => hni (List.mem_append_right _ hm), h3.2.1⟩, fun a ha b hb => ?_⟩
      rcases List.mem_cons.1 hb with rfl | hb
      · exact fun e => hni (e ▸ List.mem_append_left _ ha)
      · exact h3.2.2 a ha b hb
    · rw [linkK, if_neg e]; exact h.nodup x (hiA hx)
  · intro y hy hpy
    have hyA := hiA hy
    rw [hpar y hyA] at hpy ⊢
    by_cases e : y = id
    · subst e
      rw [if_pos rfl]
      exact ⟨g.hup.len hl, by rw [linkK, if_pos rfl, g.new]; simp⟩
    · rw [if_neg e] at hpy ⊢
      obtain ⟨h1, h2⟩ := h.up y hyA hpy
      refine ⟨h1.len hl, ?_⟩
      by_cases e2 : (nodeA A y).Parent = up
      · rw [linkK, if_pos e2, g.new]
        rw [e2, g.row] at h2
        rcases List.mem_append.1 h2 with h2 | h2
        · exact List.mem_append_left _ h2
        · exact List.mem_append_right _ (List.mem_cons_of_mem _ h2)
      · rw [linkK, if_neg e2]; exact h2
  · intro y hy hpy
    have hyA := hiA hy
    rw [hpar y hyA] at hpy
    by_cases e : y = id
    · subst e; rw [if_pos rfl] at hpy; omega
    · rw [if_neg e] at hpy
      obtain ⟨h1, h2⟩ := h.free y hyA hpy
      have py := hp y hyA.1
      have hnu : ∀ z, z ∈ l1 ++ l2 → y ≠ z := fun z hz e2 => by have := (hL.mem hz).2; rw [← e2, hpy] at this; omega
      constructor
      · rw [py.prev, if_neg e, if_neg, h1]
        rintro ⟨k1, k2⟩
        by_cases e1 : l2 = []
        · subst e1; exact k1 rfl
        · exact hnu _ (List.mem_append_right _ (headL_mem e1)) k2
      · rw [py.next, if_neg e, if_neg, h2]
        rintro ⟨k1, k2⟩
        by_cases e1 : l1 = []
        · subst e1; exact k1 rfl
        · exact hnu _ (List.mem_append_left _ (lastL_mem e1)) k2
  · intro y hy
    rw [core_host (hp y hy.1).core]
    exact (h.host y (hiA hy)).imp (fun h => h) fun h => h.len hl
  · intro y hy hk
    rw [nodeA, core_kind (hp y hy.1).core] at hk
    rw [core_host (hp y hy.1).core]
    exact h.hostK y (hiA hy) hk
  · intro y hy hpy
    rw [nodeA, core_kind (hp y hy.1).core]
    rw [hpar y (hiA hy)] at hpy
    by_cases e : y = id
    · subst e; exact g.kid.2
    · rw [if_neg e] at hpy; exact h.upK y (hiA hy) hpy
  · intro y hy
    rw [nodeA, core_inner (hp y hy.1).core]
    exact (h.inner y (hiA hy)).imp (fun h => h) fun h => h.len hl
  · refine rank_link hl h.rank g.hup g.hid ?_ g.above fun y hy => ?_
    · have e := g.free
      simp only [nodeA] at e
      rw [nextUp, if_pos e]; exact h.hostK id g.hid g.kid.2
    · have e := hpar y hy
      simp only [nodeA] at e
      simp only [nextUp, e, core_host (hp y hy.1).core]
      by_cases e2 : y = id
      · rw [if_pos e2, if_pos e2, if_neg (by omega)]
      · rw [if_neg e2, if_neg e2]
  · exact attrs_core hl (fun y hy => (hp y hy).core) h.attrs
end Go.Proofs.Ythkmnohghpdjhaa
end
section
set_option linter.unusedVariables false
set_option linter.unusedSimpArgs false
namespace Go.Proofs.Ythkmnohghpdjhaa
open Go Go.Hb Go.RowKit
def unlinkK (K : Int → List Int) (up id : Int) : Int → List Int := fun x => if x = up then (K x).filter (fun y => y ≠ id) else K x
theorem filter_gone {id : Int} {l1 l2 : List Int} (hn : (l1 ++ id :: l2).Nodup) : (l1 ++ id :: l2).filter (fun y => y ≠ id) = l1 ++ l2 := by
  have h1 : ∀ {l : List Int}, id ∉ l → l.filter (fun y => y ≠ id) = l := fun h => List.filter_eq_self.2 fun y hy => by simp; exact fun e => h (e ▸ hy)
  have h2 := List.nodup_append.1 hn
  rw [List.filter_append, List.filter_cons, if_neg (by simp), h1 (fun h => h2.2.2 id h id (by simp) rfl), h1 (List.nodup_cons.1 h2.2.1).1]
structure UnlinkAt (A : List Node_one) (K : Int → List Int) (id : Int) (l1 l2 : List Int) : Prop where
  hid : InA A id
  par : (nodeA A id).Parent ≠ -1
  hup : InA A (nodeA A id).Parent
  row : K (nodeA A id).Parent = l1 ++ id :: l2
  prev : (nodeA A id).Prev = lastL l1
  next : (nodeA A id).Next = headL l2
  res : unlinkL A id = (0, setLinks (joinL A (nodeA A id).Parent (lastL l1) (headL l2)) id (-1) (-1) (-1))
theorem unlink_ok {A : List Node_one} {K : Int → List Int} (h : Tree A K) {id : Int} (h0 : (unlinkL A id).1 = 0) : ∃ l1 l2, UnlinkAt A K id l1 l2 := by
  unfold unlinkL at h0
  split at h0; · simp at h0
  next c1 =>
  split at h0; · simp at h0
  next c2 =>
  have hid : InA A id := by
    rw [← inA_iff]; cases hb : hasB A id with
    | true => rfl
    | false => exact absurd hb c1
  obtain ⟨l1, l2, e, e1, e2⟩ := h.nbr hid c2
  refine ⟨l1, l2, hid, c2, (h.up id hid c2).1, e, e1, e2, ?_⟩
  simp only [nodeA] at e1 e2
  rw [unlinkL, if_neg c1, if_neg c2, e1, e2]
theorem Tree.unlink {A : List Node_one} {K : Int → List Int} (h : Tree A K) {id : Int} (h0 : (unlinkL A id).1 = 0) : Tree (unlinkL A id).2 (unlinkK K (nodeA A id).Parent id) := by
  obtain ⟨l1, l2, g⟩ := unlink_ok h h0
  obtain ⟨up, hupe⟩ : ∃ up, up = (nodeA A id).Parent := ⟨_, rfl⟩
  have hL := h.lnk _ g.hup
  have hN := h.nodup _ g.hup
  rw [g.row] at hL hN
  have hp : ∀ y, 0 ≤ y → Gone A (unlinkL A id).2 (nodeA A id).Parent id (lastL l1) (headL l2) y := fun y hy => by
    rw [g.res]
    refine gone_at g.hid g.hup ?_ ?_ hy
    · by_cases e : l1 = []
      · subst e; exact .inl rfl
      · exact .inr (hL.mem (List.mem_append_left _ (lastL_mem e))).1
    · by_cases e : l2 = []
      · subst e; exact .inl rfl
      · exact .inr (hL.mem (List.mem_append_right _ (List.mem_cons_of_mem _ (headL_mem e)))).1
  have hl : (unlinkL A id).2.length = A.length := unlinkL_len
  obtain ⟨B, hB⟩ : ∃ B, B = (unlinkL A id).2 := ⟨_, rfl⟩
  have grow := g.row
  have ghup := g.hup
  have gpar := g.par
  rw [← hB] at hp hl ⊢
  rw [← hupe] at hp hL grow ghup gpar ⊢
  have hiA : ∀ {y}, InA B y → InA A y := fun h => h.len hl.symm
  have hu0 := ghup.1
  have hpar : ∀ y, InA A y → (nodeA B y).Parent = if y = id then -1 else (nodeA A y).Parent := fun y hy => (hp y hy.1).parent
  have m1 : ∀ {z}, z ∈ l1 ++ l2 → z ∈ l1 ++ id :: l2 := fun hz => by
    rcases List.mem_append.1 hz with hz | hz
    · exact List.mem_append_left _ hz
    · exact List.mem_append_right _ (List.mem_cons_of_mem _ hz)
  constructor
  · intro x hx
    have hxA := hiA hx
    by_cases e : x = up
    · subst e
      rw [unlinkK, if_pos rfl, grow, filter_gone hN]
      exact hL.gone hN hl ghup hp
    · rw [unlinkK, if_neg e]
      have hX := h.lnk x hxA
      have px := hp x hxA.1
      refine ⟨by rw [px.first, if_neg (fun h => e h.2), hX.first], by rw [px.last, if_neg (fun h => e h.2), hX.last], fun pre y suf ey => ?_⟩
      obtain ⟨g1, g2, g3, g4⟩ := hX.kid pre y suf ey
      have py := hp y g1.1
      have hne : y ≠ id := fun e2 => by rw [e2, ← hupe] at g2; exact e g2.symm
      have hnu : ∀ z, z ∈ l1 ++ l2 → y ≠ z := fun z hz e2 => by rw [e2, (hL.mem (m1 hz)).2] at g2; exact e g2.symm
      refine ⟨g1.len hl, by rw [py.parent, if_neg hne, g2], ?_, ?_⟩
      · rw [py.prev, if_neg hne, if_neg, g3]
        rintro ⟨k1, k2⟩
        by_cases e1 : l2 = []
        · subst e1; exact k1 rfl
        · exact hnu _ (List.mem_append_right _ (headL_mem e1)) k2
      · rw [py.next, if_neg hne, if_neg, g4]
        rintro ⟨k1, k2⟩
        by_cases e1 : l1 = []
        · subst e1; exact k1 rfl
        · exact hnu _ (List.mem_append_left _ (lastL_mem e1)) k2
  · intro x hx
    by_cases e : x = up
    · subst e
      rw [unlinkK, if_pos rfl]
      exact (h.nodup x ghup).filter _
    · rw [unlinkK, if_neg e]; exact h.nodup x (hiA hx)
  · intro y hy hpy
    have hyA := hiA hy
    rw [hpar y hyA] at hpy ⊢
    by_cases e : y = id
    · subst e; rw [if_pos rfl] at hpy; exact absurd rfl hpy
    · rw [if_neg e] at hpy ⊢
      obtain ⟨h1, h2⟩ := h.up y hyA hpy
      refine ⟨h1.len hl, ?_⟩
      by_cases e2 : (nodeA A y).Parent = up
      · rw [unlinkK, if_pos e2]
        exact List.mem_filter.2 ⟨h2, by simpa using e⟩
      · rw [unlinkK, if_neg e2]; exact h2
  · intro y hy hpy
    have hyA := hiA hy
    rw [hpar y hyA] at hpy
    have py := hp y hyA.1
    by_cases e : y = id
    · subst e; exact ⟨by rw [py.prev, if_pos rfl], by rw [py.next, if_pos rfl]⟩
    · rw [if_neg e] at hpy
      obtain ⟨h1, h2⟩ := h.free y hyA hpy
      have hnu : ∀ z, z ∈ l1 ++ l2 → y ≠ z := fun z hz e2 => by have := (hL.mem (m1 hz)).2; rw [← e2, hpy] at this; omega
      constructor
      · rw [py.prev, if_neg e, if_neg, h1]
        rintro ⟨k1, k2⟩
        by_cases e1 : l2 = []
        · subst e1; exact k1 rfl
        · exact hnu _ (List.mem_append_right _ (headL_mem e1)) k2
      · rw [py.next, if_neg e, if_neg, h2]
        rintro ⟨k1, k2⟩
        by_cases e1 : l1 = []
        · subst e1; exact k1 rfl
        · exact hnu _ (List.mem_append_left _ (lastL_mem e1)) k2
  · intro y hy
    rw [core_host (hp y hy.1).core]
    exact (h.host y (hiA hy)).imp (fun h => h) fun h => h.len hl
  · intro y hy hk
    rw [nodeA, core_kind (hp y hy.1).core] at hk
    rw [core_host (hp y hy.1).core]
    exact h.hostK y (hiA hy) hk
  · intro y hy hpy
    rw [nodeA, core_kind (hp y hy.1).core]
    rw [hpar y (hiA hy)] at hpy
    by_cases e : y = id
    · subst e; rw [if_pos rfl] at hpy; exact absurd rfl hpy
    · rw [if_neg e] at hpy; exact h.upK y (hiA hy) hpy
  · intro y hy
    rw [nodeA, core_inner (hp y hy.1).core]
    exact (h.inner y (hiA hy)).imp (fun h => h) fun h => h.len hl
  · obtain ⟨rk, hrk⟩ := h.rank
    refine ⟨rk, fun x hx => ?_⟩
    have hxA := hiA (inA_iff.1 hx)
    have e := hpar x hxA
    simp only [nodeA] at e
    simp only [nextUp, e, core_host (hp x hxA.1).core]
    by_cases e2 : x = id
    · left
      rw [if_pos e2, if_pos rfl, e2]
      exact h.hostK id g.hid (h.upK id g.hid g.par)
    · rw [if_neg e2]
      exact (hrk x hxA.b).imp (fun h => h) fun h => ⟨((inA_iff.1 h.1).len hl).b, h.2⟩
  · exact attrs_core hl (fun y hy => (hp y hy).core) h.attrs
def addK (A : List Node_one) (K : Int → List Int) : Int → List Int := fun x => if x = A.length then [] else K x
theorem at_new {A : List Node_one} {o : Node_one} : at_ (A ++ [o]) ((A.length : Int)).toNat = o := at_app_new
theorem at_old {A : List Node_one} {o : Node_one} {y : Int} (h : InA A y) : at_ (A ++ [o]) y.toNat = at_ A y.toNat := at_app_l (by have := h.1; have := h.2; omega)
theorem inA_new {A : List Node_one} {o : Node_one} {y : Int} : InA (A ++ [o]) y ↔ InA A y ∨ y = A.length := by
  simp only [InA, List.length_append, List.length_cons, List.length_nil]; omega
theorem Tree.add {A : List Node_one} {K : Int → List Int} (h : Tree A K) (n : Api_node) (ha : n.Attrs.length ≤ 1024) : Tree (A ++ [blankN n]) (addK A K) := by
  have hin : ∀ {y}, InA A y → InA (A ++ [blankN n]) y := fun h => inA_new.2 (.inl h)
  have hne : ∀ {y}, InA A y → y ≠ A.length := fun h => by have := h.2; omega
  constructor
  · intro x hx
    rcases inA_new.1 hx with hx | rfl
    · rw [addK, if_neg (hne hx)]
      have hX := h.lnk x hx
      refine ⟨by rw [nodeA, at_old hx]; exact hX.first, by rw [nodeA, at_old hx]; exact hX.last, fun pre y suf e => ?_⟩
      obtain ⟨g1, g2, g3, g4⟩ := hX.kid pre y suf e
      rw [nodeA, at_old g1]
      exact ⟨hin g1, g2, g3, g4⟩
    · rw [addK, if_pos rfl]
      exact ⟨by rw [nodeA, at_new]; rfl, by rw [nodeA, at_new]; rfl, fun pre y suf e => by simp at e⟩
  · intro x hx
    rcases inA_new.1 hx with hx | rfl
    · rw [addK, if_neg (hne hx)]; exact h.nodup x hx
    · rw [addK, if_pos rfl]; exact List.nodup_nil
  · intro y hy hp
    rcases inA_new.1 hy with hy | rfl
    · rw [nodeA, at_old hy] at hp ⊢
      obtain ⟨h1, h2⟩ := h.up y hy hp
      exact ⟨hin h1, by rw [addK, if_neg (hne h1)]; exact h2⟩
    · rw [nodeA, at_new] at hp; exact absurd rfl hp
  · intro y hy hp
    rcases inA_new.1 hy with hy | rfl
    · rw [nodeA, at_old hy] at hp ⊢; exact h.free y hy hp
    · rw [nodeA, at_new]; exact ⟨rfl, rfl⟩
  · intro y hy
    rcases inA_new.1 hy with hy | rfl
    · rw [at_old hy]; exact (h.host y hy).imp (fun h => h) hin
    · rw [at_new]; exact .inl rfl
  · intro y hy hk
    rcases inA_new.1 hy with hy | rfl
    · rw [nodeA, at_old hy] at hk; rw [at_old hy]; exact h.hostK y hy hk
    · rw [at_new]; rfl
  · intro y hy hp
    rcases inA_new.1 hy with hy | rfl
    · rw [nodeA, at_old hy] at hp ⊢; exact h.upK y hy hp
    · rw [nodeA, at_new] at hp; exact absurd rfl hp
  · intro y hy
    rcases inA_new.1 hy with hy | rfl
    · rw [nodeA, at_old hy]; exact (h.inner y hy).imp (fun h => h) hin
    · rw [nodeA, at_new]; exact .inl rfl
  · obtain ⟨rk, hrk⟩ := h.rank
    refine ⟨rk, fun x hx => ?_⟩
    rcases inA_new.1 (inA_iff.1 hx) with hx | rfl
    · rw [nextUp, at_old hx]
      exact (hrk x hx.b).imp (fun h => h) fun h => ⟨(hin (inA_iff.1 h.1)).b, h.2⟩
    · rw [nextUp, at_new]; exact .inl rfl
  · intro i hi
    by_cases e : i < A.length
    · rw [at_app_l e]; exact h.attrs i e
    · have : i = A.length := by simp at hi; omega
      subst this; rw [at_app_new]; exact ha
theorem Tree.hosted {A : List Node_one} {K : Int → List Int} (h : Tree A K) {id fr : Int} (hi : InA A id) (hf : InA A fr) (hk : (nodeA A fr).Kind = 5) (hh : (at_ A fr.toNat).host = -1) (hna : ¬ Anc A id fr) : Tree (setHost (setInner A id fr) fr id) K := by
  have hl : (setHost (setInner A id fr) fr id).length = A.length := by simp [setHost, setInner]
  have hl1 : (setInner A id fr).length = A.length := by simp [setInner]
  obtain ⟨B, hB⟩ : ∃ B, B = setHost (setInner A id fr) fr id := ⟨_, rfl⟩
  have hn : ∀ y : Int, 0 ≤ y → (nodeA B y) = if y = id then { nodeA A y with Inner := fr } else nodeA A y := fun y hy => by
    rw [hB, nodeA, setHost, at_setI (hf.len hl1) hy]
    by_cases e : y = fr
    · subst e; rw [if_pos rfl]; show nodeA (setInner A id y) y = _
      rw [nodeA, setInner, at_setI hi hy]; split
      · next e => rw [e]
      · rfl
    · rw [if_neg e, setInner, at_setI hi hy]; split
      · next e => rw [e]
      · rfl
  have hho : ∀ y : Int, 0 ≤ y → (at_ B y.toNat).host = if y = fr then id else (at_ A y.toNat).host := fun y hy => by
    rw [hB, setHost, at_setI (hf.len hl1) hy]
    by_cases e : y = fr
    · rw [if_pos e, if_pos e]
    · rw [if_neg e, if_neg e, setInner, at_setI hi hy]; split
      · next e => rw [e]
      · rfl
  rw [← hB] at hl ⊢
  have hiA : ∀ {y}, InA B y → InA A y := fun h => h.len hl.symm
  have f1 : ∀ y : Int, 0 ≤ y → (nodeA B y).Parent = (nodeA A y).Parent ∧ (nodeA B y).First = (nodeA A y).First ∧ (nodeA B y).Last = (nodeA A y).Last ∧ (nodeA B y).Prev = (nodeA A y).Prev ∧ (nodeA B y).Next = (nodeA A y).Next ∧ (nodeA B y).Kind = (nodeA A y).Kind ∧ (nodeA B y).Attrs = (nodeA A y).Attrs := fun y hy => by
    rw [hn y hy]; split <;> exact ⟨rfl, rfl, rfl, rfl, rfl, rfl, rfl⟩
  constructor
  · intro x hx
    have hX := h.lnk x (hiA hx)
    have gx := f1 x hx.1
    refine ⟨by rw [gx.2.1]; exact hX.first, by rw [gx.2.2.1]; exact hX.last, fun pre y suf e => ?_⟩
    obtain ⟨g1, g2, g3, g4⟩ := hX.kid pre y suf e
    have gy := f1 y g1.1
    exact ⟨g1.len hl, by rw [gy.1, g2], by rw [gy.2.2.2.1, g3], by rw [gy.2.2.2.2.1, g4]⟩
  · exact fun x hx => h.nodup x (hiA hx)
  · intro y hy hp
    rw [(f1 y hy.1).1] at hp ⊢
    exact (h.up y (hiA hy) hp).imp (fun h => h.len hl) fun h => h
  · intro y hy hp
    have gy := f1 y hy.1
    rw [gy.1] at hp
    rw [gy.2.2.2.1, gy.2.2.2.2.1]
    exact h.free y (hiA hy) hp
  · intro y hy
    rw [hho y hy.1]; split
    · exact .inr (hi.len hl)
    · exact (h.host y (hiA hy)).imp (fun h => h) fun h => h.len hl
  · intro y hy hky
    rw [(f1 y hy.1).2.2.2.2.2.1] at hky
    rw [hho y hy.1, if_neg (fun e : y = fr => hky (by rw [e]; exact hk))]
    exact h.hostK y (hiA hy) hky
  · intro y hy hp
    rw [(f1 y hy.1).1] at hp
    rw [(f1 y hy.1).2.2.2.2.2.1]
    exact h.upK y (hiA hy) hp
  · intro y hy
    rw [hn y hy.1]; split
    · exact .inr (hf.len hl)
    · exact (h.inner y (hiA hy)).imp (fun h => h) fun h => h.len hl
  · have hroot : nextUp A fr = -1 := by
      have hp : (nodeA A fr).Parent = -1 := by
        by_cases hp : (nodeA A fr).Parent = -1
        · exact hp
        · exact absurd hk (h.upK fr hf hp)
      simp only [nodeA] at hp
      rw [nextUp, if_pos hp, hh]
    refine rank_link hl h.rank hi hf hroot hna fun y hy => ?_
    have e1 := (f1 y hy.1).1
    simp only [nodeA] at e1
    simp only [nextUp, e1, hho y hy.1]
    by_cases e : y = fr
    · have hp : (at_ A y.toNat).Node.Parent = -1 := by
        by_cases hp : (nodeA A y).Parent = -1
        · exact hp
        · exact absurd (by rw [e]; exact hk) (h.upK y hy hp)
      rw [if_pos hp, if_pos e, if_pos e]
    · rw [if_neg e, if_neg e]
  · intro i hi2
    have := (f1 (i : Int) (by omega)).2.2.2.2.2.2
    simp only [nodeA, toNat_nat] at this
    rw [this]; exact h.attrs i (by omega)
theorem Tree.new : Tree [docD] (fun _ => []) := by
  have hx0 : ∀ {x : Int}, InA [docD] x → x = 0 := fun h => by have h1 := h.1; have h2 : _ < ((1 : Nat) : Int) := h.2; omega
  constructor
  · intro x hx; have := hx0 hx; subst this; exact ⟨rfl, rfl, fun pre y suf e => by simp at e⟩
  · intro x hx; exact List.nodup_nil
  · intro x hx hp; have := hx0 hx; subst this; exact absurd rfl hp
  · intro x hx hp; have := hx0 hx; subst this; exact ⟨rfl, rfl⟩
  · intro x hx; have := hx0 hx; subst this; exact .inl rfl
  · intro x hx hp; have := hx0 hx; subst this; rfl
  · intro x hx hp; have := hx0 hx; subst this; exact absurd rfl hp
  · intro x hx; have := hx0 hx; subst this; exact .inl rfl
  · exact ⟨fun _ => 0, fun x hx => by have := hx0 (inA_iff.1 hx); subst this; exact .inl rfl⟩
  · intro i hi; have : i = 0 := by simp at hi; omega
    subst this; exact Nat.zero_le _
end Go.Proofs.Ythkmnohghpdjhaa
end
section
set_option linter.unusedVariables false
set_option linter.unusedSimpArgs false
namespace Go.Proofs.Ythkmnohghpdjhaa
open Go Go.Hb Go.RowKit
theorem countP_two {β : Type} (q r : β → Bool) : ∀ L : List β, L.countP q = L.countP (fun y => q y && r y) + L.countP (fun y => q y && !r y)
  | [] => rfl
  | y :: L => by
    have ih := countP_two q r L
    simp only [List.countP_cons]
    cases q y <;> cases r y <;> simp <;> omega
theorem countP_le {β : Type} {p q : β → Bool} : ∀ {L : List β}, (∀ y ∈ L, p y = true → q y = true) → L.countP p ≤ L.countP q
  | [], _ => Nat.le_refl _
  | y :: L, h => by
    have ih := countP_le (p := p) (q := q) (L := L) fun z hz => h z (by simp [hz])
    have hy := h y (by simp)
    simp only [List.countP_cons]
    cases e : p y with
    | true => rw [hy e]; simp; omega
    | false => simp; omega
theorem countP_sum {β : Type} {L : List β} : ∀ (ps : List (β → Bool)) (q : β → Bool), ps.Pairwise (fun p p' => ∀ y ∈ L, ¬ (p y = true ∧ p' y = true)) → (∀ p ∈ ps, ∀ y ∈ L, p y = true → q y = true) → (ps.map fun p => L.countP p).sum ≤ L.countP q
  | [], _, _, _ => Nat.zero_le _
  | p :: ps, q, hp, hq => by
    obtain ⟨h1, h2⟩ := List.pairwise_cons.1 hp
    have ih := countP_sum ps (fun y => q y && !p y) h2 fun p' hp' y hy e => by
      have e1 := hq p' (by simp [hp']) y hy e
      have e2 : p y = false := by
        cases e3 : p y with
        | false => rfl
        | true => exact absurd ⟨e3, e⟩ (h1 p' hp' y hy)
      simp [e1, e2]
    have h3 : L.countP p ≤ L.countP (fun y => q y && p y) := countP_le fun y hy e => by simp [hq p (by simp) y hy e, e]
    have h4 := countP_two q p L
    simp only [List.map_cons, List.sum_cons]
    omega
theorem Anc.trans {A : List Node_one} {x y z : Int} (h : Anc A x y) (g : Anc A y z) : Anc A x z := by
  induction h with
  | refl => exact g
  | step h _ ih => exact .step h (ih g)
theorem anc_two {A : List Node_one} {y c c' : Int} (h : Anc A y c) (g : Anc A y c') : Anc A c c' ∨ Anc A c' c := by
  induction h with
  | refl => exact .inl g
  | step h hs ih =>
    cases g with
    | refl => exact .inr (.step h hs)
    | step _ gs => exact ih gs
theorem anc_rk {A : List Node_one} {rk : Int → Nat} (hr : ∀ x, hasB A x = true → nextUp A x = -1 ∨ hasB A (nextUp A x) = true ∧ rk (nextUp A x) < rk x) {y x : Int} (h : Anc A y x) (hx : x ≠ -1) (hy : InA A y) : rk x ≤ rk y := by
  induction h with
  | refl => exact Nat.le_refl _
  | step h hs ih =>
    rcases hr _ hy.b with e | ⟨e1, e2⟩
    · rw [e] at hs; exact absurd (anc_none hs) hx
    · have := ih hx (inA_iff.1 e1); omega
noncomputable def cnt (A : List Node_one) (x : Int) : Nat := (List.range A.length).countP fun y : Nat => ancB A (y : Int) x
theorem cnt_le {A : List Node_one} {x : Int} : cnt A x ≤ A.length := by
  have := List.countP_le_length (p := fun y : Nat => ancB A (y : Int) x) (l := List.range A.length)
  simpa [cnt] using this
theorem cnt_pos {A : List Node_one} {x : Int} (hx : InA A x) : 0 < cnt A x := by
  refine List.countP_pos_iff.2 ⟨x.toNat, by have := hx.1; have := hx.2; simp; omega, ?_⟩
  have : ((x.toNat : Nat) : Int) = x := Int.toNat_of_nonneg hx.1
  rw [this]; exact ancB_of (.refl x)
/-- those below the ones right below a node are fewer than those below it -/
theorem cnt_below {A : List Node_one} (hr : Ranked A) {x : Int} (hx : InA A x) {cs : List Int} (hn : cs.Nodup) (hc : ∀ c ∈ cs, InA A c ∧ nextUp A c = x) : (cs.map (cnt A)).sum + 1 ≤ cnt A x := by
  obtain ⟨rk, hrk⟩ := hr
  have hx1 : x ≠ -1 := by have := hx.1; omega
  have lt : ∀ c ∈ cs, rk x < rk c := fun c hm => by
    obtain ⟨h1, h2⟩ := hc c hm
    rcases hrk c h1.b with e | ⟨_, e⟩
    · rw [h2] at e; exact absurd e hx1
    · rwa [h2] at e
  have ne : ∀ c ∈ cs, c ≠ -1 := fun c hm => by have := (hc c hm).1.1; omega
  have no : ∀ c ∈ cs, ¬ Anc A x c := fun c hm h => by
    have := anc_rk hrk h (ne c hm) hx
    have := lt c hm
    omega
  have key := countP_sum (L := List.range A.length) ((fun y : Nat => decide ((y : Int) = x)) :: cs.map fun c (y : Nat) => ancB A (y : Int) c) (fun y => ancB A (y : Int) x) (by
    refine List.pairwise_cons.2 ⟨fun p hp y _ h => ?_, ?_⟩
    · obtain ⟨c, hm, rfl⟩ := List.mem_map.1 hp
      obtain ⟨h1, h2⟩ := h
      have h1 := of_decide_eq_true h1
      have h2 : ancB A (y : Int) c = true := h2
      rw [h1] at h2
      exact no c hm (ancB_iff.1 h2)
    · refine List.pairwise_map.2 ?_
      refine List.Pairwise.imp_of_mem ?_ hn
      intro c c' hm hm' hne y _ h
      have h1 := ancB_iff.1 h.1
      have h2 := ancB_iff.1 h.2
      rcases anc_two h1 h2 with h | h
      · have := (anc_ne hne (ne c hm)).1 h
        rw [(hc c hm).2] at this
        exact no c' hm' this
      · have := (anc_ne (fun e => hne e.symm) (ne c' hm')).1 h
        rw [(hc c' hm').2] at this
        exact no c hm this) (by
    intro p hp y hy h
    rcases List.mem_cons.1 hp with rfl | hp
    · have h := of_decide_eq_true h
      rw [h]; exact ancB_of (.refl x)
    · obtain ⟨c, hm, rfl⟩ := List.mem_map.1 hp
      refine ancB_of ((ancB_iff.1 h).trans (.step (ne c hm) ?_))
      rw [(hc c hm).2]; exact .refl x)
  have h1 : 0 < (List.range A.length).countP (fun y : Nat => decide ((y : Int) = x)) := List.countP_pos_iff.2 ⟨x.toNat, by have := hx.1; have := hx.2; simp; omega, by have := hx.1; simp; omega⟩
  simp only [List.map_cons, List.sum_cons, List.map_map] at key
  have e : cs.map ((fun p => List.countP p (List.range A.length)) ∘ fun c (y : Nat) => ancB A (y : Int) c) = cs.map (cnt A) := rfl
  rw [e] at key
  show _ ≤ cnt A x
  have : cnt A x = (List.range A.length).countP (fun y : Nat => ancB A (y : Int) x) := rfl
  omega
/-- a template's contents know their host -/
def InnOk (A : List Node_one) : Prop := ∀ y, InA A y → (nodeA A y).Inner ≠ -1 → InA A (nodeA A y).Inner ∧ (nodeA A (nodeA A y).Inner).Kind = 5 ∧ (at_ A (nodeA A y).Inner.toNat).host = y ∧ (nodeA A y).Kind = 1
theorem kid_up {A : List Node_one} {K : Int → List Int} (t : Tree A K) {x c : Int} (hx : InA A x) (hc : c ∈ K x) : InA A c ∧ nextUp A c = x := by
  obtain ⟨h1, h2⟩ := (t.lnk x hx).mem hc
  refine ⟨h1, ?_⟩
  have : (at_ A c.toNat).Node.Parent = x := h2
  rw [nextUp, this, if_neg (by have := hx.1; omega)]
theorem inner_up {A : List Node_one} {K : Int → List Int} (t : Tree A K) (g : InnOk A) {x : Int} (hx : InA A x) (hi : (nodeA A x).Inner ≠ -1) : InA A (nodeA A x).Inner ∧ nextUp A (nodeA A x).Inner = x := by
  obtain ⟨h1, h2, h3, _⟩ := g x hx hi
  refine ⟨h1, ?_⟩
  have hp : (nodeA A (nodeA A x).Inner).Parent = -1 := Classical.byContradiction fun hp => t.upK _ h1 hp h2
  rw [nextUp, if_pos hp, h3]
theorem kids_cnt {A : List Node_one} {K : Int → List Int} (t : Tree A K) {x : Int} (hx : InA A x) : ((K x).map (cnt A)).sum + 1 ≤ cnt A x := cnt_below t.rank hx (t.nodup x hx) fun c hc => kid_up t hx hc
theorem inner_cnt {A : List Node_one} {K : Int → List Int} (t : Tree A K) (g : InnOk A) {x : Int} (hx : InA A x) (hi : (nodeA A x).Inner ≠ -1) : ((K x).map (cnt A)).sum + cnt A (nodeA A x).Inner + 1 ≤ cnt A x := by
  have h1 := inner_up t g hx hi
  have h5 := (g x hx hi).2.1
  have := cnt_below t.rank hx (cs := (nodeA A x).Inner :: K x) (by
    refine List.nodup_cons.2 ⟨fun hm => ?_, t.nodup x hx⟩
    have h2 := ((t.lnk x hx).mem hm).2
    exact t.upK _ h1.1 (by rw [h2]; have := hx.1; omega) h5) (fun c hc => by
    rcases List.mem_cons.1 hc with rfl | hc
    · exact h1
    · exact kid_up t hx hc)
  simp only [List.map_cons, List.sum_cons] at this
  omega
theorem InnOk.same {A B : List Node_one} (g : InnOk A) (hl : B.length = A.length) (h : ∀ y : Int, 0 ≤ y → (nodeA B y).Inner = (nodeA A y).Inner ∧ (nodeA B y).Kind = (nodeA A y).Kind ∧ (at_ B y.toNat).host = (at_ A y.toNat).host) : InnOk B := fun y hy hi => by
  have hyA := hy.len hl.symm
  rw [(h y hy.1).1] at hi ⊢
  obtain ⟨g1, g2, g3, g4⟩ := g y hyA hi
  exact ⟨g1.len hl, by rw [(h _ g1.1).2.1]; exact g2, by rw [(h _ g1.1).2.2]; exact g3, by rw [(h y hy.1).2.1]; exact g4⟩
theorem InnOk.core {A B : List Node_one} (g : InnOk A) (hl : B.length = A.length) (h : ∀ y : Int, 0 ≤ y → coreN (at_ B y.toNat) = coreN (at_ A y.toNat)) : InnOk B := g.same hl fun y hy => ⟨core_inner (h y hy), core_kind (h y hy), core_host (h y hy)⟩
theorem InnOk.new : InnOk [docD] := fun y hy hi => by
  obtain ⟨h1, h2⟩ := hy
  simp only [List.length_cons, List.length_nil] at h2
  obtain rfl : y = 0 := by omega
  exact absurd rfl hi
theorem InnOk.add {A : List Node_one} (g : InnOk A) (n : Api_node) : InnOk (A ++ [blankN n]) := fun y hy hi => by
  rcases inA_new.1 hy with h | rfl
  · rw [nodeA, at_old h] at hi ⊢
    obtain ⟨g1, g2, g3, g4⟩ := g y h hi
    exact ⟨inA_new.2 (.inl g1), by rw [nodeA, at_old g1]; exact g2, by rw [at_old g1]; exact g3, g4⟩
  · rw [nodeA, at_new] at hi; exact absurd rfl hi
theorem InnOk.hosted {A : List Node_one} (g : InnOk A) {id fr : Int} (hi : InA A id) (hf : InA A fr) (hk : (nodeA A fr).Kind = 5) (hk1 : (nodeA A id).Kind = 1) (hh : (at_ A fr.toNat).host = -1) : InnOk (setHost (setInner A id fr) fr id) := by
  have hlen : (setHost (setInner A id fr) fr id).length = A.length := by simp [setHost, setInner]
  have hfi : InA (setInner A id fr) fr := hf.len (by simp [setInner])
  have hne : fr ≠ id := fun e => by rw [e, hk1] at hk; exact absurd hk (by decide)
  have f : ∀ y : Int, 0 ≤ y → (nodeA (setHost (setInner A id fr) fr id) y).Kind = (nodeA A y).Kind ∧ (nodeA (setHost (setInner A id fr) fr id) y).Inner = (if y = id then fr else (nodeA A y).Inner) ∧ (at_ (setHost (setInner A id fr) fr id) y.toNat).host = (if y = fr then id else (at_ A y.toNat).host) := fun y hy => by
    simp only [nodeA]
    rw [setHost, at_setI hfi hy]
    by_cases c1 : y = fr
    · rw [if_pos c1, if_pos c1, if_neg (by omega), setInner, at_setI hi hf.1, if_neg hne, c1]
      exact ⟨rfl, rfl, rfl⟩
    · rw [if_neg c1, if_neg c1, setInner, at_setI hi hy]
      by_cases c2 : y = id
      · rw [if_pos c2, if_pos c2, c2]; exact ⟨rfl, rfl, rfl⟩
      · rw [if_neg c2, if_neg c2]; exact ⟨rfl, rfl, rfl⟩
  intro y hy hyi
  have hyA := hy.len hlen.symm
  obtain ⟨f1, f2, f3⟩ := f y hy.1
  rw [f2] at hyi ⊢
  rw [f1]
  by_cases c2 : y = id
  · rw [if_pos c2] at hyi ⊢
    obtain ⟨e1, e2, e3⟩ := f fr hf.1
    refine ⟨hf.len hlen, by rw [e1]; exact hk, by rw [e3, if_pos rfl]; exact c2.symm, by rw [c2]; exact hk1⟩
  · rw [if_neg c2] at hyi ⊢
    obtain ⟨g1, g2, g3, g4⟩ := g y hyA hyi
    obtain ⟨e1, e2, e3⟩ := f _ g1.1
    refine ⟨g1.len hlen, by rw [e1]; exact g2, ?_, g4⟩
    rw [e3, if_neg (fun e => by rw [e, hh] at g3; have := hyA.1; omega)]
    exact g3
theorem InnOk.addL {A : List Node_one} (g : InnOk A) (n : Api_node) (ts : List ByteArray) : InnOk (addL A n ts).2.2 := by
  unfold Go.Proofs.Ythkmnohghpdjhaa.addL
  repeat' split
  · exact g
  · exact g
  · exact g.add n
theorem InnOk.element {A : List Node_one} (g : InnOk A) (sp : Int) (nm : ByteArray) (xs : List Api_attr) (q : Option Addr) (d : Nat) : InnOk (elementL A sp nm xs q d).2.2 := by
  unfold elementL
  repeat' split
  · exact g
  · exact g
  · exact g
  · exact g
  · exact g
  · have g2 := (g.add (elementN q d sp nm xs)).add fragmentN
    have i1 : InA (A ++ [blankN (elementN q d sp nm xs)]) (A.length : Int) := ⟨by omega, by simp; omega⟩
    have id2 : InA (A ++ [blankN (elementN q d sp nm xs)] ++ [blankN fragmentN]) (A.length : Int) := inA_new.2 (.inl i1)
    have if2 : InA (A ++ [blankN (elementN q d sp nm xs)] ++ [blankN fragmentN]) ((A ++ [blankN (elementN q d sp nm xs)]).length : Int) := inA_new.2 (.inr rfl)
    have e1 : at_ (A ++ [blankN (elementN q d sp nm xs)] ++ [blankN fragmentN]) ((A.length : Int)).toNat = blankN (elementN q d sp nm xs) := by rw [at_old i1, at_new]
    have e2 : at_ (A ++ [blankN (elementN q d sp nm xs)] ++ [blankN fragmentN]) (((A ++ [blankN (elementN q d sp nm xs)]).length : Int)).toNat = blankN fragmentN := at_new
    exact g2.hosted id2 if2 (by rw [nodeA, e2]; rfl) (by rw [nodeA, e1]; rfl) (by rw [e2]; rfl)
  · exact g.add _
structure TextN (n : Api_node) : Prop where
  name : n.Name.size ≤ 1048576
  data : n.Data.size ≤ 1048576
  system : n.System.size ≤ 1048576
  attrs : longB (attrTexts n.Attrs) = false
def TextOk (A : List Node_one) : Prop := ∀ y, InA A y → TextN (nodeA A y)
theorem long_mem {l : List ByteArray} (h : longB l = false) {s : ByteArray} (hs : s ∈ l) : s.size ≤ 1048576 := by
  have := List.any_eq_false.1 h s hs
  simp only [decide_eq_true_eq] at this
  omega
theorem long_app {l m : List ByteArray} : longB (l ++ m) = (longB l || longB m) := by simp [longB]
theorem TextOk.new : TextOk [docD] := fun y hy => by
  obtain ⟨h1, h2⟩ := hy
  simp only [List.length_cons, List.length_nil] at h2
  obtain rfl : y = 0 := by omega
  exact ⟨Nat.zero_le _, Nat.zero_le _, Nat.zero_le _, rfl⟩
theorem TextOk.add {A : List Node_one} (g : TextOk A) {n : Api_node} (h : TextN n) : TextOk (A ++ [blankN n]) := fun y hy => by
  rcases inA_new.1 hy with hy | rfl
  · rw [nodeA, at_old hy]; exact g y hy
  · rw [nodeA, at_new]; exact ⟨h.name, h.data, h.system, h.attrs⟩
theorem TextOk.same {A B : List Node_one} (g : TextOk A) (hl : B.length = A.length) (h : ∀ y : Int, 0 ≤ y → (nodeA B y).Name = (nodeA A y).Name ∧ (nodeA B y).Data = (nodeA A y).Data ∧ (nodeA B y).System = (nodeA A y).System ∧ (nodeA B y).Attrs = (nodeA A y).Attrs) : TextOk B := fun y hy => by
  have := g y (hy.len hl.symm)
  obtain ⟨h1, h2, h3, h4⟩ := h y hy.1
  exact ⟨by rw [h1]; exact this.name, by rw [h2]; exact this.data, by rw [h3]; exact this.system, by rw [h4]; exact this.attrs⟩
theorem core_name {o p : Node_one} (h : coreN o = coreN p) : o.Node.Name = p.Node.Name := by
  have := congrArg (fun z : Node_one => z.Node.Name) h; simpa [coreN] using this
theorem core_data {o p : Node_one} (h : coreN o = coreN p) : o.Node.Data = p.Node.Data := by
  have := congrArg (fun z : Node_one => z.Node.Data) h; simpa [coreN] using this
theorem core_system {o p : Node_one} (h : coreN o = coreN p) : o.Node.System = p.Node.System := by
  have := congrArg (fun z : Node_one => z.Node.System) h; simpa [coreN] using this
theorem TextOk.core {A B : List Node_one} (g : TextOk A) (hl : B.length = A.length) (h : ∀ y : Int, 0 ≤ y → coreN (at_ B y.toNat) = coreN (at_ A y.toNat)) : TextOk B := g.same hl fun y hy => ⟨core_name (h y hy), core_data (h y hy), core_system (h y hy), core_attrs (h y hy)⟩
theorem TextOk.addL {A : List Node_one} (g : TextOk A) {n : Api_node} {ts : List ByteArray} (h : longB ts = false → TextN n) : TextOk (addL A n ts).2.2 := by
  unfold Go.Proofs.Ythkmnohghpdjhaa.addL
  split
  · exact g
  · split
    · exact g
    · rename_i h1 _
      exact g.add (h (by simpa using h1))
theorem hosted_text {A : List Node_one} {id fr : Int} (hi : InA A id) (hf : InA A fr) : ∀ y : Int, 0 ≤ y → (nodeA (setHost (setInner A id fr) fr id) y).Name = (nodeA A y).Name ∧ (nodeA (setHost (setInner A id fr) fr id) y).Data = (nodeA A y).Data ∧ (nodeA (setHost (setInner A id fr) fr id) y).System = (nodeA A y).System ∧ (nodeA (setHost (setInner A id fr) fr id) y).Attrs = (nodeA A y).Attrs := fun y hy => by
  have hfi : InA (setInner A id fr) fr := hf.len (by simp [setInner])
  have f : ∀ z : Int, 0 ≤ z → ∃ v, (at_ (setInner A id fr) z.toNat).Node = { (nodeA A z) with Inner := v } := fun z hz => by
    rw [setInner, at_setI hi hz]
    by_cases c : z = id
    · rw [if_pos c, c]; exact ⟨_, rfl⟩
    · rw [if_neg c]; exact ⟨_, rfl⟩
  have g : (nodeA (setHost (setInner A id fr) fr id) y) = (at_ (setInner A id fr) y.toNat).Node := by
    rw [nodeA, setHost, at_setI hfi hy]
    by_cases c : y = fr
    · rw [if_pos c, c]
    · rw [if_neg c]
  obtain ⟨v, e⟩ := f y hy
  rw [g, e]
  exact ⟨rfl, rfl, rfl, rfl⟩
theorem TextOk.element {A : List Node_one} (g : TextOk A) (sp : Int) (nm : ByteArray) (xs : List Api_attr) (q : Option Addr) (d : Nat) : TextOk (elementL A sp nm xs q d).2.2 := by
  unfold elementL
  split
  · exact g
  split
  · exact g
  split
  · exact g
  split
  · exact g
  rename_i hl
  have hl : longB (nm :: attrTexts xs) = false := by simpa using hl
  have hn : TextN (elementN q d sp nm xs) := ⟨long_mem (s := nm) hl (by simp), Nat.zero_le _, Nat.zero_le _, by
    have : longB ([nm] ++ attrTexts xs) = false := hl
    rw [long_app, Bool.or_eq_false_iff] at this; exact this.2⟩
  split
  · exact g
  split
  · have g2 := (g.add hn).add (n := fragmentN) ⟨Nat.zero_le _, Nat.zero_le _, Nat.zero_le _, rfl⟩
    have i1 : InA (A ++ [blankN (elementN q d sp nm xs)]) (A.length : Int) := ⟨by omega, by simp; omega⟩
    have id2 : InA (A ++ [blankN (elementN q d sp nm xs)] ++ [blankN fragmentN]) (A.length : Int) := inA_new.2 (.inl i1)
    have if2 : InA (A ++ [blankN (elementN q d sp nm xs)] ++ [blankN fragmentN]) ((A ++ [blankN (elementN q d sp nm xs)]).length : Int) := inA_new.2 (.inr rfl)
    have ifi := if2.len (B := setInner (A ++ [blankN (elementN q d sp nm xs)] ++ [blankN fragmentN]) A.length (A ++ [blankN (elementN q d sp nm xs)]).length) (by simp [setInner])
    exact g2.same (by simp [setHost, setInner]) (hosted_text id2 if2)
  · exact g.add hn
theorem link_fail {A : List Node_one} {up id before : Int} (h : (linkL A up id before).1 ≠ 0) : (linkL A up id before).2 = A := by
  revert h
  unfold linkL
  repeat' split
  all_goals simp
theorem unlink_fail {A : List Node_one} {id : Int} (h : (unlinkL A id).1 ≠ 0) : (unlinkL A id).2 = A := by
  revert h
  unfold unlinkL
  repeat' split
  all_goals simp
theorem link_core {A : List Node_one} {K : Int → List Int} (t : Tree A K) (up id before : Int) : ∀ y : Int, 0 ≤ y → coreN (at_ (linkL A up id before).2 y.toNat) = coreN (at_ A y.toNat) := fun y hy => by
  by_cases h0 : (linkL A up id before).1 = 0
  · obtain ⟨l1, l2, g⟩ := link_ok t h0
    exact ((g.put t).2 y hy).core
  · rw [link_fail h0]
theorem unlink_core {A : List Node_one} {K : Int → List Int} (t : Tree A K) (id : Int) : ∀ y : Int, 0 ≤ y → coreN (at_ (unlinkL A id).2 y.toNat) = coreN (at_ A y.toNat) := fun y hy => by
  by_cases h0 : (unlinkL A id).1 = 0
  · obtain ⟨l1, l2, g⟩ := unlink_ok t h0
    have h1 := t.prevIn g.hid
    have h2 := t.nextIn g.hid
    rw [g.prev] at h1
    rw [g.next] at h2
    rw [g.res]
    exact (gone_at g.hid g.hup h1 h2 hy).core
  · rw [unlink_fail h0]
def KndOk (A : List Node_one) : Prop := ∀ y, InA A y → 1 ≤ (nodeA A y).Kind ∧ (nodeA A y).Kind ≤ 5 ∨ (nodeA A y).Kind = 0 ∧ (nodeA A y).Parent = -1
theorem KndOk.new : KndOk [docD] := fun y hy => by
  obtain ⟨h1, h2⟩ := hy
  simp only [List.length_cons, List.length_nil] at h2
  obtain rfl : y = 0 := by omega
  exact .inr ⟨rfl, rfl⟩
theorem KndOk.add {A : List Node_one} (g : KndOk A) {n : Api_node} (h : 1 ≤ n.Kind ∧ n.Kind ≤ 5) : KndOk (A ++ [blankN n]) := fun y hy => by
  rcases inA_new.1 hy with hy | rfl
  · rw [nodeA, at_old hy]; exact g y hy
  · rw [nodeA, at_new]; exact .inl h
theorem KndOk.same {A B : List Node_one} (g : KndOk A) (hl : B.length = A.length) (h : ∀ y : Int, 0 ≤ y → (nodeA B y).Kind = (nodeA A y).Kind ∧ ((nodeA B y).Parent = (nodeA A y).Parent ∨ (nodeA B y).Parent = -1 ∨ (nodeA A y).Kind ≠ 0)) : KndOk B := fun y hy => by
  obtain ⟨h1, h2⟩ := h y hy.1
  rw [h1]
  rcases g y (hy.len hl.symm) with g1 | ⟨g1, g2⟩
  · exact .inl g1
  · refine .inr ⟨g1, ?_⟩
    rcases h2 with h2 | h2 | h2
    · rw [h2]; exact g2
    · exact h2
    · exact absurd g1 h2
theorem KndOk.addL {A : List Node_one} (g : KndOk A) {n : Api_node} {ts : List ByteArray} (h : 1 ≤ n.Kind ∧ n.Kind ≤ 5) : KndOk (addL A n ts).2.2 := by
  unfold Go.Proofs.Ythkmnohghpdjhaa.addL
  repeat' split
  · exact g
  · exact g
  · exact g.add h
theorem hosted_kind {A : List Node_one} {id fr : Int} (hi : InA A id) (hf : InA A fr) : ∀ y : Int, 0 ≤ y → (nodeA (setHost (setInner A id fr) fr id) y).Kind = (nodeA A y).Kind ∧ (nodeA (setHost (setInner A id fr) fr id) y).Parent = (nodeA A y).Parent := fun y hy => by
  have hfi : InA (setInner A id fr) fr := hf.len (by simp [setInner])
  have f : ∀ z : Int, 0 ≤ z → ∃ v, (at_ (setInner A id fr) z.toNat).Node = { (nodeA A z) with Inner := v } := fun z hz => by
    rw [setInner, at_setI hi hz]
    by_cases c : z = id
    · rw [if_pos c, c]; exact ⟨_, rfl⟩
    · rw [if_neg c]; exact ⟨_, rfl⟩
  have g : (nodeA (setHost (setInner A id fr) fr id) y) = (at_ (setInner A id fr) y.toNat).Node := by
    rw [nodeA, setHost, at_setI hfi hy]
    by_cases c : y = fr
    · rw [if_pos c, c]
    · rw [if_neg c]
  obtain ⟨v, e⟩ := f y hy
  rw [g, e]
  exact ⟨rfl, rfl⟩
theorem KndOk.element {A : List Node_one} (g : KndOk A) (sp : Int) (nm : ByteArray) (xs : List Api_attr) (q : Option Addr) (d : Nat) : KndOk (elementL A sp nm xs q d).2.2 := by
  have hn : 1 ≤ (elementN q d sp nm xs).Kind ∧ (elementN q d sp nm xs).Kind ≤ 5 := ⟨show (1 : Int) ≤ 1 by decide, show (1 : Int) ≤ 5 by decide⟩
  unfold elementL
  repeat' split
  · exact g
  · exact g
  · exact g
  · exact g
  · exact g
  · have g2 := (g.add hn).add (n := fragmentN) ⟨by decide, by decide⟩
    have i1 : InA (A ++ [blankN (elementN q d sp nm xs)]) (A.length : Int) := ⟨by omega, by simp; omega⟩
    have id2 : InA (A ++ [blankN (elementN q d sp nm xs)] ++ [blankN fragmentN]) (A.length : Int) := inA_new.2 (.inl i1)
    have if2 : InA (A ++ [blankN (elementN q d sp nm xs)] ++ [blankN fragmentN]) ((A ++ [blankN (elementN q d sp nm xs)]).length : Int) := inA_new.2 (.inr rfl)
    exact g2.same (by simp [setHost, setInner]) fun y hy => ⟨(hosted_kind id2 if2 y hy).1, .inl (hosted_kind id2 if2 y hy).2⟩
  · exact g.add hn
theorem KndOk.link {A : List Node_one} {K : Int → List Int} (g : KndOk A) (t : Tree A K) (up id before : Int) : KndOk (linkL A up id before).2 := by
  by_cases h0 : (linkL A up id before).1 = 0
  · obtain ⟨l1, l2, h⟩ := link_ok t h0
    refine g.same linkL_len fun y hy => ?_
    have p := (h.put t).2 y hy
    refine ⟨core_kind p.core, ?_⟩
    rw [p.parent]
    by_cases c : y = id
    · exact .inr (.inr (by rw [c]; exact h.kid.1))
    · rw [if_neg c]; exact .inl rfl
  · rw [link_fail h0]; exact g
theorem KndOk.unlink {A : List Node_one} {K : Int → List Int} (g : KndOk A) (t : Tree A K) (id : Int) : KndOk (unlinkL A id).2 := by
  by_cases h0 : (unlinkL A id).1 = 0
  · obtain ⟨l1, l2, h⟩ := unlink_ok t h0
    refine g.same unlinkL_len fun y hy => ?_
    have h1 := t.prevIn h.hid
    have h2 := t.nextIn h.hid
    rw [h.prev] at h1
    rw [h.next] at h2
    rw [h.res]
    have p := gone_at h.hid h.hup h1 h2 hy
    refine ⟨core_kind p.core, ?_⟩
    rw [p.parent]
    by_cases c : y = id
    · rw [if_pos c]; exact .inr (.inl rfl)
    · rw [if_neg c]; exact .inl rfl
  · rw [unlink_fail h0]; exact g
end Go.Proofs.Ythkmnohghpdjhaa
end
section
set_option linter.unusedVariables false
set_option linter.unusedSimpArgs false
namespace Go.Proofs.Ythkmnohghpdjhaa
open Go Go.Hb Go.RowKit
abbrev tl (s : ByteArray) : List UInt8 := s.data.toList
abbrev ba (l : List UInt8) : ByteArray := ⟨l.toArray⟩
theorem tl_app (a b : ByteArray) : tl (a ++ b) = tl a ++ tl b := by simp [tl]
theorem tl_len (a : ByteArray) : (tl a).length = a.size := rfl
theorem ba_tl (a : ByteArray) : ba (tl a) = a := by cases a; simp [ba, tl]
theorem tl_ba (l : List UInt8) : tl (ba l) = l := by simp [ba, tl]
theorem ba_size (l : List UInt8) : (ba l).size = l.length := by simp [ba, ByteArray.size]
theorem ba_eq {a : ByteArray} {l : List UInt8} (h : tl a = l) : a = ba l := by rw [← h, ba_tl]
end Go.Proofs.Ythkmnohghpdjhaa
end
section
set_option linter.unusedVariables false
namespace Go.Proofs.Ythkmnohghpdjhaa
open Go Go.Hb Go.RowKit
/-- a strings.Builder that holds bs -/
structure BldrV (b : Nat) (bs : List UInt8) (p : Option Addr) (v : Value) : Prop where
  addr : p = none ∨ p = some ⟨b, 0, none⟩
  nil : v = .slice none 0 0 ↔ bs = []
  off : ∀ a n c, v = .slice (some a) n c → a = ⟨a.block, 0, none⟩
def bldr (b : Nat) (bs : List UInt8) : HP := fun h => ∃ (p : Option Addr) (v : Value), BldrV b bs p v ∧ sep [blk b 76 [.pointer p, v], sl v 5 1 (by1 bs)] h
theorem bldr_open {k : Ctx} {w : World} {l : List HP} {b : Nat} {bs : List UInt8} (h : Own k w (bldr b bs :: l)) : ∃ p v, BldrV b bs p v ∧ Own k w (blk b 76 [.pointer p, v] :: sl v 5 1 (by1 bs) :: l) := by
  obtain ⟨p, h⟩ := Own.ex h
  obtain ⟨v, h⟩ := Own.ex h
  have hp := h.fact (p := BldrV b bs p v) fun _ hA => hA.1
  exact ⟨p, v, hp, (h.tell (B := sep [blk b 76 [.pointer p, v], sl v 5 1 (by1 bs)]) fun _ hA => hA.2).open⟩
theorem bldr_shut {k : Ctx} {w : World} {l : List HP} {b : Nat} {bs : List UInt8} {p : Option Addr} {v : Value} (hp : BldrV b bs p v) (h : Own k w (blk b 76 [.pointer p, v] :: sl v 5 1 (by1 bs) :: l)) : Own k w (bldr b bs :: l) :=
  (Own.shut (l := [blk b 76 [.pointer p, v], sl v 5 1 (by1 bs)]) h).tell fun _ hA => ⟨p, v, hp, hA⟩
theorem copyCheck_spec (k : Ctx) (w : World) (b : Nat) (p : Option Addr) (v : Value) (hp : p = none ∨ p = some ⟨b, 0, none⟩) (hO : Own k w [blk b 76 [.pointer p, v]]) :
    Tri Try.prog 73 #[.pointer (some ⟨b, 0, none⟩)] k w fun r m => m = [blk b 76 [.pointer (some ⟨b, 0, none⟩), v]] := by
  refine enter (args := [.pointer (some ⟨b, 0, none⟩)]) Try.func73 rfl rfl ?_
  rcases hp with rfl | rfl
  · repeat (first | (with_reducible first | refine K0 ?_ | refine K1 ?_ | refine K2 ?_ | refine K3 ?_ | refine K4 ?_ | refine K5 ?_ | refine K6 ?_ | refine K7 ?_ | refine K8 ?_ | refine K9 ?_ | refine L0 ?_ | refine L1 ?_ | refine L2 ?_ | refine L3 ?_ | refine L4 ?_ | refine L5 ?_ | refine L6 ?_) | refine Y0 hO rfl ?_ | refine Y1 hO rfl rfl (fun w hO => ?_) | refine Y2 hO rfl ?_ | refine Y3 hO rfl rfl (fun w hO => ?_) | refine l_y rfl rfl (y_index rfl rfl (by omega) (by omega)) ?_ | refine l_y rfl rfl (y_indexA rfl rfl (by omega) (by omega)) ?_ | refine L7 ?_ | refine L8 ?_ | refine L9 ?_ | refine M0 ?_ | refine M1 ?_ | refine M2 ?_ | refine M3 ?_ | refine M4 ?_ | refine M5 ?_ | refine M6 ?_ | refine M7 ?_ | refine M8 ?_ | refine M9 ?_ | refine N0 ?_ | refine N1 ?_ | refine N2 ?_ | refine N3 ?_ | refine N4 ?_ | refine N5 ?_ | refine N6 ?_ | refine N7 ?_ | refine N8 ?_ | refine N9 ?_ | refine R0 ?_ | refine R1 ?_ | refine R2 ?_ | refine R3 ?_ | refine R4 ?_ | refine R5 ?_ | refine R6 ?_ | refine R7 ?_ | refine R8 ?_ | refine R9 ?_ | refine S0 ?_)
    repeat (first | (with_reducible first | refine K0 ?_ | refine K1 ?_ | refine K2 ?_ | refine K3 ?_ | refine K4 ?_ | refine K5 ?_ | refine K6 ?_ | refine K7 ?_ | refine K8 ?_ | refine K9 ?_ | refine L0 ?_ | refine L1 ?_ | refine L2 ?_ | refine L3 ?_ | refine L4 ?_ | refine L5 ?_ | refine L6 ?_) | refine Y0 hO rfl ?_ | refine Y1 hO rfl rfl (fun w hO => ?_) | refine Y2 hO rfl ?_ | refine Y3 hO rfl rfl (fun w hO => ?_) | refine l_y rfl rfl (y_index rfl rfl (by omega) (by omega)) ?_ | refine l_y rfl rfl (y_indexA rfl rfl (by omega) (by omega)) ?_ | refine L7 ?_ | refine L8 ?_ | refine L9 ?_ | refine M0 ?_ | refine M1 ?_ | refine M2 ?_ | refine M3 ?_ | refine M4 ?_ | refine M5 ?_ | refine M6 ?_ | refine M7 ?_ | refine M8 ?_ | refine M9 ?_ | refine N0 ?_ | refine N1 ?_ | refine N2 ?_ | refine N3 ?_ | refine N4 ?_ | refine N5 ?_ | refine N6 ?_ | refine N7 ?_ | refine N8 ?_ | refine N9 ?_ | refine R0 ?_ | refine R1 ?_ | refine R2 ?_ | refine R3 ?_ | refine R4 ?_ | refine R5 ?_ | refine R6 ?_ | refine R7 ?_ | refine R8 ?_ | refine R9 ?_ | refine S0 ?_)
    refine l_y rfl rfl (y_toUnsafe rfl (by decide) (blk_shape hO) (show 0 < 2 by omega)) ?_
    refine l_y rfl rfl (y_extern rfl (by rw [run_callFunc_extern Try.func92 (by kernel_rfl) (by kernel_rfl) (by kernel_rfl) (e := Extern.AbiNoEscape.same) (by kernel_rfl)]; rfl)) ?_
    refine l_y rfl rfl (y_ofUnsafe rfl (blk_shape hO) (by kernel_rfl)) ?_
    repeat (first | (with_reducible first | refine K0 ?_ | refine K1 ?_ | refine K2 ?_ | refine K3 ?_ | refine K4 ?_ | refine K5 ?_ | refine K6 ?_ | refine K7 ?_ | refine K8 ?_ | refine K9 ?_ | refine L0 ?_ | refine L1 ?_ | refine L2 ?_ | refine L3 ?_ | refine L4 ?_ | refine L5 ?_ | refine L6 ?_) | refine Y0 hO rfl ?_ | refine Y1 hO rfl rfl (fun w hO => ?_) | refine Y2 hO rfl ?_ | refine Y3 hO rfl rfl (fun w hO => ?_) | refine l_y rfl rfl (y_index rfl rfl (by omega) (by omega)) ?_ | refine l_y rfl rfl (y_indexA rfl rfl (by omega) (by omega)) ?_ | refine L7 ?_ | refine L8 ?_ | refine L9 ?_ | refine M0 ?_ | refine M1 ?_ | refine M2 ?_ | refine M3 ?_ | refine M4 ?_ | refine M5 ?_ | refine M6 ?_ | refine M7 ?_ | refine M8 ?_ | refine M9 ?_ | refine N0 ?_ | refine N1 ?_ | refine N2 ?_ | refine N3 ?_ | refine N4 ?_ | refine N5 ?_ | refine N6 ?_ | refine N7 ?_ | refine N8 ?_ | refine N9 ?_ | refine R0 ?_ | refine R1 ?_ | refine R2 ?_ | refine R3 ?_ | refine R4 ?_ | refine R5 ?_ | refine R6 ?_ | refine R7 ?_ | refine R8 ?_ | refine R9 ?_ | refine S0 ?_)
    exact fin0 rfl ⟨_, rfl, hO⟩
  · repeat (first | (with_reducible first | refine K0 ?_ | refine K1 ?_ | refine K2 ?_ | refine K3 ?_ | refine K4 ?_ | refine K5 ?_ | refine K6 ?_ | refine K7 ?_ | refine K8 ?_ | refine K9 ?_ | refine L0 ?_ | refine L1 ?_ | refine L2 ?_ | refine L3 ?_ | refine L4 ?_ | refine L5 ?_ | refine L6 ?_) | refine Y0 hO rfl ?_ | refine Y1 hO rfl rfl (fun w hO => ?_) | refine Y2 hO rfl ?_ | refine Y3 hO rfl rfl (fun w hO => ?_) | refine l_y rfl rfl (y_index rfl rfl (by omega) (by omega)) ?_ | refine l_y rfl rfl (y_indexA rfl rfl (by omega) (by omega)) ?_ | refine L7 ?_ | refine L8 ?_ | refine L9 ?_ | refine M0 ?_ | refine M1 ?_ | refine M2 ?_ | refine M3 ?_ | refine M4 ?_ | refine M5 ?_ | refine M6 ?_ | refine M7 ?_ | refine M8 ?_ | refine M9 ?_ | refine N0 ?_ | refine N1 ?_ | refine N2 ?_ | refine N3 ?_ | refine N4 ?_ | refine N5 ?_ | refine N6 ?_ | refine N7 ?_ | refine N8 ?_ | refine N9 ?_ | refine R0 ?_ | refine R1 ?_ | refine R2 ?_ | refine R3 ?_ | refine R4 ?_ | refine R5 ?_ | refine R6 ?_ | refine R7 ?_ | refine R8 ?_ | refine R9 ?_ | refine S0 ?_)
    repeat (first | (with_reducible first | refine K0 ?_ | refine K1 ?_ | refine K2 ?_ | refine K3 ?_ | refine K4 ?_ | refine K5 ?_ | refine K6 ?_ | refine K7 ?_ | refine K8 ?_ | refine K9 ?_ | refine L0 ?_ | refine L1 ?_ | refine L2 ?_ | refine L3 ?_ | refine L4 ?_ | refine L5 ?_ | refine L6 ?_) | refine Y0 hO rfl ?_ | refine Y1 hO rfl rfl (fun w hO => ?_) | refine Y2 hO rfl ?_ | refine Y3 hO rfl rfl (fun w hO => ?_) | refine l_y rfl rfl (y_index rfl rfl (by omega) (by omega)) ?_ | refine l_y rfl rfl (y_indexA rfl rfl (by omega) (by omega)) ?_ | refine L7 ?_ | refine L8 ?_ | refine L9 ?_ | refine M0 ?_ | refine M1 ?_ | refine M2 ?_ | refine M3 ?_ | refine M4 ?_ | refine M5 ?_ | refine M6 ?_ | refine M7 ?_ | refine M8 ?_ | refine M9 ?_ | refine N0 ?_ | refine N1 ?_ | refine N2 ?_ | refine N3 ?_ | refine N4 ?_ | refine N5 ?_ | refine N6 ?_ | refine N7 ?_ | refine N8 ?_ | refine N9 ?_ | refine R0 ?_ | refine R1 ?_ | refine R2 ?_ | refine R3 ?_ | refine R4 ?_ | refine R5 ?_ | refine R6 ?_ | refine R7 ?_ | refine R8 ?_ | refine R9 ?_ | refine S0 ?_)
    refine l_y rfl rfl (y_nePsame rfl rfl) ?_
    repeat (first | (with_reducible first | refine K0 ?_ | refine K1 ?_ | refine K2 ?_ | refine K3 ?_ | refine K4 ?_ | refine K5 ?_ | refine K6 ?_ | refine K7 ?_ | refine K8 ?_ | refine K9 ?_ | refine L0 ?_ | refine L1 ?_ | refine L2 ?_ | refine L3 ?_ | refine L4 ?_ | refine L5 ?_ | refine L6 ?_) | refine Y0 hO rfl ?_ | refine Y1 hO rfl rfl (fun w hO => ?_) | refine Y2 hO rfl ?_ | refine Y3 hO rfl rfl (fun w hO => ?_) | refine l_y rfl rfl (y_index rfl rfl (by omega) (by omega)) ?_ | refine l_y rfl rfl (y_indexA rfl rfl (by omega) (by omega)) ?_ | refine L7 ?_ | refine L8 ?_ | refine L9 ?_ | refine M0 ?_ | refine M1 ?_ | refine M2 ?_ | refine M3 ?_ | refine M4 ?_ | refine M5 ?_ | refine M6 ?_ | refine M7 ?_ | refine M8 ?_ | refine M9 ?_ | refine N0 ?_ | refine N1 ?_ | refine N2 ?_ | refine N3 ?_ | refine N4 ?_ | refine N5 ?_ | refine N6 ?_ | refine N7 ?_ | refine N8 ?_ | refine N9 ?_ | refine R0 ?_ | refine R1 ?_ | refine R2 ?_ | refine R3 ?_ | refine R4 ?_ | refine R5 ?_ | refine R6 ?_ | refine R7 ?_ | refine R8 ?_ | refine R9 ?_ | refine S0 ?_)
    exact fin0 rfl ⟨_, rfl, hO⟩
theorem WriteString_spec (k : Ctx) (w : World) (b : Nat) (bs : List UInt8) (s : ByteArray) (hs : bs.length + s.size ≤ 35184372088832) (hO : Own k w [bldr b bs]) :
    Tri Try.prog 38 #[.pointer (some ⟨b, 0, none⟩), .string s] k w fun r m => r = .tuple #[.int .i64 s.size, .nilIface] ∧ m = [bldr b (bs ++ s.data.toList)] := by
  refine enter (args := [.pointer (some ⟨b, 0, none⟩), .string s]) Try.func38 rfl rfl ?_
  obtain ⟨p, v, hp, hO⟩ := bldr_open hO
  repeat (first | (with_reducible first | refine K0 ?_ | refine K1 ?_ | refine K2 ?_ | refine K3 ?_ | refine K4 ?_ | refine K5 ?_ | refine K6 ?_ | refine K7 ?_ | refine K8 ?_ | refine K9 ?_ | refine L0 ?_ | refine L1 ?_ | refine L2 ?_ | refine L3 ?_ | refine L4 ?_ | refine L5 ?_ | refine L6 ?_) | refine Y0 hO rfl ?_ | refine Y1 hO rfl rfl (fun w hO => ?_) | refine Y2 hO rfl ?_ | refine Y3 hO rfl rfl (fun w hO => ?_) | refine l_y rfl rfl (y_index rfl rfl (by omega) (by omega)) ?_ | refine l_y rfl rfl (y_indexA rfl rfl (by omega) (by omega)) ?_ | refine L7 ?_ | refine L8 ?_ | refine L9 ?_ | refine M0 ?_ | refine M1 ?_ | refine M2 ?_ | refine M3 ?_ | refine M4 ?_ | refine M5 ?_ | refine M6 ?_ | refine M7 ?_ | refine M8 ?_ | refine M9 ?_ | refine N0 ?_ | refine N1 ?_ | refine N2 ?_ | refine N3 ?_ | refine N4 ?_ | refine N5 ?_ | refine N6 ?_ | refine N7 ?_ | refine N8 ?_ | refine N9 ?_ | refine R0 ?_ | refine R1 ?_ | refine R2 ?_ | refine R3 ?_ | refine R4 ?_ | refine R5 ?_ | refine R6 ?_ | refine R7 ?_ | refine R8 ?_ | refine R9 ?_ | refine S0 ?_)
  refine s_callO hO (.cons (.hd _ _) (.nil _)) rfl rfl rfl (fun k' hx hr hO => copyCheck_spec k' _ b p v hp.addr hO) ?_
  rintro _ _ w rfl hO
  repeat (first | (with_reducible first | refine K0 ?_ | refine K1 ?_ | refine K2 ?_ | refine K3 ?_ | refine K4 ?_ | refine K5 ?_ | refine K6 ?_ | refine K7 ?_ | refine K8 ?_ | refine K9 ?_ | refine L0 ?_ | refine L1 ?_ | refine L2 ?_ | refine L3 ?_ | refine L4 ?_ | refine L5 ?_ | refine L6 ?_) | refine Y0 hO rfl ?_ | refine Y1 hO rfl rfl (fun w hO => ?_) | refine Y2 hO rfl ?_ | refine Y3 hO rfl rfl (fun w hO => ?_) | refine l_y rfl rfl (y_index rfl rfl (by omega) (by omega)) ?_ | refine l_y rfl rfl (y_indexA rfl rfl (by omega) (by omega)) ?_ | refine L7 ?_ | refine L8 ?_ | refine L9 ?_ | refine M0 ?_ | refine M1 ?_ | refine M2 ?_ | refine M3 ?_ | refine M4 ?_ | refine M5 ?_ | refine M6 ?_ | refine M7 ?_ | refine M8 ?_ | refine M9 ?_ | refine N0 ?_ | refine N1 ?_ | refine N2 ?_ | refine N3 ?_ | refine N4 ?_ | refine N5 ?_ | refine N6 ?_ | refine N7 ?_ | refine N8 ?_ | refine N9 ?_ | refine R0 ?_ | refine R1 ?_ | refine R2 ?_ | refine R3 ?_ | refine R4 ?_ | refine R5 ?_ | refine R6 ?_ | refine R7 ?_ | refine R8 ?_ | refine R9 ?_ | refine S0 ?_)
  refine s_append (by intro kk h; cases h) hO (.tl _ (.hd _ _)) rfl rfl rfl rfl (src_str s) (by1_one _) ?_ ?_ ?_
  · simp only [by1_length, Array.length_toList]; show bs.length + s.size ≤ _; omega
  · simp only [by1_length, Array.length_toList]; show (bs.length + s.size) * 1 ≤ _; omega
  intro v' w hO hgr
  have hv' : BldrV b (bs ++ s.data.toList) (some ⟨b, 0, none⟩) v' := by
    refine ⟨.inr rfl, ?_, fun a n c e => ?_⟩
    · rw [hgr.nil, hp.nil, by1_length, List.append_eq_nil_iff, List.length_eq_zero_iff]
    · rcases hgr.at_ a n c e with h | ⟨n', c', h⟩
      · exact h
      · exact hp.off _ _ _ h
  repeat (first | (with_reducible first | refine K0 ?_ | refine K1 ?_ | refine K2 ?_ | refine K3 ?_ | refine K4 ?_ | refine K5 ?_ | refine K6 ?_ | refine K7 ?_ | refine K8 ?_ | refine K9 ?_ | refine L0 ?_ | refine L1 ?_ | refine L2 ?_ | refine L3 ?_ | refine L4 ?_ | refine L5 ?_ | refine L6 ?_) | refine Y0 hO rfl ?_ | refine Y1 hO rfl rfl (fun w hO => ?_) | refine Y2 hO rfl ?_ | refine Y3 hO rfl rfl (fun w hO => ?_) | refine l_y rfl rfl (y_index rfl rfl (by omega) (by omega)) ?_ | refine l_y rfl rfl (y_indexA rfl rfl (by omega) (by omega)) ?_ | refine L7 ?_ | refine L8 ?_ | refine L9 ?_ | refine M0 ?_ | refine M1 ?_ | refine M2 ?_ | refine M3 ?_ | refine M4 ?_ | refine M5 ?_ | refine M6 ?_ | refine M7 ?_ | refine M8 ?_ | refine M9 ?_ | refine N0 ?_ | refine N1 ?_ | refine N2 ?_ | refine N3 ?_ | refine N4 ?_ | refine N5 ?_ | refine N6 ?_ | refine N7 ?_ | refine N8 ?_ | refine N9 ?_ | refine R0 ?_ | refine R1 ?_ | refine R2 ?_ | refine R3 ?_ | refine R4 ?_ | refine R5 ?_ | refine R6 ?_ | refine R7 ?_ | refine R8 ?_ | refine R9 ?_ | refine S0 ?_)
  obtain ⟨a', cap', rfl⟩ := sl_shape hO
  refine s_store1 hO.swap rfl rfl rfl rfl rfl (.hd _ _ _) (.ofBlk1 rfl) fun w hO => ?_
  repeat (first | (with_reducible first | refine K0 ?_ | refine K1 ?_ | refine K2 ?_ | refine K3 ?_ | refine K4 ?_ | refine K5 ?_ | refine K6 ?_ | refine K7 ?_ | refine K8 ?_ | refine K9 ?_ | refine L0 ?_ | refine L1 ?_ | refine L2 ?_ | refine L3 ?_ | refine L4 ?_ | refine L5 ?_ | refine L6 ?_) | refine Y0 hO rfl ?_ | refine Y1 hO rfl rfl (fun w hO => ?_) | refine Y2 hO rfl ?_ | refine Y3 hO rfl rfl (fun w hO => ?_) | refine l_y rfl rfl (y_index rfl rfl (by omega) (by omega)) ?_ | refine l_y rfl rfl (y_indexA rfl rfl (by omega) (by omega)) ?_ | refine L7 ?_ | refine L8 ?_ | refine L9 ?_ | refine M0 ?_ | refine M1 ?_ | refine M2 ?_ | refine M3 ?_ | refine M4 ?_ | refine M5 ?_ | refine M6 ?_ | refine M7 ?_ | refine M8 ?_ | refine M9 ?_ | refine N0 ?_ | refine N1 ?_ | refine N2 ?_ | refine N3 ?_ | refine N4 ?_ | refine N5 ?_ | refine N6 ?_ | refine N7 ?_ | refine N8 ?_ | refine N9 ?_ | refine R0 ?_ | refine R1 ?_ | refine R2 ?_ | refine R3 ?_ | refine R4 ?_ | refine R5 ?_ | refine R6 ?_ | refine R7 ?_ | refine R8 ?_ | refine R9 ?_ | refine S0 ?_)
  rw [← by1_append] at hO hv'
  exact fin2 rfl rfl rfl ⟨_, ⟨rfl, rfl⟩, bldr_shut hv' hO⟩
theorem String_spec (k : Ctx) (w : World) (b : Nat) (bs : List UInt8) (hs : bs.length ≤ 4611686018427387904) (hO : Own k w [bldr b bs]) :
    Tri Try.prog 36 #[.pointer (some ⟨b, 0, none⟩)] k w fun r m => r = .string ⟨bs.toArray⟩ ∧ m = [] := by
  refine enter (args := [.pointer (some ⟨b, 0, none⟩)]) Try.func36 rfl rfl ?_
  obtain ⟨p, v, hp, hO⟩ := bldr_open hO
  repeat (first | (with_reducible first | refine K0 ?_ | refine K1 ?_ | refine K2 ?_ | refine K3 ?_ | refine K4 ?_ | refine K5 ?_ | refine K6 ?_ | refine K7 ?_ | refine K8 ?_ | refine K9 ?_ | refine L0 ?_ | refine L1 ?_ | refine L2 ?_ | refine L3 ?_ | refine L4 ?_ | refine L5 ?_ | refine L6 ?_) | refine Y0 hO rfl ?_ | refine Y1 hO rfl rfl (fun w hO => ?_) | refine Y2 hO rfl ?_ | refine Y3 hO rfl rfl (fun w hO => ?_) | refine l_y rfl rfl (y_index rfl rfl (by omega) (by omega)) ?_ | refine l_y rfl rfl (y_indexA rfl rfl (by omega) (by omega)) ?_ | refine L7 ?_ | refine L8 ?_ | refine L9 ?_ | refine M0 ?_ | refine M1 ?_ | refine M2 ?_ | refine M3 ?_ | refine M4 ?_ | refine M5 ?_ | refine M6 ?_ | refine M7 ?_ | refine M8 ?_ | refine M9 ?_ | refine N0 ?_ | refine N1 ?_ | refine N2 ?_ | refine N3 ?_ | refine N4 ?_ | refine N5 ?_ | refine N6 ?_ | refine N7 ?_ | refine N8 ?_ | refine N9 ?_ | refine R0 ?_ | refine R1 ?_ | refine R2 ?_ | refine R3 ?_ | refine R4 ?_ | refine R5 ?_ | refine R6 ?_ | refine R7 ?_ | refine R8 ?_ | refine R9 ?_ | refine S0 ?_)
  refine d_region (SO k [blk b 76 [.pointer p, v]]) ?_
  rcases sl_open hO.swap with ⟨rfl, hb0, hO⟩ | ⟨g, o, cap, rfl, hO⟩
  · have hbs : bs = [] := hp.nil.1 rfl
    subst hbs
    have hS := SO.of hO.drew (.cons (.hd _ _) (.nil _))
    refine d_take 0 rfl (by kernel_rfl) (by kernel_rfl) (by kernel_rfl) (by intro c a d v w h; cases d <;> exact h) hS rfl rfl (fun w ⟨m, hw⟩ => by first | exact y_move rfl | exact y_assign rfl | exact y_nilCheck rfl rfl | exact y_fieldAddr_row rfl | exact y_fieldAddr rfl | exact y_lenL rfl | exact y_lenS rfl | exact y_extract rfl rfl | exact y_pick_t rfl rfl | exact y_pick_f rfl rfl | exact y_arith rfl rfl rfl (w64 (by omega) (by omega)) | exact y_index rfl rfl (by omega) (by omega) | exact y_indexA rfl rfl (by omega) (by omega)) ?_
    refine d_take 1 rfl (by kernel_rfl) (by kernel_rfl) (by kernel_rfl) (by intro c a d v w h; cases d <;> exact h) hS rfl rfl (fun w ⟨m, hw⟩ => by first | exact y_move rfl | exact y_assign rfl | exact y_nilCheck rfl rfl | exact y_fieldAddr_row rfl | exact y_fieldAddr rfl | exact y_lenL rfl | exact y_lenS rfl | exact y_extract rfl rfl | exact y_pick_t rfl rfl | exact y_pick_f rfl rfl | exact y_arith rfl rfl rfl (w64 (by omega) (by omega)) | exact y_index rfl rfl (by omega) (by omega) | exact y_indexA rfl rfl (by omega) (by omega)) ?_
    refine d_take 2 rfl (by kernel_rfl) (by kernel_rfl) (by kernel_rfl) (by intro c a d v w h; cases d <;> exact h) hS rfl rfl (fun w ⟨m, hw⟩ => by first | exact y_move rfl | exact y_assign rfl | exact y_nilCheck rfl rfl | exact y_fieldAddr_row rfl | exact y_fieldAddr rfl | exact y_lenL rfl | exact y_lenS rfl | exact y_extract rfl rfl | exact y_pick_t rfl rfl | exact y_pick_f rfl rfl | exact y_arith rfl rfl rfl (w64 (by omega) (by omega)) | exact y_index rfl rfl (by omega) (by omega) | exact y_indexA rfl rfl (by omega) (by omega)) ?_
    refine d_take 3 rfl (by kernel_rfl) (by kernel_rfl) (by kernel_rfl) (by intro c a d v w h; cases d <;> exact h) hS rfl rfl (fun w ⟨m, hw⟩ => by first | exact y_load1 rfl (hw.holds (.hd _ _ _) (.ofBlk1 rfl))) ?_
    refine d_take 4 rfl (by kernel_rfl) (by kernel_rfl) (by kernel_rfl) (by intro c a d v w h; cases d <;> exact h) hS rfl rfl (fun w ⟨m, hw⟩ => by first | exact y_built rfl (fun cs => by simp [builtin, Lib.run_unsafeSliceData_nil]; rfl)) ?_
    refine d_take 5 rfl (by kernel_rfl) (by kernel_rfl) (by kernel_rfl) (by intro c a d v w h; cases d <;> exact h) hS rfl rfl (fun w ⟨m, hw⟩ => by first | exact y_move rfl | exact y_assign rfl | exact y_nilCheck rfl rfl | exact y_fieldAddr_row rfl | exact y_fieldAddr rfl | exact y_lenL rfl | exact y_lenS rfl | exact y_extract rfl rfl | exact y_pick_t rfl rfl | exact y_pick_f rfl rfl | exact y_arith rfl rfl rfl (w64 (by omega) (by omega)) | exact y_index rfl rfl (by omega) (by omega) | exact y_indexA rfl rfl (by omega) (by omega)) ?_
    refine d_take 6 rfl (by kernel_rfl) (by kernel_rfl) (by kernel_rfl) (by intro c a d v w h; cases d <;> exact h) hS rfl rfl (fun w ⟨m, hw⟩ => by first | exact y_move rfl | exact y_assign rfl | exact y_nilCheck rfl rfl | exact y_fieldAddr_row rfl | exact y_fieldAddr rfl | exact y_lenL rfl | exact y_lenS rfl | exact y_extract rfl rfl | exact y_pick_t rfl rfl | exact y_pick_f rfl rfl | exact y_arith rfl rfl rfl (w64 (by omega) (by omega)) | exact y_index rfl rfl (by omega) (by omega) | exact y_indexA rfl rfl (by omega) (by omega)) ?_
    refine d_take 7 rfl (by kernel_rfl) (by kernel_rfl) (by kernel_rfl) (by intro c a d v w h; cases d <;> exact h) hS rfl rfl (fun w ⟨m, hw⟩ => by first | exact y_move rfl | exact y_assign rfl | exact y_nilCheck rfl rfl | exact y_fieldAddr_row rfl | exact y_fieldAddr rfl | exact y_lenL rfl | exact y_lenS rfl | exact y_extract rfl rfl | exact y_pick_t rfl rfl | exact y_pick_f rfl rfl | exact y_arith rfl rfl rfl (w64 (by omega) (by omega)) | exact y_index rfl rfl (by omega) (by omega) | exact y_indexA rfl rfl (by omega) (by omega)) ?_
    refine d_take 8 rfl (by kernel_rfl) (by kernel_rfl) (by kernel_rfl) (by intro c a d v w h; cases d <;> exact h) hS rfl rfl (fun w ⟨m, hw⟩ => by first | exact y_load1 rfl (hw.holds (.hd _ _ _) (.ofBlk1 rfl))) ?_
    refine d_take 9 rfl (by kernel_rfl) (by kernel_rfl) (by kernel_rfl) (by intro c a d v w h; cases d <;> exact h) hS rfl rfl (fun w ⟨m, hw⟩ => by first | exact y_move rfl | exact y_assign rfl | exact y_nilCheck rfl rfl | exact y_fieldAddr_row rfl | exact y_fieldAddr rfl | exact y_lenL rfl | exact y_lenS rfl | exact y_extract rfl rfl | exact y_pick_t rfl rfl | exact y_pick_f rfl rfl | exact y_arith rfl rfl rfl (w64 (by omega) (by omega)) | exact y_index rfl rfl (by omega) (by omega) | exact y_indexA rfl rfl (by omega) (by omega)) ?_
    refine d_take 10 rfl (by kernel_rfl) (by kernel_rfl) (by kernel_rfl) (by intro c a d v w h; cases d <;> exact h) hS rfl rfl (fun w ⟨m, hw⟩ => by first | exact y_built (v := .string .empty) rfl (fun cs => by simp [builtin, Lib.run_unsafeString_none])) ?_
    refine d_take 11 rfl (by kernel_rfl) (by kernel_rfl) (by kernel_rfl) (by intro c a d v w h; cases d <;> exact h) hS rfl rfl (fun w ⟨m, hw⟩ => by first | exact y_move rfl | exact y_assign rfl | exact y_nilCheck rfl rfl | exact y_fieldAddr_row rfl | exact y_fieldAddr rfl | exact y_lenL rfl | exact y_lenS rfl | exact y_extract rfl rfl | exact y_pick_t rfl rfl | exact y_pick_f rfl rfl | exact y_arith rfl rfl rfl (w64 (by omega) (by omega)) | exact y_index rfl rfl (by omega) (by omega) | exact y_indexA rfl rfl (by omega) (by omega)) ?_
    refine d_done (by kernel_rfl) ?_
    repeat (first | (with_reducible first | refine K0 ?_ | refine K1 ?_ | refine K2 ?_ | refine K3 ?_ | refine K4 ?_ | refine K5 ?_ | refine K6 ?_ | refine K7 ?_ | refine K8 ?_ | refine K9 ?_ | refine L0 ?_ | refine L1 ?_ | refine L2 ?_ | refine L3 ?_ | refine L4 ?_ | refine L5 ?_ | refine L6 ?_) | refine Y0 hO rfl ?_ | refine Y1 hO rfl rfl (fun w hO => ?_) | refine Y2 hO rfl ?_ | refine Y3 hO rfl rfl (fun w hO => ?_) | refine l_y rfl rfl (y_index rfl rfl (by omega) (by omega)) ?_ | refine l_y rfl rfl (y_indexA rfl rfl (by omega) (by omega)) ?_ | refine L7 ?_ | refine L8 ?_ | refine L9 ?_ | refine M0 ?_ | refine M1 ?_ | refine M2 ?_ | refine M3 ?_ | refine M4 ?_ | refine M5 ?_ | refine M6 ?_ | refine M7 ?_ | refine M8 ?_ | refine M9 ?_ | refine N0 ?_ | refine N1 ?_ | refine N2 ?_ | refine N3 ?_ | refine N4 ?_ | refine N5 ?_ | refine N6 ?_ | refine N7 ?_ | refine N8 ?_ | refine N9 ?_ | refine R0 ?_ | refine R1 ?_ | refine R2 ?_ | refine R3 ?_ | refine R4 ?_ | refine R5 ?_ | refine R6 ?_ | refine R7 ?_ | refine R8 ?_ | refine R9 ?_ | refine S0 ?_)
    exact fin1 rfl rfl ⟨_, ⟨rfl, rfl⟩, hO.drop.drop.drew⟩
  · have ho := hp.off _ _ _ rfl
    simp only [Addr.mk.injEq, and_true, true_and] at ho
    subst ho
    have hS := SO.of hO.drew (.cons (.tl _ (.hd _ _)) (.nil _))
    have hne : bs ≠ [] := fun h => by have := hp.nil.2 h; cases this
    have hlen : 0 < bs.length := List.length_pos_iff.2 hne
    obtain ⟨m, hsh, hm1, hm2⟩ := shape_arr hO
    have hcap : (by1 bs).length ≤ cap := hO.fact fun h hA => by obtain ⟨_, _, _, _, _, h4, _⟩ := hA; exact h4
    rw [by1_length] at hcap
    refine d_take 0 rfl (by kernel_rfl) (by kernel_rfl) (by kernel_rfl) (by intro c a d v w h; cases d <;> exact h) hS rfl rfl (fun w ⟨m, hw⟩ => by first | exact y_move rfl | exact y_assign rfl | exact y_nilCheck rfl rfl | exact y_fieldAddr_row rfl | exact y_fieldAddr rfl | exact y_lenL rfl | exact y_lenS rfl | exact y_extract rfl rfl | exact y_pick_t rfl rfl | exact y_pick_f rfl rfl | exact y_arith rfl rfl rfl (w64 (by omega) (by omega)) | exact y_index rfl rfl (by omega) (by omega) | exact y_indexA rfl rfl (by omega) (by omega)) ?_
    refine d_take 1 rfl (by kernel_rfl) (by kernel_rfl) (by kernel_rfl) (by intro c a d v w h; cases d <;> exact h) hS rfl rfl (fun w ⟨m, hw⟩ => by first | exact y_move rfl | exact y_assign rfl | exact y_nilCheck rfl rfl | exact y_fieldAddr_row rfl | exact y_fieldAddr rfl | exact y_lenL rfl | exact y_lenS rfl | exact y_extract rfl rfl | exact y_pick_t rfl rfl | exact y_pick_f rfl rfl | exact y_arith rfl rfl rfl (w64 (by omega) (by omega)) | exact y_index rfl rfl (by omega) (by omega) | exact y_indexA rfl rfl (by omega) (by omega)) ?_
    refine d_take 2 rfl (by kernel_rfl) (by kernel_rfl) (by kernel_rfl) (by intro c a d v w h; cases d <;> exact h) hS rfl rfl (fun w ⟨m, hw⟩ => by first | exact y_move rfl | exact y_assign rfl | exact y_nilCheck rfl rfl | exact y_fieldAddr_row rfl | exact y_fieldAddr rfl | exact y_lenL rfl | exact y_lenS rfl | exact y_extract rfl rfl | exact y_pick_t rfl rfl | exact y_pick_f rfl rfl | exact y_arith rfl rfl rfl (w64 (by omega) (by omega)) | exact y_index rfl rfl (by omega) (by omega) | exact y_indexA rfl rfl (by omega) (by omega)) ?_
    refine d_take 3 rfl (by kernel_rfl) (by kernel_rfl) (by kernel_rfl) (by intro c a d v w h; cases d <;> exact h) hS rfl rfl (fun w ⟨m, hw⟩ => by first | exact y_load1 rfl (hw.holds (.hd _ _ _) (.ofBlk1 rfl))) ?_
    refine d_take 4 rfl (by kernel_rfl) (by kernel_rfl) (by kernel_rfl) (by intro c a d v w h; cases d <;> exact h) hS rfl rfl (fun w ⟨m, hw⟩ => by first | exact y_built (v := .pointer (some ⟨g, 0, none⟩)) rfl (fun cs => by simp [builtin, Lib.run_unsafeSliceData_row (P := Try.prog) w _ _ ⟨g, 0, none⟩ _ cap (by omega)])) ?_
    refine d_take 5 rfl (by kernel_rfl) (by kernel_rfl) (by kernel_rfl) (by intro c a d v w h; cases d <;> exact h) hS rfl rfl (fun w ⟨m, hw⟩ => by first | exact y_move rfl | exact y_assign rfl | exact y_nilCheck rfl rfl | exact y_fieldAddr_row rfl | exact y_fieldAddr rfl | exact y_lenL rfl | exact y_lenS rfl | exact y_extract rfl rfl | exact y_pick_t rfl rfl | exact y_pick_f rfl rfl | exact y_arith rfl rfl rfl (w64 (by omega) (by omega)) | exact y_index rfl rfl (by omega) (by omega) | exact y_indexA rfl rfl (by omega) (by omega)) ?_
    refine d_take 6 rfl (by kernel_rfl) (by kernel_rfl) (by kernel_rfl) (by intro c a d v w h; cases d <;> exact h) hS rfl rfl (fun w ⟨m, hw⟩ => by first | exact y_move rfl | exact y_assign rfl | exact y_nilCheck rfl rfl | exact y_fieldAddr_row rfl | exact y_fieldAddr rfl | exact y_lenL rfl | exact y_lenS rfl | exact y_extract rfl rfl | exact y_pick_t rfl rfl | exact y_pick_f rfl rfl | exact y_arith rfl rfl rfl (w64 (by omega) (by omega)) | exact y_index rfl rfl (by omega) (by omega) | exact y_indexA rfl rfl (by omega) (by omega)) ?_
    refine d_take 7 rfl (by kernel_rfl) (by kernel_rfl) (by kernel_rfl) (by intro c a d v w h; cases d <;> exact h) hS rfl rfl (fun w ⟨m, hw⟩ => by first | exact y_move rfl | exact y_assign rfl | exact y_nilCheck rfl rfl | exact y_fieldAddr_row rfl | exact y_fieldAddr rfl | exact y_lenL rfl | exact y_lenS rfl | exact y_extract rfl rfl | exact y_pick_t rfl rfl | exact y_pick_f rfl rfl | exact y_arith rfl rfl rfl (w64 (by omega) (by omega)) | exact y_index rfl rfl (by omega) (by omega) | exact y_indexA rfl rfl (by omega) (by omega)) ?_
    refine d_take 8 rfl (by kernel_rfl) (by kernel_rfl) (by kernel_rfl) (by intro c a d v w h; cases d <;> exact h) hS rfl rfl (fun w ⟨m, hw⟩ => by first | exact y_load1 rfl (hw.holds (.hd _ _ _) (.ofBlk1 rfl))) ?_
    refine d_take 9 rfl (by kernel_rfl) (by kernel_rfl) (by kernel_rfl) (by intro c a d v w h; cases d <;> exact h) hS rfl rfl (fun w ⟨m, hw⟩ => by first | exact y_move rfl | exact y_assign rfl | exact y_nilCheck rfl rfl | exact y_fieldAddr_row rfl | exact y_fieldAddr rfl | exact y_lenL rfl | exact y_lenS rfl | exact y_extract rfl rfl | exact y_pick_t rfl rfl | exact y_pick_f rfl rfl | exact y_arith rfl rfl rfl (w64 (by omega) (by omega)) | exact y_index rfl rfl (by omega) (by omega) | exact y_indexA rfl rfl (by omega) (by omega)) ?_
    refine d_only 10 rfl (by kernel_rfl) ?_
    have hh := hO.holds (.hd _ _ _) Has.whole
    have hrun : (Builtin.unsafeString_ #[137, 3] 9 #[.pointer (some ⟨g, 0, none⟩), .int .i64 ((by1 bs).length : Nat)]).run Try.prog w.drew = .ok (.string ⟨bs.toArray⟩) (w.drew.freeze ⟨g, 0, none⟩ bs.length) := by
      rw [by1_length]
      exact Lib.run_unsafeString_row (P := Try.prog) w.drew 137 3 9 5 Try.underlying137 (by kernel_rfl) g m hsh bs hne (by omega) (by omega) (fun j x hj => by1_holds hh j x hj)
    refine s_built (w' := w.drew.freeze ⟨g, 0, none⟩ bs.length) (v := .string ⟨bs.toArray⟩) rfl rfl rfl (fun cs => by simp only [builtin, Sem.run_bind]; rw [hrun]; simp) ?_
    refine l_nil (o_end ⟨?_, ?_⟩)
    · exact SO.of hO.drew.freeze (.cons (.hd _ _) (.nil _))
    have hS := SO.of (hO.drew.freeze (m := bs.length)) (.cons (.hd _ _) (.nil _))
    refine d_take 11 rfl (by kernel_rfl) (by kernel_rfl) (by kernel_rfl) (by intro c a d v w h; cases d <;> exact h) hS rfl rfl (fun w ⟨m, hw⟩ => by first | exact y_move rfl | exact y_assign rfl | exact y_nilCheck rfl rfl | exact y_fieldAddr_row rfl | exact y_fieldAddr rfl | exact y_lenL rfl | exact y_lenS rfl | exact y_extract rfl rfl | exact y_pick_t rfl rfl | exact y_pick_f rfl rfl | exact y_arith rfl rfl rfl (w64 (by omega) (by omega)) | exact y_index rfl rfl (by omega) (by omega) | exact y_indexA rfl rfl (by omega) (by omega)) ?_
    refine d_done (by kernel_rfl) ?_
    repeat (first | (with_reducible first | refine K0 ?_ | refine K1 ?_ | refine K2 ?_ | refine K3 ?_ | refine K4 ?_ | refine K5 ?_ | refine K6 ?_ | refine K7 ?_ | refine K8 ?_ | refine K9 ?_ | refine L0 ?_ | refine L1 ?_ | refine L2 ?_ | refine L3 ?_ | refine L4 ?_ | refine L5 ?_ | refine L6 ?_) | refine Y0 hO rfl ?_ | refine Y1 hO rfl rfl (fun w hO => ?_) | refine Y2 hO rfl ?_ | refine Y3 hO rfl rfl (fun w hO => ?_) | refine l_y rfl rfl (y_index rfl rfl (by omega) (by omega)) ?_ | refine l_y rfl rfl (y_indexA rfl rfl (by omega) (by omega)) ?_ | refine L7 ?_ | refine L8 ?_ | refine L9 ?_ | refine M0 ?_ | refine M1 ?_ | refine M2 ?_ | refine M3 ?_ | refine M4 ?_ | refine M5 ?_ | refine M6 ?_ | refine M7 ?_ | refine M8 ?_ | refine M9 ?_ | refine N0 ?_ | refine N1 ?_ | refine N2 ?_ | refine N3 ?_ | refine N4 ?_ | refine N5 ?_ | refine N6 ?_ | refine N7 ?_ | refine N8 ?_ | refine N9 ?_ | refine R0 ?_ | refine R1 ?_ | refine R2 ?_ | refine R3 ?_ | refine R4 ?_ | refine R5 ?_ | refine R6 ?_ | refine R7 ?_ | refine R8 ?_ | refine R9 ?_ | refine S0 ?_)
    exact fin1 rfl rfl ⟨_, ⟨rfl, rfl⟩, hO.drew.freeze.drop⟩
end Go.Proofs.Ythkmnohghpdjhaa
end
section
set_option linter.unusedVariables false
set_option linter.unusedSimpArgs false
set_option maxRecDepth 100000
namespace Go.Proofs.Ythkmnohghpdjhaa
open Go Go.Hb Go.RowKit
theorem KidsT_spec {k : Ctx} {w : World} {a : Nat} {A : List Node_one} {K : Int → List Int} {id : Int} (h : Tree A K) (hi : InA A id) (hl : A.length ≤ 32768) (hO : Own k w [arenaL a A]) :
    Tri Try.prog 54 #[.pointer (some ⟨a, 0, none⟩), .int .i64 id] k w fun v m => ∃ q d, v = .slice q (K id).length d ∧ m = [arenaL a A, sls q d 3 1 (eI .i64) (K id)] := by
  have h1 := h.len hi
  have h2 := hi.1
  have h3 := hi.2
  refine (Kids_spec (xs := K id) (by omega) (by omega) (fun _ => (h.lnk id hi).chain) hO).mono ?_
  rintro v m (⟨h, _⟩ | ⟨_, q, d, rfl, rfl⟩)
  · rw [hi.b] at h; simp at h
  · exact ⟨q, d, rfl, rfl⟩
end Go.Proofs.Ythkmnohghpdjhaa
end
