/- What the row of this folder leans on, part 2: the walks of the functions and the laws of what they compute; no condition. -/
import Derived.Test.YthkmnohghpdjhaaShz1
section
set_option linter.unusedVariables false
set_option linter.unusedSimpArgs false
set_option maxRecDepth 100000
namespace Go.Proofs.Ythkmnohghpdjhaa
open Go Go.Hb Go.RowKit
/-- what Node tells of a node that is there -/
def NI (A : List Node_one) (id : Int) (n : Api_node) : Prop := ∃ q d, n = ownN (nodeA A id) q d
theorem NodeI_spec {k : Ctx} {w : World} {a : Nat} {A : List Node_one} {id : Int} (hi : InA A id) (ha : AttrsOk A) (hO : Own k w [arenaL a A]) :
    Tri Try.prog 34 #[.pointer (some ⟨a, 0, none⟩), .int .i64 id] k w fun v m => ∃ n, NI A id n ∧ v = .tuple #[.agg (Api_node.cells n).toArray, .int .i64 0] ∧ m = [arenaL a A, sls n.AttrsP n.AttrsC 63 4 Api_attr.cells n.Attrs] := by
  have h0 : 0 < A.length := by have := hi.1; have := hi.2; omega
  refine (Node_spec h0 ha hO).mono ?_
  rintro v m (⟨h, _⟩ | ⟨_, q, d, rfl, rfl⟩)
  · rw [hi.b] at h; cases h
  · exact ⟨_, ⟨q, d, rfl⟩, rfl, rfl⟩
section
variable {k : Ctx} {w : World}
end
end Go.Proofs.Ythkmnohghpdjhaa
end
section
set_option linter.unusedVariables false
set_option linter.unusedSimpArgs false
set_option maxRecDepth 100000
namespace Go.Proofs.Ythkmnohghpdjhaa
open Go Go.Hb Go.RowKit
theorem z3 (a b c : UInt8) : (⟨#[a, b, c]⟩ : ByteArray).size = 3 := rfl
theorem z4 (a b c d : UInt8) : (⟨#[a, b, c, d]⟩ : ByteArray).size = 4 := rfl
section
variable {k : Ctx} {w : World}
end
end Go.Proofs.Ythkmnohghpdjhaa
end
section
set_option linter.unusedVariables false
set_option linter.unusedSimpArgs false
set_option maxRecDepth 100000
namespace Go.Proofs.Ythkmnohghpdjhaa
open Go Go.Hb Go.RowKit
abbrev rB (r : Nat) (p : Option Addr) (n c : Nat) : HP := blk r 132 [.slice p n c]
abbrev rS (p : Option Addr) (c : Nat) (R : List Ref01_one) : HP := sls p c 129 10 Ref01_one.cells R
structure RF1 (F : Pl) (o : Ref01_one) : Prop where
  attrs : Sli (PH F) (.slice o.AttrsP o.Attrs.length o.AttrsC) (o.Attrs.map Api_attr.cells)
  kids : Sli (PH F) (.slice o.KidsP o.Kids.length o.KidsC) (o.Kids.map (eI .i64))
def RF (F : Pl) (R : List Ref01_one) : Prop := ∀ o ∈ R, RF1 F o
theorem RF.atR {F : Pl} {R : List Ref01_one} (h : RF F R) {i : Nat} (hi : i < R.length) : RF1 F (at_ R i) := h _ (at_mem hi)
theorem RF1.le {F G : Pl} {o : Ref01_one} (h : RF1 F o) (hl : PLe F G) : RF1 G o := ⟨h.attrs.le hl, h.kids.le hl⟩
theorem RF.le {F G : Pl} {R : List Ref01_one} (h : RF F R) (hl : PLe F G) : RF G R := fun o ho => (h o ho).le hl
theorem RF.set {F : Pl} {R : List Ref01_one} (h : RF F R) {i : Nat} {o : Ref01_one} (ho : RF1 F o) : RF F (R.set i o) := fun x hx => by
  rcases List.mem_or_eq_of_mem_set hx with hx | rfl
  · exact h x hx
  · exact ho
theorem RF.app {F : Pl} {R : List Ref01_one} (h : RF F R) {o : Ref01_one} (ho : RF1 F o) : RF F (R ++ [o]) := fun x hx => by
  rcases List.mem_append.1 hx with hx | hx
  · exact h x hx
  · rw [List.mem_singleton.1 hx]; exact ho
/-- the answer's arena -/
def rarL (r : Nat) (R : List Ref01_one) : HP := fun h => ∃ x : {x : Option Addr × Nat × Pl // RF x.2.2 R}, sep [blk r 132 [.slice x.1.1 R.length x.1.2.1], sls x.1.1 x.1.2.1 129 10 Ref01_one.cells R, pool x.1.2.2] h
theorem rarL_open {k : Ctx} {w : World} {l : List HP} {r : Nat} {R : List Ref01_one} (hO : Own k w (rarL r R :: l)) : ∃ p c F, Gs p R.length ∧ RF F R ∧ Own k w (rB r p R.length c :: rS p c R :: pool F :: l) := by
  obtain ⟨⟨⟨p, c, F⟩, hF⟩, hO⟩ := Own.ex (A := fun (x : {x : Option Addr × Nat × Pl // RF x.2.2 R}) => sep [blk r 132 [.slice x.1.1 R.length x.1.2.1], sls x.1.1 x.1.2.1 129 10 Ref01_one.cells R, pool x.1.2.2]) hO
  have hO := Own.open hO
  simp only [List.cons_append, List.nil_append] at hO
  exact ⟨p, c, F, (sls_fct (p := p) hO).2, hF, hO⟩
theorem rarL_shut {k : Ctx} {w : World} {l : List HP} {r n : Nat} {R : List Ref01_one} {p : Option Addr} {c : Nat} {F : Pl} (hF : RF F R) (hO : Own k w (rB r p n c :: rS p c R :: pool F :: l)) (hn : n = R.length := by first | rfl | simp) : Own k w (rarL r R :: l) := by
  subst hn
  exact (Own.shut (l := [blk r 132 [.slice p R.length c], sls p c 129 10 Ref01_one.cells R, pool F]) hO).tell fun h hA => ⟨⟨(p, c, F), hF⟩, hA⟩
instance (l : List HP) (r : Nat) (R : List Ref01_one) : AtK (rarL r R :: l) (.o r) (rarL r R) l := ⟨.hd _ _⟩
def hasR (R : List Ref01_one) (id : Int) : Bool := decide (0 ≤ id ∧ id < R.length)
theorem Is_spec {k : Ctx} {w : World} {r : Nat} {R : List Ref01_one} {p : Option Addr} {c : Nat} {id : Int} (hO : Own k w [rB r p R.length c, rS p c R]) :
    Tri Try.prog 49 #[.pointer (some ⟨r, 0, none⟩), .int .i64 id] k w fun v m => v = .bool (hasR R id) ∧ m = [rB r p R.length c, rS p c R] := by
  refine enter (args := [.pointer (some ⟨r, 0, none⟩), .int .i64 id]) Try.func49 rfl rfl ?_
  refine K0 (K1 ?_)
  refine l_y rfl rfl (y_assign rfl) ?_
  refine K2 (K3 (K0 (K1 ?_)))
  refine l_y rfl rfl (y_move rfl) ?_
  refine Z0 (fun h1_1 => ?_) (fun h1_1 => ?_)
  · refine l_y rfl rfl (y_move rfl) ?_
    refine l_y rfl rfl (y_move rfl) ?_
    refine l_y rfl rfl (y_move rfl) ?_
    refine l_y rfl rfl (y_nilCheck rfl rfl) ?_
    refine l_y rfl rfl (y_fldb (o' := 0) rfl) ?_
    refine l_y rfl rfl (D5 hO rfl) ?_
    refine l_y rfl rfl (y_lenL rfl) ?_
    refine Z0 (fun h1_9 => ?_) (fun h1_9 => ?_)
    · refine l_y rfl rfl (y_pick_t rfl rfl) ?_
      refine l_y rfl rfl (y_assign rfl) ?_
      refine K2 (K3 (K6 ?_))
      exact fin1 rfl rfl ⟨_, ⟨by simp [hasR, *], rfl⟩, hO⟩
    · refine l_y rfl rfl (y_pick_t rfl rfl) ?_
      refine l_y rfl rfl (y_assign rfl) ?_
      refine K2 (K3 (K6 ?_))
      exact fin1 rfl rfl ⟨_, ⟨by simp [hasR, *], rfl⟩, hO⟩
  · refine l_y rfl rfl (y_move rfl) ?_
    repeat refine M2 ?_
    refine l_y rfl rfl (y_pick_f rfl rfl) ?_
    refine l_y rfl rfl (y_assign rfl) ?_
    refine K2 (K3 (K6 ?_))
    exact fin1 rfl rfl ⟨_, ⟨by simp [hasR, *], rfl⟩, hO⟩
theorem rlong_spec {k : Ctx} {w : World} {ts : List ByteArray} {tp : Option Addr} {tc : Nat} (ht : Sli (Ro k) (.slice tp ts.length tc) (ts.map eS)) (hl : ts.length ≤ 1000000) (hO : Own k w []) :
    Tri Try.prog 76 #[.slice tp ts.length tc] k w fun v m => v = .bool (longB ts) ∧ m = [] := by
  refine enter (args := [.slice tp ts.length tc]) Try.func76 rfl rfl ?_
  have hgs := sli_gs ht
  refine K0 (K1 ?_)
  refine l_y rfl rfl (y_assign rfl) ?_
  refine K2 (K3 (K0 (K0 (K1 ?_))))
  refine l_y rfl rfl (y_assign rfl) ?_
  refine K2 (K3 (K4 ?_))
  refine c_rounds (X := Nat) (fun i => [(0, .slice tp ts.length tc), (2, .bool false), (3, .int .i64 (i : Int))]) (fun i w => Own k w [] ∧ (i ≤ ts.length ∧ longB (ts.take i) = false)) (fun i => ts.length - i) (0) ⟨rfl, rfl, rfl, trivial⟩ ⟨hO.only [], ⟨Nat.zero_le _, rfl⟩⟩ ?_
  rintro i w m hm ⟨hO, hi⟩
  refine K0 (K0 (K1 ?_))
  refine l_y rfl rfl (y_move rfl) ?_
  refine l_y rfl rfl (y_move rfl) ?_
  refine l_y rfl rfl (y_lenL rfl) ?_
  refine Z0 (fun h2_3 => ?_) (fun h2_3 => ?_)
  · refine K2 (K3 (L8 (K5 (K3 (K0 (K4 (K0 (K1 ?_))))))))
    refine l_y rfl rfl (y_move rfl) ?_
    refine l_y rfl rfl (y_move rfl) ?_
    refine l_y rfl rfl (y_idx rfl rfl) ?_
    refine l_y rfl rfl (y_r1 (x0 := 0) (enc := eS) (xs := ts) hO rfl) ?_
    refine l_y rfl rfl (y_lenS rfl) ?_
    refine Z0 (fun h4_5 => ?_) (fun h4_5 => ?_)
    · refine K2 (K3 (L8 (K0 (K1 ?_))))
      refine l_y rfl rfl (y_assign rfl) ?_
      refine K2 (K3 (K6 (L0 (K9 (K9 (L0 (K9 ?_)))))))
      have hlt : longB ts = true := List.any_eq_true.2 ⟨at_ ts i, at_mem (by omega), decide_eq_true (by have h45 : (1048576 : Int) < ((at_ ts i).size : Int) := h4_5; omega)⟩
      exact fin1 rfl rfl ⟨_, ⟨by rw [hlt], rfl⟩, hO⟩
    · refine K2 (K3 (L9 (K5 (K8 (K3 (K1 ?_))))))
      refine l_y rfl rfl (y_move rfl) ?_
      refine l_y rfl rfl (D4) ?_
      refine l_y rfl rfl (y_assign rfl) ?_
      refine K2 ?_
      exact q_next (i + 1) ⟨rfl, rfl, rfl, trivial⟩ ⟨hO.only [], ⟨by omega, by rw [take_succ_at (by omega)]; simp only [longB, List.any_append, List.any_cons, List.any_nil, Bool.or_false, Bool.or_eq_false_iff]; exact ⟨hi.2, decide_eq_false (by have h45 : ¬ (1048576 : Int) < ((at_ ts i).size : Int) := h4_5; omega)⟩⟩⟩ (by omega)
  · refine K2 (K3 (L9 (K7 (L1 (L1 (L2 (K3 (K0 (K1 ?_)))))))))
    refine l_y rfl rfl (y_assign rfl) ?_
    refine K2 (K3 (K6 ?_))
    have hlf : longB ts = false := by rw [show ts = ts.take i by rw [List.take_of_length_le (by omega)]]; exact hi.2
    exact fin1 rfl rfl ⟨_, ⟨by rw [hlf], rfl⟩, hO⟩
def blankR (o : Ref01_one) : Ref01_one := { o with Inner := -1, Host := -1, Up := -1 }
set_option maxHeartbeats 1000000 in
theorem radd_spec {k : Ctx} {w : World} {r : Nat} {R : List Ref01_one} {p : Option Addr} {c : Nat} {o : Ref01_one} (hc : R.length ≤ 32768) (hO : Own k w [rB r p R.length c, rS p c R]) :
    Tri Try.prog 77 #[.pointer (some ⟨r, 0, none⟩), .agg (Ref01_one.cells o).toArray] k w fun v m =>
      (32768 ≤ R.length ∧ v = .tuple #[.int .i64 0, .int .i64 9] ∧ m = [rB r p R.length c, rS p c R]) ∨ (R.length < 32768 ∧ v = .tuple #[.int .i64 (R.length : Int), .int .i64 0] ∧ ∃ p' c', m = [rB r p' (R ++ [blankR o]).length c', rS p' c' (R ++ [blankR o])]) := by
  refine enter (args := [.pointer (some ⟨r, 0, none⟩), .agg (Ref01_one.cells o).toArray]) Try.func77 rfl rfl ?_
  have hg := (sls_fct (p := p) hO).2
  refine K0 (K1 ?_)
  refine s_box (vs := [.int .i64 o.Kind, .int .i64 o.Space, .string o.Name, .slice o.AttrsP o.Attrs.length o.AttrsC, .string o.Data, .string o.System, .int .i64 o.Inner, .int .i64 o.Host, .int .i64 o.Up, .slice o.KidsP o.Kids.length o.KidsC]) hO rfl rfl rfl (by rfl) fun b3 w hO => ?_
  refine l_y rfl rfl (y_assign rfl) ?_
  refine l_y rfl rfl (y_assign rfl) ?_
  refine K2 (K3 (K0 (K0 (K1 ?_))))
  refine l_y rfl rfl (y_move rfl) ?_
  refine l_y rfl rfl (y_nilCheck rfl rfl) ?_
  refine l_y rfl rfl (y_fldb (o' := 0) rfl) ?_
  refine l_y rfl rfl (D5 hO rfl) ?_
  refine l_y rfl rfl (y_lenL rfl) ?_
  refine Z0 (fun h1_5 => ?_) (fun h1_5 => ?_)
  · refine K2 (K3 (L8 (K0 (K1 ?_))))
    refine l_y rfl rfl (y_assign rfl) ?_
    refine l_y rfl rfl (y_assign rfl) ?_
    refine K2 (K3 (K6 (K9 ?_)))
    exact fin2 rfl rfl rfl ⟨_, .inl ⟨by omega, rfl, rfl⟩, hO.only [.b r, .p p]⟩
  · refine K2 (K3 (L9 (K5 (K3 (K0 (K1 ?_))))))
    refine l_y rfl rfl (y_fldb (o' := 6) rfl) ?_
    refine Y1 hO rfl rfl (fun w hO => ?_)
    simp only [List.set_cons_zero, List.set_cons_succ] at hO
    refine K2 (K3 (K0 (K1 ?_)))
    refine l_y rfl rfl (y_fldb (o' := 7) rfl) ?_
    refine Y1 hO rfl rfl (fun w hO => ?_)
    simp only [List.set_cons_zero, List.set_cons_succ] at hO
    refine K2 (K3 (K0 (K1 ?_)))
    refine l_y rfl rfl (y_fldb (o' := 8) rfl) ?_
    refine Y1 hO rfl rfl (fun w hO => ?_)
    simp only [List.set_cons_zero, List.set_cons_succ] at hO
    refine K2 (K3 (K0 ?_))
    refine da_region (by intro c a d v w h; cases d <;> exact h) ?_
    have hO := hO.drew
    refine da_phase _ [7] (SO.ks [.b r, .b b3] hO) ?_
    refine dx_u 0 (by kernel_rfl) rfl rfl rfl (fun w => y_move rfl) ?_
    refine dx_u 1 (by kernel_rfl) rfl rfl rfl (fun w => y_move rfl) ?_
    refine dx_u 2 (by kernel_rfl) rfl rfl rfl (fun w => y_nilCheck rfl rfl) ?_
    refine dx_u 3 (by kernel_rfl) rfl rfl rfl (fun w => y_fldb (o' := 0) rfl) ?_
    refine dx_y 4 (by kernel_rfl) rfl rfl rfl (fun w ⟨m, hw⟩ => D5 hw rfl) ?_
    refine dx_y 5 (by kernel_rfl) rfl rfl rfl (fun w ⟨m, hw⟩ => D8 (cs := [.int .i64 o.Kind, .int .i64 o.Space, .string o.Name, .slice o.AttrsP o.Attrs.length o.AttrsC, .string o.Data, .string o.System, .int .i64 (-1), .int .i64 (-1), .int .i64 (-1), .slice o.KidsP o.Kids.length o.KidsC]) hw rfl) ?_
    refine dx_only 6 (by kernel_rfl) rfl rfl ?_
    refine s_lit (parts := [(0, .tmp 20)]) (enc := Ref01_one.cells) [⟨o.Kind, o.Space, o.Name, o.AttrsP, o.Attrs, o.AttrsC, o.Data, o.System, (-1), (-1), (-1), o.KidsP, o.Kids, o.KidsC⟩] [.agg [.int .i64 o.Kind, .int .i64 o.Space, .string o.Name, .slice o.AttrsP o.Attrs.length o.AttrsC, .string o.Data, .string o.System, .int .i64 (-1), .int .i64 (-1), .int .i64 (-1), .slice o.KidsP o.Kids.length o.KidsC].toArray] hO rfl (fun b21 w hO => ?_)
    refine o_done ?_
    refine ⟨SO.ks [.b r, .b b3] hO, ?_⟩
    refine dx_close 7 (by kernel_rfl) rfl rfl ?_
    refine s_app hO rfl rfl (src_own hO) (fun p22 c22 w hO gs22 => ?_)
    refine o_done ?_
    refine da_phase _ [10] (SO.ks [] hO) ?_
    refine dx_u 8 (by kernel_rfl) rfl rfl rfl (fun w => y_nilCheck rfl rfl) ?_
    refine dx_u 9 (by kernel_rfl) rfl rfl rfl (fun w => y_fldb (o' := 0) rfl) ?_
    refine dx_close 10 (by kernel_rfl) rfl rfl ?_
    refine Y1 hO rfl rfl (fun w hO => ?_)
    simp only [List.set_cons_zero, List.set_cons_succ] at hO
    refine o_done ?_
    refine da_end (by kernel_rfl) ?_
    refine K3 (K0 (K1 ?_))
    refine l_y rfl rfl (y_move rfl) ?_
    refine l_y rfl rfl (y_nilCheck rfl rfl) ?_
    refine l_y rfl rfl (y_fldb (o' := 0) rfl) ?_
    refine l_y rfl rfl (D5 hO rfl) ?_
    refine l_y rfl rfl (y_lenL rfl) ?_
    refine l_y rfl rfl (D4 (h1 := by simp <;> omega) (h2 := by simp <;> omega)) ?_
    refine l_y rfl rfl (y_assign rfl) ?_
    refine l_y rfl rfl (y_assign rfl) ?_
    refine K2 (K3 (K6 ?_))
    refine fin2 rfl rfl rfl ⟨_, .inr ⟨by omega, ?_, p22, c22, rfl⟩, hO.only [.b r, .p p22]⟩
    simp
end Go.Proofs.Ythkmnohghpdjhaa
end
section
set_option linter.unusedVariables false
set_option linter.unusedSimpArgs false
set_option maxRecDepth 100000
namespace Go.Proofs.Ythkmnohghpdjhaa
open Go Go.Hb Go.RowKit
def raddR (R : List Ref01_one) (o : Ref01_one) (ts : List ByteArray) : Int × Int × List Ref01_one := if longB ts = true then (0, 2, R) else if 32768 ≤ R.length then (0, 9, R) else (R.length, 0, R ++ [blankR o])
def textR (s : ByteArray) : Ref01_one := ⟨2, 0, ⟨#[]⟩, none, [], 0, s, ⟨#[]⟩, 0, 0, 0, none, [], 0⟩
def commentR (s : ByteArray) : Ref01_one := ⟨3, 0, ⟨#[]⟩, none, [], 0, s, ⟨#[]⟩, 0, 0, 0, none, [], 0⟩
def doctypeR (n p s : ByteArray) : Ref01_one := ⟨4, 0, n, none, [], 0, p, s, 0, 0, 0, none, [], 0⟩
def fragmentR : Ref01_one := ⟨5, 0, ⟨#[]⟩, none, [], 0, ⟨#[]⟩, ⟨#[]⟩, 0, 0, 0, none, [], 0⟩
def docR : Ref01_one := ⟨0, 0, ⟨#[]⟩, none, [], 0, ⟨#[]⟩, ⟨#[]⟩, -1, -1, -1, none, [], 0⟩
theorem rf_nil {F : Pl} {o : Ref01_one} (h1 : o.Attrs = []) (h2 : o.Kids = []) : RF1 F o := ⟨by rw [h1]; exact Sli.nil rfl, by rw [h2]; exact Sli.nil rfl⟩
theorem RF1.blank {F : Pl} {o : Ref01_one} (h : RF1 F o) : RF1 F (blankR o) := ⟨h.attrs, h.kids⟩
theorem rText_spec {k : Ctx} {w : World} {r : Nat} {R : List Ref01_one} {s : ByteArray} (hc : R.length ≤ 32768) (hO : Own k w [rarL r R]) :
    Tri Try.prog 42 #[.pointer (some ⟨r, 0, none⟩), .string s] k w fun v m => v = .tuple #[.int .i64 (raddR R (textR s) [s]).1, .int .i64 (raddR R (textR s) [s]).2.1] ∧ m = [rarL r (raddR R (textR s) [s]).2.2] := by
  refine enter (args := [.pointer (some ⟨r, 0, none⟩), .string s]) Try.func42 rfl rfl ?_
  obtain ⟨p, c, F, hg, hF, hO⟩ := rarL_open hO
  refine K0 (K1 ?_)
  refine l_y rfl rfl (y_assign rfl) ?_
  refine l_y rfl rfl (y_assign rfl) ?_
  refine K2 (K3 (K0 (K0 (K1 ?_))))
  refine l_y rfl rfl (y_move rfl) ?_
  refine s_lit (parts := [(0, .tmp 6)]) (enc := eS) [s] [.string s] hO rfl (fun b7 w hO => ?_)
  refine CK [] hO rfl (fun k' hx hr hO' => rlong_spec (ts := [s]) (sls_roK (p := some ⟨b7, 0, none⟩) hr (sls_fct hO)) (by simp) (hO := hO')) ?_
  rintro _ _ w ⟨rfl, rfl⟩ hO
  simp only [List.nil_append] at hO
  refine K2 (K3 ?_)
  refine c_split rfl (fun hc8 => ?_) (fun hc8 => ?_)
  · refine K0 (K1 ?_)
    refine l_y rfl rfl (y_assign rfl) ?_
    refine l_y rfl rfl (y_assign rfl) ?_
    refine K2 (K3 (K6 (K9 ?_)))
    have e : raddR R (textR s) [s] = (0, 2, R) := by rw [raddR, if_pos hc8]
    exact fin2 rfl rfl rfl ⟨_, ⟨by rw [e], rfl⟩, by rw [e]; exact (rarL_shut hF (hO.ks [.b r, .p p, .f])).one⟩
  · refine K5 (K3 (K0 (K1 ?_)))
    refine l_y rfl rfl (y_move rfl) ?_
    refine l_y rfl rfl (y_move rfl) ?_
    refine s_build (parts := [(0, .const (.int .i64 2)), (4, .tmp 10)]) (cs := [.int .i64 2, .int .i64 0, .string ⟨#[]⟩, .slice none 0 0, .string s, .string ⟨#[]⟩, .int .i64 0, .int .i64 0, .int .i64 0, .slice none 0 0]) rfl rfl (fun a ha => partsOf_sound ha _ _ rfl) (by kernel_rfl) ?_
    refine CK [.b r, .p p] hO rfl (fun k' hx hr hO' => radd_spec (o := (⟨2, 0, ⟨#[]⟩, none, [], 0, s, ⟨#[]⟩, 0, 0, 0, none, [], 0⟩ : Ref01_one)) hc (hO := hO')) ?_
    rintro _ _ w (⟨h9, rfl, rfl⟩ | ⟨h9, rfl, p2, c2, rfl⟩) hO
    · simp only [List.cons_append, List.nil_append] at hO
      refine l_y rfl rfl (y_extract rfl rfl) ?_
      refine l_y rfl rfl (y_extract rfl rfl) ?_
      refine l_y rfl rfl (y_assign rfl) ?_
      refine l_y rfl rfl (y_assign rfl) ?_
      refine K2 (K3 (K6 ?_))
      have e : raddR R (textR s) [s] = (0, 9, R) := by rw [raddR, if_neg (by rw [hc8]; simp), if_pos h9]
      exact fin2 rfl rfl rfl ⟨_, ⟨by rw [e], rfl⟩, by rw [e]; exact (rarL_shut hF (hO.ks [.b r, .p p, .f])).one⟩
    · simp only [List.cons_append, List.nil_append] at hO
      refine l_y rfl rfl (y_extract rfl rfl) ?_
      refine l_y rfl rfl (y_extract rfl rfl) ?_
      refine l_y rfl rfl (y_assign rfl) ?_
      refine l_y rfl rfl (y_assign rfl) ?_
      refine K2 (K3 (K6 ?_))
      have e : raddR R (textR s) [s] = ((R.length : Int), 0, R ++ [blankR (textR s)]) := by rw [raddR, if_neg (by rw [hc8]; simp), if_neg (by omega)]
      exact fin2 rfl rfl rfl ⟨_, ⟨by rw [e], rfl⟩, by rw [e]; exact (rarL_shut (hF.app (rf_nil rfl rfl).blank) (hO.ks [.b r, .p p2, .f])).one⟩
theorem rComment_spec {k : Ctx} {w : World} {r : Nat} {R : List Ref01_one} {s : ByteArray} (hc : R.length ≤ 32768) (hO : Own k w [rarL r R]) :
    Tri Try.prog 44 #[.pointer (some ⟨r, 0, none⟩), .string s] k w fun v m => v = .tuple #[.int .i64 (raddR R (commentR s) [s]).1, .int .i64 (raddR R (commentR s) [s]).2.1] ∧ m = [rarL r (raddR R (commentR s) [s]).2.2] := by
  refine enter (args := [.pointer (some ⟨r, 0, none⟩), .string s]) Try.func44 rfl rfl ?_
  obtain ⟨p, c, F, hg, hF, hO⟩ := rarL_open hO
  refine K0 (K1 ?_)
  refine l_y rfl rfl (y_assign rfl) ?_
  refine l_y rfl rfl (y_assign rfl) ?_
  refine K2 (K3 (K0 (K0 (K1 ?_))))
  refine l_y rfl rfl (y_move rfl) ?_
  refine s_lit (parts := [(0, .tmp 6)]) (enc := eS) [s] [.string s] hO rfl (fun b7 w hO => ?_)
  refine CK [] hO rfl (fun k' hx hr hO' => rlong_spec (ts := [s]) (sls_roK (p := some ⟨b7, 0, none⟩) hr (sls_fct hO)) (by simp) (hO := hO')) ?_
  rintro _ _ w ⟨rfl, rfl⟩ hO
  simp only [List.nil_append] at hO
  refine K2 (K3 ?_)
  refine c_split rfl (fun hc8 => ?_) (fun hc8 => ?_)
  · refine K0 (K1 ?_)
    refine l_y rfl rfl (y_assign rfl) ?_
    refine l_y rfl rfl (y_assign rfl) ?_
    refine K2 (K3 (K6 (K9 ?_)))
    have e : raddR R (commentR s) [s] = (0, 2, R) := by rw [raddR, if_pos hc8]
    exact fin2 rfl rfl rfl ⟨_, ⟨by rw [e], rfl⟩, by rw [e]; exact (rarL_shut hF (hO.ks [.b r, .p p, .f])).one⟩
  · refine K5 (K3 (K0 (K1 ?_)))
    refine l_y rfl rfl (y_move rfl) ?_
    refine l_y rfl rfl (y_move rfl) ?_
    refine s_build (parts := [(0, .const (.int .i64 3)), (4, .tmp 10)]) (cs := [.int .i64 3, .int .i64 0, .string ⟨#[]⟩, .slice none 0 0, .string s, .string ⟨#[]⟩, .int .i64 0, .int .i64 0, .int .i64 0, .slice none 0 0]) rfl rfl (fun a ha => partsOf_sound ha _ _ rfl) (by kernel_rfl) ?_
    refine CK [.b r, .p p] hO rfl (fun k' hx hr hO' => radd_spec (o := (⟨3, 0, ⟨#[]⟩, none, [], 0, s, ⟨#[]⟩, 0, 0, 0, none, [], 0⟩ : Ref01_one)) hc (hO := hO')) ?_
    rintro _ _ w (⟨h9, rfl, rfl⟩ | ⟨h9, rfl, p2, c2, rfl⟩) hO
    · simp only [List.cons_append, List.nil_append] at hO
      refine l_y rfl rfl (y_extract rfl rfl) ?_
      refine l_y rfl rfl (y_extract rfl rfl) ?_
      refine l_y rfl rfl (y_assign rfl) ?_
      refine l_y rfl rfl (y_assign rfl) ?_
      refine K2 (K3 (K6 ?_))
      have e : raddR R (commentR s) [s] = (0, 9, R) := by rw [raddR, if_neg (by rw [hc8]; simp), if_pos h9]
      exact fin2 rfl rfl rfl ⟨_, ⟨by rw [e], rfl⟩, by rw [e]; exact (rarL_shut hF (hO.ks [.b r, .p p, .f])).one⟩
    · simp only [List.cons_append, List.nil_append] at hO
      refine l_y rfl rfl (y_extract rfl rfl) ?_
      refine l_y rfl rfl (y_extract rfl rfl) ?_
      refine l_y rfl rfl (y_assign rfl) ?_
      refine l_y rfl rfl (y_assign rfl) ?_
      refine K2 (K3 (K6 ?_))
      have e : raddR R (commentR s) [s] = ((R.length : Int), 0, R ++ [blankR (commentR s)]) := by rw [raddR, if_neg (by rw [hc8]; simp), if_neg (by omega)]
      exact fin2 rfl rfl rfl ⟨_, ⟨by rw [e], rfl⟩, by rw [e]; exact (rarL_shut (hF.app (rf_nil rfl rfl).blank) (hO.ks [.b r, .p p2, .f])).one⟩
theorem rDoctype_spec {k : Ctx} {w : World} {r : Nat} {R : List Ref01_one} {s1 s2 s3 : ByteArray} (hc : R.length ≤ 32768) (hO : Own k w [rarL r R]) :
    Tri Try.prog 46 #[.pointer (some ⟨r, 0, none⟩), .string s1, .string s2, .string s3] k w fun v m => v = .tuple #[.int .i64 (raddR R (doctypeR s1 s2 s3) [s1, s2, s3]).1, .int .i64 (raddR R (doctypeR s1 s2 s3) [s1, s2, s3]).2.1] ∧ m = [rarL r (raddR R (doctypeR s1 s2 s3) [s1, s2, s3]).2.2] := by
  refine enter (args := [.pointer (some ⟨r, 0, none⟩), .string s1, .string s2, .string s3]) Try.func46 rfl rfl ?_
  obtain ⟨p, c, F, hg, hF, hO⟩ := rarL_open hO
  refine K0 (K1 ?_)
  refine l_y rfl rfl (y_assign rfl) ?_
  refine l_y rfl rfl (y_assign rfl) ?_
  refine K2 (K3 (K0 (K0 (K1 ?_))))
  refine l_y rfl rfl (y_move rfl) ?_
  refine l_y rfl rfl (y_move rfl) ?_
  refine l_y rfl rfl (y_move rfl) ?_
  refine s_lit (parts := [(0, .tmp 10), (1, .tmp 11), (2, .tmp 12)]) (enc := eS) [s1, s2, s3] [.string s1, .string s2, .string s3] hO rfl (fun b13 w hO => ?_)
  refine CK [] hO rfl (fun k' hx hr hO' => rlong_spec (ts := [s1, s2, s3]) (sls_roK (p := some ⟨b13, 0, none⟩) hr (sls_fct hO)) (by simp) (hO := hO')) ?_
  rintro _ _ w ⟨rfl, rfl⟩ hO
  simp only [List.nil_append] at hO
  refine K2 (K3 ?_)
  refine c_split rfl (fun hc14 => ?_) (fun hc14 => ?_)
  · refine K0 (K1 ?_)
    refine l_y rfl rfl (y_assign rfl) ?_
    refine l_y rfl rfl (y_assign rfl) ?_
    refine K2 (K3 (K6 (K9 ?_)))
    have e : raddR R (doctypeR s1 s2 s3) [s1, s2, s3] = (0, 2, R) := by rw [raddR, if_pos hc14]
    exact fin2 rfl rfl rfl ⟨_, ⟨by rw [e], rfl⟩, by rw [e]; exact (rarL_shut hF (hO.ks [.b r, .p p, .f])).one⟩
  · refine K5 (K3 (K0 (K1 ?_)))
    refine l_y rfl rfl (y_move rfl) ?_
    refine l_y rfl rfl (y_move rfl) ?_
    refine l_y rfl rfl (y_move rfl) ?_
    refine l_y rfl rfl (y_move rfl) ?_
    refine s_build (parts := [(0, .const (.int .i64 4)), (2, .tmp 16), (4, .tmp 17), (5, .tmp 18)]) (cs := [.int .i64 4, .int .i64 0, .string s1, .slice none 0 0, .string s2, .string s3, .int .i64 0, .int .i64 0, .int .i64 0, .slice none 0 0]) rfl rfl (fun a ha => partsOf_sound ha _ _ rfl) (by kernel_rfl) ?_
    refine CK [.b r, .p p] hO rfl (fun k' hx hr hO' => radd_spec (o := (⟨4, 0, s1, none, [], 0, s2, s3, 0, 0, 0, none, [], 0⟩ : Ref01_one)) hc (hO := hO')) ?_
    rintro _ _ w (⟨h9, rfl, rfl⟩ | ⟨h9, rfl, p2, c2, rfl⟩) hO
    · simp only [List.cons_append, List.nil_append] at hO
      refine l_y rfl rfl (y_extract rfl rfl) ?_
      refine l_y rfl rfl (y_extract rfl rfl) ?_
      refine l_y rfl rfl (y_assign rfl) ?_
      refine l_y rfl rfl (y_assign rfl) ?_
      refine K2 (K3 (K6 ?_))
      have e : raddR R (doctypeR s1 s2 s3) [s1, s2, s3] = (0, 9, R) := by rw [raddR, if_neg (by rw [hc14]; simp), if_pos h9]
      exact fin2 rfl rfl rfl ⟨_, ⟨by rw [e], rfl⟩, by rw [e]; exact (rarL_shut hF (hO.ks [.b r, .p p, .f])).one⟩
    · simp only [List.cons_append, List.nil_append] at hO
      refine l_y rfl rfl (y_extract rfl rfl) ?_
      refine l_y rfl rfl (y_extract rfl rfl) ?_
      refine l_y rfl rfl (y_assign rfl) ?_
      refine l_y rfl rfl (y_assign rfl) ?_
      refine K2 (K3 (K6 ?_))
      have e : raddR R (doctypeR s1 s2 s3) [s1, s2, s3] = ((R.length : Int), 0, R ++ [blankR (doctypeR s1 s2 s3)]) := by rw [raddR, if_neg (by rw [hc14]; simp), if_neg (by omega)]
      exact fin2 rfl rfl rfl ⟨_, ⟨by rw [e], rfl⟩, by rw [e]; exact (rarL_shut (hF.app (rf_nil rfl rfl).blank) (hO.ks [.b r, .p p2, .f])).one⟩
theorem rFragment_spec {k : Ctx} {w : World} {r : Nat} {R : List Ref01_one} (hc : R.length ≤ 32768) (hO : Own k w [rarL r R]) :
    Tri Try.prog 47 #[.pointer (some ⟨r, 0, none⟩)] k w fun v m => v = .tuple #[.int .i64 (raddR R fragmentR []).1, .int .i64 (raddR R fragmentR []).2.1] ∧ m = [rarL r (raddR R fragmentR []).2.2] := by
  refine enter (args := [.pointer (some ⟨r, 0, none⟩)]) Try.func47 rfl rfl ?_
  obtain ⟨p, c, F, hg, hF, hO⟩ := rarL_open hO
  have hc8 : longB [] = false := rfl
  refine K0 (K1 ?_)
  refine l_y rfl rfl (y_assign rfl) ?_
  refine l_y rfl rfl (y_assign rfl) ?_
  refine K2 (K3 (K0 (K1 ?_)))
  refine l_y rfl rfl (y_move rfl) ?_
  refine s_build (parts := [(0, .const (.int .i64 5))]) (cs := [.int .i64 5, .int .i64 0, .string ⟨#[]⟩, .slice none 0 0, .string ⟨#[]⟩, .string ⟨#[]⟩, .int .i64 0, .int .i64 0, .int .i64 0, .slice none 0 0]) rfl rfl (fun a ha => partsOf_sound ha _ _ rfl) (by kernel_rfl) ?_
  refine CK [.b r, .p p] hO rfl (fun k' hx hr hO' => radd_spec (o := (⟨5, 0, ⟨#[]⟩, none, [], 0, ⟨#[]⟩, ⟨#[]⟩, 0, 0, 0, none, [], 0⟩ : Ref01_one)) hc (hO := hO')) ?_
  rintro _ _ w (⟨h9, rfl, rfl⟩ | ⟨h9, rfl, p2, c2, rfl⟩) hO
  · simp only [List.cons_append, List.nil_append] at hO
    refine l_y rfl rfl (y_extract rfl rfl) ?_
    refine l_y rfl rfl (y_extract rfl rfl) ?_
    refine l_y rfl rfl (y_assign rfl) ?_
    refine l_y rfl rfl (y_assign rfl) ?_
    refine K2 (K3 (K6 ?_))
    have e : raddR R (fragmentR) [] = (0, 9, R) := by rw [raddR, if_neg (by rw [hc8]; simp), if_pos h9]
    exact fin2 rfl rfl rfl ⟨_, ⟨by rw [e], rfl⟩, by rw [e]; exact (rarL_shut hF (hO.ks [.b r, .p p, .f])).one⟩
  · simp only [List.cons_append, List.nil_append] at hO
    refine l_y rfl rfl (y_extract rfl rfl) ?_
    refine l_y rfl rfl (y_extract rfl rfl) ?_
    refine l_y rfl rfl (y_assign rfl) ?_
    refine l_y rfl rfl (y_assign rfl) ?_
    refine K2 (K3 (K6 ?_))
    have e : raddR R (fragmentR) [] = ((R.length : Int), 0, R ++ [blankR (fragmentR)]) := by rw [raddR, if_neg (by rw [hc8]; simp), if_neg (by omega)]
    exact fin2 rfl rfl rfl ⟨_, ⟨by rw [e], rfl⟩, by rw [e]; exact (rarL_shut (hF.app (rf_nil rfl rfl).blank) (hO.ks [.b r, .p p2, .f])).one⟩
theorem rNew_spec {k : Ctx} {w : World} (hO : Own k w []) : Tri Try.prog 40 #[] k w fun v m => ∃ r, v = .pointer (some ⟨r, 0, none⟩) ∧ m = [rarL r [docR]] := by
  refine enter (args := []) Try.func40 rfl rfl ?_
  have hO := hO.pool0
  refine K0 (K1 ?_)
  refine l_y rfl rfl (y_assign rfl) ?_
  refine K2 (K3 (K0 (K1 ?_)))
  refine s_build (parts := [(0, .const (.int .i64 0)), (6, .const (.int .i64 (-1))), (7, .const (.int .i64 (-1))), (8, .const (.int .i64 (-1)))]) (cs := [.int .i64 0, .int .i64 0, .string ⟨#[]⟩, .slice none 0 0, .string ⟨#[]⟩, .string ⟨#[]⟩, .int .i64 (-1), .int .i64 (-1), .int .i64 (-1), .slice none 0 0]) rfl rfl (fun a ha => partsOf_sound ha _ _ rfl) (by kernel_rfl) ?_
  refine s_lit (parts := [(0, .tmp 1)]) (enc := Ref01_one.cells) [⟨0, 0, ⟨#[]⟩, none, [], 0, ⟨#[]⟩, ⟨#[]⟩, (-1), (-1), (-1), none, [], 0⟩] [.agg [.int .i64 0, .int .i64 0, .string ⟨#[]⟩, .slice none 0 0, .string ⟨#[]⟩, .string ⟨#[]⟩, .int .i64 (-1), .int .i64 (-1), .int .i64 (-1), .slice none 0 0].toArray] hO rfl (fun b2 w hO => ?_)
  refine s_build (parts := [(0, .tmp 2)]) (cs := [.slice (some ⟨b2, 0, none⟩) 1 1]) rfl rfl (fun a ha => partsOf_sound ha _ _ rfl) (by kernel_rfl) ?_
  refine s_box (vs := [.slice (some ⟨b2, 0, none⟩) 1 1]) hO rfl rfl rfl (by rfl) fun b4 w hO => ?_
  refine l_y rfl rfl (y_assign rfl) ?_
  refine K2 (K3 (K6 ?_))
  exact fin1 rfl rfl ⟨_, ⟨_, rfl, rfl⟩, (rarL_shut (fun o ho => by rw [List.mem_singleton.1 ho]; exact rf_nil rfl rfl) (hO.ks [.b b4, .p (some ⟨b2, 0, none⟩), .f])).one⟩
end Go.Proofs.Ythkmnohghpdjhaa
end
section
set_option linter.unusedVariables false
set_option linter.unusedSimpArgs false
set_option maxRecDepth 100000
namespace Go.Proofs.Ythkmnohghpdjhaa
open Go Go.Hb Go.RowKit
def elR (q : Option Addr) (d : Nat) (sp : Int) (nm : ByteArray) (xs : List Api_attr) : Ref01_one := ⟨1, sp, nm, q, xs, d, ⟨#[]⟩, ⟨#[]⟩, 0, 0, 0, none, [], 0⟩
def setInnerR (R : List Ref01_one) (i v : Int) : List Ref01_one := R.set i.toNat { at_ R i.toNat with Inner := v }
def setHostR (R : List Ref01_one) (i v : Int) : List Ref01_one := R.set i.toNat { at_ R i.toNat with Host := v }
theorem RF.inner {F : Pl} {R : List Ref01_one} (h : RF F R) {i v : Int} (hi : i.toNat < R.length) : RF F (setInnerR R i v) := h.set ⟨(h.atR hi).attrs, (h.atR hi).kids⟩
theorem RF.host {F : Pl} {R : List Ref01_one} (h : RF F R) {i v : Int} (hi : i.toNat < R.length) : RF F (setHostR R i v) := h.set ⟨(h.atR hi).attrs, (h.atR hi).kids⟩
def elementR (R : List Ref01_one) (sp : Int) (nm : ByteArray) (xs : List Api_attr) (q : Option Addr) (d : Nat) : Int × Int × List Ref01_one :=
  if sp < 0 ∨ 2 < sp then (0, 1, R) else if 1024 < xs.length then (0, 2, R)
  else if longB (nm :: attrTexts xs) = true then (0, 2, R) else if tmpl sp nm ∧ 32767 ≤ R.length then (0, 9, R) else if 32768 ≤ R.length then (0, 9, R)
  else if tmpl sp nm then (R.length, 0, setHostR (setInnerR (R ++ [blankR (elR q d sp nm xs)] ++ [blankR fragmentR]) R.length (R ++ [blankR (elR q d sp nm xs)]).length) (R ++ [blankR (elR q d sp nm xs)]).length R.length)
  else (R.length, 0, R ++ [blankR (elR q d sp nm xs)])
theorem rFragOk_spec {k : Ctx} {w : World} {r : Nat} {R : List Ref01_one} (hc : R.length < 32768) (hO : Own k w [rarL r R]) :
    Tri Try.prog 47 #[.pointer (some ⟨r, 0, none⟩)] k w fun v m => v = .tuple #[.int .i64 ((R.length : Nat) : Int), .int .i64 0] ∧ m = [rarL r (R ++ [blankR fragmentR])] := by
  refine (rFragment_spec (by omega) hO).mono ?_
  rintro v m ⟨rfl, rfl⟩
  have e : raddR R fragmentR [] = ((R.length : Int), 0, R ++ [blankR fragmentR]) := by rw [raddR, if_neg (by simp [longB]), if_neg (by omega)]
  rw [e]; exact ⟨rfl, rfl⟩
set_option maxHeartbeats 4000000 in
theorem rElement_spec {k : Ctx} {w : World} {r : Nat} {R : List Ref01_one} {sp : Int} {nm : ByteArray} {xs : List Api_attr} {ap : Option Addr} {ac : Nat} (hc : R.length ≤ 32768) (hs : Sli (Ro k) (.slice ap xs.length ac) (xs.map Api_attr.cells)) (hO : Own k w [rarL r R]) :
    Tri Try.prog 41 #[.pointer (some ⟨r, 0, none⟩), .int .i64 sp, .string nm, .slice ap xs.length ac] k w fun v m => ∃ q d, v = .tuple #[.int .i64 (elementR R sp nm xs q d).1, .int .i64 (elementR R sp nm xs q d).2.1] ∧ m = [rarL r (elementR R sp nm xs q d).2.2] := by
  refine enter (args := [.pointer (some ⟨r, 0, none⟩), .int .i64 sp, .string nm, .slice ap xs.length ac]) Try.func41 rfl rfl ?_
  have hgs := sli_gs hs
  obtain ⟨p, c, F, hg, hF, hO⟩ := rarL_open hO
  refine K0 (K1 ?_)
  refine l_y rfl rfl (y_assign rfl) ?_
  refine l_y rfl rfl (y_assign rfl) ?_
  refine K2 (K3 (K0 (K0 (K1 ?_))))
  refine l_y rfl rfl (y_move rfl) ?_
  refine Z0 (fun h1_1 => ?_) (fun h1_1 => ?_)
  · refine l_y rfl rfl (y_move rfl) ?_
    repeat refine M2 ?_
    refine l_y rfl rfl (y_pick_t rfl rfl) ?_
    refine K2 (K3 (L8 (K0 (K1 ?_))))
    refine l_y rfl rfl (y_assign rfl) ?_
    refine l_y rfl rfl (y_assign rfl) ?_
    refine K2 (K3 (K6 (K9 ?_)))
    have e : elementR R sp nm xs none 0 = (0, 1, R) := by rw [elementR, if_pos (by omega)]
    exact fin2 rfl rfl rfl ⟨_, ⟨none, 0, by rw [e], rfl⟩, by rw [e]; exact (rarL_shut hF hO).one⟩
  · refine l_y rfl rfl (y_move rfl) ?_
    refine l_y rfl rfl (y_move rfl) ?_
    refine Z0 (fun h1_4 => ?_) (fun h1_4 => ?_)
    · refine l_y rfl rfl (y_pick_f rfl rfl) ?_
      refine K2 (K3 (L8 (K0 (K1 ?_))))
      refine l_y rfl rfl (y_assign rfl) ?_
      refine l_y rfl rfl (y_assign rfl) ?_
      refine K2 (K3 (K6 (K9 ?_)))
      have e : elementR R sp nm xs none 0 = (0, 1, R) := by rw [elementR, if_pos (by omega)]
      exact fin2 rfl rfl rfl ⟨_, ⟨none, 0, by rw [e], rfl⟩, by rw [e]; exact (rarL_shut hF hO).one⟩
    · refine l_y rfl rfl (y_pick_f rfl rfl) ?_
      refine K2 (K3 (L9 (K5 (K3 (K0 (K0 (K1 ?_)))))))
      refine l_y rfl rfl (y_move rfl) ?_
      refine l_y rfl rfl (y_lenL rfl) ?_
      refine Z0 (fun h3_2 => ?_) (fun h3_2 => ?_)
      · refine l_y rfl rfl (y_move rfl) ?_
        repeat refine M2 ?_
        refine l_y rfl rfl (y_pick_t rfl rfl) ?_
        refine K2 (K3 (L8 (K0 (K1 ?_))))
        refine l_y rfl rfl (y_assign rfl) ?_
        refine l_y rfl rfl (y_assign rfl) ?_
        refine K2 (K3 (K6 (K9 ?_)))
        have e : elementR R sp nm xs none 0 = (0, 2, R) := by
          rw [elementR, if_neg (by omega)]
          by_cases hl : 1024 < xs.length
          · rw [if_pos hl]
          · rw [if_neg hl, if_pos (by simp [longB]; left; omega)]
        exact fin2 rfl rfl rfl ⟨_, ⟨none, 0, by rw [e], rfl⟩, by rw [e]; exact (rarL_shut hF hO).one⟩
      · refine l_y rfl rfl (y_move rfl) ?_
        refine l_y rfl rfl (y_move rfl) ?_
        refine l_y rfl rfl (y_lenS rfl) ?_
        refine Z0 (fun h3_6 => ?_) (fun h3_6 => ?_)
        · refine l_y rfl rfl (y_pick_f rfl rfl) ?_
          refine K2 (K3 (L8 (K0 (K1 ?_))))
          refine l_y rfl rfl (y_assign rfl) ?_
          refine l_y rfl rfl (y_assign rfl) ?_
          refine K2 (K3 (K6 (K9 ?_)))
          have e : elementR R sp nm xs none 0 = (0, 2, R) := by
            rw [elementR, if_neg (by omega)]
            by_cases hl : 1024 < xs.length
            · rw [if_pos hl]
            · rw [if_neg hl, if_pos (by simp [longB]; left; omega)]
          exact fin2 rfl rfl rfl ⟨_, ⟨none, 0, by rw [e], rfl⟩, by rw [e]; exact (rarL_shut hF hO).one⟩
        · refine l_y rfl rfl (y_pick_f rfl rfl) ?_
          refine K2 (K3 (L9 (K5 (K3 (K0 (K0 (K1 ?_)))))))
          refine l_y rfl rfl (y_assign rfl) ?_
          refine K2 (K3 (K4 ?_))
          refine c_rounds (X := Nat) (fun i => [(0, .pointer (some ⟨r, 0, none⟩)), (1, .int .i64 sp), (2, .string nm), (3, .slice ap xs.length ac), (8, .int .i64 0), (9, .int .i64 0), (10, .int .i64 (i : Int))]) (fun i w => Own k w [rB r p R.length c, rS p c R, pool F] ∧ (i ≤ xs.length ∧ longB (attrTexts (xs.take i)) = false)) (fun i => xs.length - i) (0) ⟨rfl, rfl, rfl, rfl, rfl, rfl, rfl, trivial⟩ ⟨hO.only [.b r, .p p, .f], ⟨Nat.zero_le _, rfl⟩⟩ ?_
          rintro i w m hm ⟨hO, hi⟩
          refine K0 (K0 (K1 ?_))
          refine l_y rfl rfl (y_move rfl) ?_
          refine l_y rfl rfl (y_move rfl) ?_
          refine l_y rfl rfl (y_lenL rfl) ?_
          refine Z0 (fun h6_3 => ?_) (fun h6_3 => ?_)
          · refine K2 (K3 (L8 (K5 (K3 (K0 (K4 (K0 ?_)))))))
            refine da_region (by intro c a d v w h; cases d <;> exact h) ?_
            have hO := hO.drew
            refine da_phase _ [15] (SO.ks [] hO) ?_
            refine dx_u 0 (by kernel_rfl) rfl rfl rfl (fun w => y_move rfl) ?_
            refine dx_u 1 (by kernel_rfl) rfl rfl rfl (fun w => y_move rfl) ?_
            refine dx_u 2 (by kernel_rfl) rfl rfl rfl (fun w => y_idx rfl rfl) ?_
            refine dx_u 3 (by kernel_rfl) rfl rfl rfl (fun w => y_fld (j' := 1) rfl) ?_
            refine dx_y 4 (by kernel_rfl) rfl rfl rfl (fun w ⟨m, hw⟩ => y_r1 (x0 := 1) (enc := Api_attr.cells) (xs := xs) hw rfl) ?_
            refine dx_u 5 (by kernel_rfl) rfl rfl rfl (fun w => y_move rfl) ?_
            refine dx_u 6 (by kernel_rfl) rfl rfl rfl (fun w => y_move rfl) ?_
            refine dx_u 7 (by kernel_rfl) rfl rfl rfl (fun w => y_idx rfl rfl) ?_
            refine dx_u 8 (by kernel_rfl) rfl rfl rfl (fun w => y_fld (j' := 2) rfl) ?_
            refine dx_y 9 (by kernel_rfl) rfl rfl rfl (fun w ⟨m, hw⟩ => y_r1 (x0 := 2) (enc := Api_attr.cells) (xs := xs) hw rfl) ?_
            refine dx_u 10 (by kernel_rfl) rfl rfl rfl (fun w => y_move rfl) ?_
            refine dx_u 11 (by kernel_rfl) rfl rfl rfl (fun w => y_move rfl) ?_
            refine dx_u 12 (by kernel_rfl) rfl rfl rfl (fun w => y_idx rfl rfl) ?_
            refine dx_u 13 (by kernel_rfl) rfl rfl rfl (fun w => y_fld (j' := 3) rfl) ?_
            refine dx_y 14 (by kernel_rfl) rfl rfl rfl (fun w ⟨m, hw⟩ => y_r1 (x0 := 3) (enc := Api_attr.cells) (xs := xs) hw rfl) ?_
            refine dx_close 15 (by kernel_rfl) rfl rfl ?_
            refine s_lit (parts := [(0, .tmp 40), (1, .tmp 45), (2, .tmp 50)]) (enc := eS) [(at_ xs ((i : Int) : Int).toNat).Prefix, (at_ xs ((i : Int) : Int).toNat).Name, (at_ xs ((i : Int) : Int).toNat).Value] [.string (at_ xs ((i : Int) : Int).toNat).Prefix, .string (at_ xs ((i : Int) : Int).toNat).Name, .string (at_ xs ((i : Int) : Int).toNat).Value] hO rfl (fun b51 w hO => ?_)
            refine o_done ?_
            refine da_only 16 (by kernel_rfl) rfl ?_
            refine CK [] hO rfl (fun k' hx hr hO' => rlong_spec (ts := [(at_ xs i).Prefix, (at_ xs i).Name, (at_ xs i).Value]) (sls_roK (p := some ⟨b51, 0, none⟩) hr (sls_fct hO)) (by simp) (hO := hO')) ?_
            rintro _ _ w ⟨rfl, rfl⟩ hO
            simp only [List.nil_append] at hO
            refine o_done ?_
            refine da_end (by kernel_rfl) ?_
            refine K3 ?_
            refine c_split rfl (fun hc52 => ?_) (fun hc52 => ?_)
            · refine K0 (K1 ?_)
              refine l_y rfl rfl (y_assign rfl) ?_
              refine l_y rfl rfl (y_assign rfl) ?_
              refine K2 (K3 (K6 (L0 (K9 (K9 (L0 (K9 ?_)))))))
              have hlt : longB (nm :: attrTexts xs) = true := by
                obtain ⟨s, hs1, hs2⟩ := List.any_eq_true.1 hc52
                refine List.any_eq_true.2 ⟨s, List.mem_cons_of_mem _ (List.mem_flatMap.2 ⟨at_ xs i, at_mem (by omega), hs1⟩), hs2⟩
              have e : elementR R sp nm xs none 0 = (0, 2, R) := by rw [elementR, if_neg (by omega), if_neg (by omega), if_pos hlt]
              exact fin2 rfl rfl rfl ⟨_, ⟨none, 0, by rw [e], rfl⟩, by rw [e]; exact (rarL_shut hF (hO.ks [.b r, .p p, .f])).one⟩
            · refine K5 (K8 (K3 (K1 ?_)))
              refine l_y rfl rfl (y_move rfl) ?_
              refine l_y rfl rfl (D4) ?_
              refine l_y rfl rfl (y_assign rfl) ?_
              refine K2 ?_
              exact q_next (i + 1) ⟨rfl, rfl, rfl, rfl, rfl, rfl, rfl, trivial⟩ ⟨hO.only [.b r, .p p, .f], ⟨by omega, by rw [take_succ_at (by omega)]; simp only [attrTexts, List.flatMap_append, List.flatMap_cons, List.flatMap_nil, List.append_nil, longB, List.any_append, Bool.or_eq_false_iff] at hi hc52 ⊢; exact ⟨hi.2, hc52⟩⟩⟩ (by omega)
          · refine K2 (K3 (L9 (K7 (L1 (L1 (L2 (K3 (K0 ?_))))))))
            have hlf : ¬ longB (nm :: attrTexts xs) = true := by
              have h := hi.2
              rw [show xs.take i = xs by rw [List.take_of_length_le (by omega)]] at h
              simp only [longB, List.any_cons, Bool.or_eq_true, not_or] at h ⊢
              refine ⟨?_, by rw [h]; simp⟩
              simp; omega
            refine K1 ?_
            refine l_y rfl rfl (y_move rfl) ?_
            refine Z0 (fun h10_1 => ?_) (fun h10_1 => ?_)
            · refine l_y rfl rfl (y_move rfl) ?_
              refine l_y rfl rfl (y_move rfl) ?_
              refine Z2 (fun h10_4 => ?_) (fun h10_4 => ?_)
              · refine l_y rfl rfl (y_pick_t rfl rfl) ?_
                refine l_y rfl rfl (y_assign rfl) ?_
                refine K2 (K3 (K0 (K0 (K1 ?_))))
                refine l_y rfl rfl (y_move rfl) ?_
                refine l_y rfl rfl (y_move rfl) ?_
                refine l_y rfl rfl (y_move rfl) ?_
                refine l_y rfl rfl (y_nilCheck rfl rfl) ?_
                refine l_y rfl rfl (y_fldb (o' := 0) rfl) ?_
                refine l_y rfl rfl (D5 hO rfl) ?_
                refine l_y rfl rfl (y_lenL rfl) ?_
                refine l_y rfl rfl (D4) ?_
                refine Z0 (fun h11_8 => ?_) (fun h11_8 => ?_)
                · refine l_y rfl rfl (y_pick_t rfl rfl) ?_
                  refine K2 (K3 (L8 (K0 (K1 ?_))))
                  refine l_y rfl rfl (y_assign rfl) ?_
                  refine l_y rfl rfl (y_assign rfl) ?_
                  refine K2 (K3 (K6 (K9 ?_)))
                  have e : elementR R sp nm xs none 0 = (0, 9, R) := by rw [elementR, if_neg (by omega), if_neg (by omega), if_neg hlf, if_pos ⟨⟨h10_1, h10_4⟩, by omega⟩]
                  exact fin2 rfl rfl rfl ⟨_, ⟨none, 0, by rw [e], rfl⟩, by rw [e]; exact (rarL_shut hF (hO.ks [.b r, .p p, .f])).one⟩
                · refine l_y rfl rfl (y_pick_t rfl rfl) ?_
                  refine K2 (K3 (L9 (K5 (K3 (K0 (K1 ?_))))))
                  refine l_y rfl rfl (y_move rfl) ?_
                  refine l_y rfl rfl (y_move rfl) ?_
                  refine l_y rfl rfl (y_move rfl) ?_
                  refine s_lit0 Api_attr.cells hO (fun b73 w hO => ?_)
                  refine l_y rfl rfl (y_move rfl) ?_
                  refine s_app0 hO rfl rfl (src_ro hO (by assumption)) (fun p75 c75 w hO gs75 => ?_)
                  refine s_build (parts := [(0, .const (.int .i64 1)), (1, .tmp 71), (2, .tmp 72), (3, .tmp 75)]) (cs := [.int .i64 1, .int .i64 sp, .string nm, .slice p75 xs.length c75, .string ⟨#[]⟩, .string ⟨#[]⟩, .int .i64 0, .int .i64 0, .int .i64 0, .slice none 0 0]) rfl rfl (fun a ha => partsOf_sound ha _ _ rfl) (by kernel_rfl) ?_
                  obtain ⟨F2, hle, hO, hsa⟩ := (hO.ks [.p p75, .f]).pooled
                  have hF2 := hF.le hle
                  have hRF : RF1 F2 (blankR (elR p75 c75 sp nm xs)) := ⟨hsa, Sli.nil rfl⟩
                  refine CK [.b r, .p p] hO rfl (fun k' hx hr hO' => radd_spec (o := elR p75 c75 sp nm xs) hc (hO := hO')) ?_
                  rintro _ _ w (⟨h9, rfl, rfl⟩ | ⟨h9, rfl, p2, c2, rfl⟩) hO
                  · simp only [List.cons_append, List.nil_append] at hO
                    refine l_y rfl rfl (y_move rfl) ?_
                    refine l_y rfl rfl (y_extract rfl rfl) ?_
                    refine l_y rfl rfl (y_extract rfl rfl) ?_
                    refine l_y rfl rfl (y_assign rfl) ?_
                    refine l_y rfl rfl (y_assign rfl) ?_
                    refine K2 (K3 (K0 (K0 (K1 ?_))))
                    refine l_y rfl rfl (y_move rfl) ?_
                    refine N3 ?_
                    refine l_y rfl rfl (y_move rfl) ?_
                    repeat refine M2 ?_
                    refine l_y rfl rfl (y_pick_f rfl rfl) ?_
                    refine K2 (K3 (L9 (K5 (K3 (K0 (K1 ?_))))))
                    refine l_y rfl rfl (y_move rfl) ?_
                    refine l_y rfl rfl (y_move rfl) ?_
                    refine l_y rfl rfl (y_assign rfl) ?_
                    refine l_y rfl rfl (y_assign rfl) ?_
                    refine K2 (K3 (K6 ?_))
                    have e : elementR R sp nm xs none 0 = (0, 9, R) := by
                      rw [elementR, if_neg (by omega), if_neg (by omega), if_neg hlf]
                      by_cases ht : tmpl sp nm ∧ 32767 ≤ R.length
                      · rw [if_pos ht]
                      · rw [if_neg ht, if_pos h9]
                    exact fin2 rfl rfl rfl ⟨_, ⟨none, 0, by rw [e], rfl⟩, by rw [e]; exact (rarL_shut hF2 (hO.ks [.b r, .p p, .f])).one⟩
                  · simp only [List.cons_append, List.nil_append] at hO
                    refine l_y rfl rfl (y_move rfl) ?_
                    refine l_y rfl rfl (y_extract rfl rfl) ?_
                    refine l_y rfl rfl (y_extract rfl rfl) ?_
                    refine l_y rfl rfl (y_assign rfl) ?_
                    refine l_y rfl rfl (y_assign rfl) ?_
                    refine K2 (K3 (K0 (K0 (K1 ?_))))
                    refine l_y rfl rfl (y_move rfl) ?_
                    refine N2 ?_
                    refine l_y rfl rfl (y_move rfl) ?_
                    refine l_y rfl rfl (y_move rfl) ?_
                    refine l_y rfl rfl (y_pick_t rfl rfl) ?_
                    refine K2 (K3 (L8 (K0 ?_)))
                    have hO := (rarL_shut (hF2.app hRF) (hO.ks [.b r, .p p2, .f]))
                    refine K1 ?_
                    refine l_y rfl rfl (y_move rfl) ?_
                    refine CK [.o r] hO rfl (fun k' hx hr hO' => rFragOk_spec (by simp; omega) (hO := hO')) ?_
                    rintro _ _ w ⟨rfl, rfl⟩ hO
                    simp only [List.cons_append, List.nil_append] at hO
                    obtain ⟨p3, c3, F3, hg3, hF3, hO⟩ := rarL_open hO
                    refine l_y rfl rfl (y_move rfl) ?_
                    refine l_y rfl rfl (y_extract rfl rfl) ?_
                    refine l_y rfl rfl (y_extract rfl rfl) ?_
                    refine l_y rfl rfl (y_assign rfl) ?_
                    refine l_y rfl rfl (y_assign rfl) ?_
                    refine K2 (K3 (K0 ?_))
                    have hl0 : (R ++ [blankR (elR p75 c75 sp nm xs)]).length = R.length + 1 := by simp
                    have hl1 : (R ++ [blankR (elR p75 c75 sp nm xs)] ++ [blankR fragmentR]).length = R.length + 2 := by simp
                    refine K1 ?_
                    refine l_y rfl rfl (y_move rfl) ?_
                    refine l_y rfl rfl (y_nilCheck rfl rfl) ?_
                    refine l_y rfl rfl (y_fldb (o' := 0) rfl) ?_
                    refine l_y rfl rfl (D5 hO rfl) ?_
                    refine l_y rfl rfl (y_move rfl) ?_
                    refine l_y rfl rfl (y_move rfl) ?_
                    refine l_y rfl rfl (y_idx rfl rfl) ?_
                    refine l_y rfl rfl (y_fld (j' := 6) rfl) ?_
                    refine s_e1 (x0 := 6) hO rfl rfl (fun w hO => ?_)
                    refine K2 (K3 (K1 ?_))
                    refine l_y rfl rfl (y_move rfl) ?_
                    refine l_y rfl rfl (y_nilCheck rfl rfl) ?_
                    refine l_y rfl rfl (y_fldb (o' := 0) rfl) ?_
                    refine l_y rfl rfl (D5 hO rfl) ?_
                    refine l_y rfl rfl (y_move rfl) ?_
                    refine l_y rfl rfl (y_move rfl) ?_
                    refine l_y rfl rfl (y_idx rfl rfl) ?_
                    refine l_y rfl rfl (y_fld (j' := 7) rfl) ?_
                    refine s_e1 (x0 := 7) hO rfl rfl (fun w hO => ?_)
                    refine K2 (K3 (K0 (K1 ?_)))
                    refine l_y rfl rfl (y_move rfl) ?_
                    refine l_y rfl rfl (y_move rfl) ?_
                    refine l_y rfl rfl (y_assign rfl) ?_
                    refine l_y rfl rfl (y_assign rfl) ?_
                    refine K2 (K3 (K6 ?_))
                    have e : elementR R sp nm xs p75 c75 = ((R.length : Int), 0, setHostR (setInnerR (R ++ [blankR (elR p75 c75 sp nm xs)] ++ [blankR fragmentR]) R.length (R ++ [blankR (elR p75 c75 sp nm xs)]).length) (R ++ [blankR (elR p75 c75 sp nm xs)]).length R.length) := by
                      rw [elementR, if_neg (by omega), if_neg (by omega), if_neg hlf, if_neg (by omega), if_neg (by omega), if_pos ⟨h10_1, h10_4⟩]
                    have hF4 := (hF3.inner (i := (R.length : Int)) (v := (R ++ [blankR (elR p75 c75 sp nm xs)]).length) (by omega)).host (i := (R ++ [blankR (elR p75 c75 sp nm xs)]).length) (v := R.length) (by simp only [setInnerR, List.length_set]; omega)
                    exact fin2 rfl rfl rfl ⟨_, ⟨p75, c75, by rw [e], rfl⟩, by rw [e]; exact (rarL_shut hF4 (hO.ks [.b r, .p p3, .f]) (by simp [setHostR, setInnerR])).one⟩
              · refine l_y rfl rfl (y_pick_t rfl rfl) ?_
                refine l_y rfl rfl (y_assign rfl) ?_
                refine K2 (K3 (K0 (K0 (K1 ?_))))
                refine l_y rfl rfl (y_move rfl) ?_
                refine l_y rfl rfl (y_move rfl) ?_
                repeat refine M2 ?_
                refine l_y rfl rfl (y_pick_f rfl rfl) ?_
                refine K2 (K3 (L9 (K5 (K3 (K0 (K1 ?_))))))
                refine l_y rfl rfl (y_move rfl) ?_
                refine l_y rfl rfl (y_move rfl) ?_
                refine l_y rfl rfl (y_move rfl) ?_
                refine s_lit0 Api_attr.cells hO (fun b73 w hO => ?_)
                refine l_y rfl rfl (y_move rfl) ?_
                refine s_app0 hO rfl rfl (src_ro hO (by assumption)) (fun p75 c75 w hO gs75 => ?_)
                refine s_build (parts := [(0, .const (.int .i64 1)), (1, .tmp 71), (2, .tmp 72), (3, .tmp 75)]) (cs := [.int .i64 1, .int .i64 sp, .string nm, .slice p75 xs.length c75, .string ⟨#[]⟩, .string ⟨#[]⟩, .int .i64 0, .int .i64 0, .int .i64 0, .slice none 0 0]) rfl rfl (fun a ha => partsOf_sound ha _ _ rfl) (by kernel_rfl) ?_
                obtain ⟨F2, hle, hO, hsa⟩ := (hO.ks [.p p75, .f]).pooled
                have hF2 := hF.le hle
                have hRF : RF1 F2 (blankR (elR p75 c75 sp nm xs)) := ⟨hsa, Sli.nil rfl⟩
                refine CK [.b r, .p p] hO rfl (fun k' hx hr hO' => radd_spec (o := elR p75 c75 sp nm xs) hc (hO := hO')) ?_
                rintro _ _ w (⟨h9, rfl, rfl⟩ | ⟨h9, rfl, p2, c2, rfl⟩) hO
                · simp only [List.cons_append, List.nil_append] at hO
                  refine l_y rfl rfl (y_move rfl) ?_
                  refine l_y rfl rfl (y_extract rfl rfl) ?_
                  refine l_y rfl rfl (y_extract rfl rfl) ?_
                  refine l_y rfl rfl (y_assign rfl) ?_
                  refine l_y rfl rfl (y_assign rfl) ?_
                  refine K2 (K3 (K0 (K0 (K1 ?_))))
                  refine l_y rfl rfl (y_move rfl) ?_
                  refine N3 ?_
                  refine l_y rfl rfl (y_move rfl) ?_
                  repeat refine M2 ?_
                  refine l_y rfl rfl (y_pick_f rfl rfl) ?_
                  refine K2 (K3 (L9 (K5 (K3 (K0 (K1 ?_))))))
                  refine l_y rfl rfl (y_move rfl) ?_
                  refine l_y rfl rfl (y_move rfl) ?_
                  refine l_y rfl rfl (y_assign rfl) ?_
                  refine l_y rfl rfl (y_assign rfl) ?_
                  refine K2 (K3 (K6 ?_))
                  have e : elementR R sp nm xs none 0 = (0, 9, R) := by
                    rw [elementR, if_neg (by omega), if_neg (by omega), if_neg hlf]
                    by_cases ht : tmpl sp nm ∧ 32767 ≤ R.length
                    · rw [if_pos ht]
                    · rw [if_neg ht, if_pos h9]
                  exact fin2 rfl rfl rfl ⟨_, ⟨none, 0, by rw [e], rfl⟩, by rw [e]; exact (rarL_shut hF2 (hO.ks [.b r, .p p, .f])).one⟩
                · simp only [List.cons_append, List.nil_append] at hO
                  refine l_y rfl rfl (y_move rfl) ?_
                  refine l_y rfl rfl (y_extract rfl rfl) ?_
                  refine l_y rfl rfl (y_extract rfl rfl) ?_
                  refine l_y rfl rfl (y_assign rfl) ?_
                  refine l_y rfl rfl (y_assign rfl) ?_
                  refine K2 (K3 (K0 (K0 (K1 ?_))))
                  refine l_y rfl rfl (y_move rfl) ?_
                  refine N2 ?_
                  refine l_y rfl rfl (y_move rfl) ?_
                  refine l_y rfl rfl (y_move rfl) ?_
                  refine l_y rfl rfl (y_pick_t rfl rfl) ?_
                  refine K2 (K3 (L9 (K5 (K3 (K0 (K1 ?_))))))
                  refine l_y rfl rfl (y_move rfl) ?_
                  refine l_y rfl rfl (y_move rfl) ?_
                  refine l_y rfl rfl (y_assign rfl) ?_
                  refine l_y rfl rfl (y_assign rfl) ?_
                  refine K2 (K3 (K6 ?_))
                  have hnt : ¬ tmpl sp nm := by rintro ⟨q1, q2⟩; first | exact h10_1 q1 | exact h10_4 q2
                  have e : elementR R sp nm xs p75 c75 = ((R.length : Int), 0, R ++ [blankR (elR p75 c75 sp nm xs)]) := by rw [elementR, if_neg (by omega), if_neg (by omega), if_neg hlf, if_neg (fun h => hnt h.1), if_neg (by omega), if_neg hnt]
                  exact fin2 rfl rfl rfl ⟨_, ⟨p75, c75, by rw [e], rfl⟩, by rw [e]; exact (rarL_shut (hF2.app hRF) (hO.ks [.b r, .p p2, .f])).one⟩
            · refine l_y rfl rfl (y_move rfl) ?_
              repeat refine M2 ?_
              refine l_y rfl rfl (y_pick_f rfl rfl) ?_
              refine l_y rfl rfl (y_assign rfl) ?_
              refine K2 (K3 (K0 (K0 (K1 ?_))))
              refine l_y rfl rfl (y_move rfl) ?_
              refine l_y rfl rfl (y_move rfl) ?_
              repeat refine M2 ?_
              refine l_y rfl rfl (y_pick_f rfl rfl) ?_
              refine K2 (K3 (L9 (K5 (K3 (K0 (K1 ?_))))))
              refine l_y rfl rfl (y_move rfl) ?_
              refine l_y rfl rfl (y_move rfl) ?_
              refine l_y rfl rfl (y_move rfl) ?_
              refine s_lit0 Api_attr.cells hO (fun b73 w hO => ?_)
              refine l_y rfl rfl (y_move rfl) ?_
              refine s_app0 hO rfl rfl (src_ro hO (by assumption)) (fun p75 c75 w hO gs75 => ?_)
              refine s_build (parts := [(0, .const (.int .i64 1)), (1, .tmp 71), (2, .tmp 72), (3, .tmp 75)]) (cs := [.int .i64 1, .int .i64 sp, .string nm, .slice p75 xs.length c75, .string ⟨#[]⟩, .string ⟨#[]⟩, .int .i64 0, .int .i64 0, .int .i64 0, .slice none 0 0]) rfl rfl (fun a ha => partsOf_sound ha _ _ rfl) (by kernel_rfl) ?_
              obtain ⟨F2, hle, hO, hsa⟩ := (hO.ks [.p p75, .f]).pooled
              have hF2 := hF.le hle
              have hRF : RF1 F2 (blankR (elR p75 c75 sp nm xs)) := ⟨hsa, Sli.nil rfl⟩
              refine CK [.b r, .p p] hO rfl (fun k' hx hr hO' => radd_spec (o := elR p75 c75 sp nm xs) hc (hO := hO')) ?_
              rintro _ _ w (⟨h9, rfl, rfl⟩ | ⟨h9, rfl, p2, c2, rfl⟩) hO
              · simp only [List.cons_append, List.nil_append] at hO
                refine l_y rfl rfl (y_move rfl) ?_
                refine l_y rfl rfl (y_extract rfl rfl) ?_
                refine l_y rfl rfl (y_extract rfl rfl) ?_
                refine l_y rfl rfl (y_assign rfl) ?_
                refine l_y rfl rfl (y_assign rfl) ?_
                refine K2 (K3 (K0 (K0 (K1 ?_))))
                refine l_y rfl rfl (y_move rfl) ?_
                refine N3 ?_
                refine l_y rfl rfl (y_move rfl) ?_
                repeat refine M2 ?_
                refine l_y rfl rfl (y_pick_f rfl rfl) ?_
                refine K2 (K3 (L9 (K5 (K3 (K0 (K1 ?_))))))
                refine l_y rfl rfl (y_move rfl) ?_
                refine l_y rfl rfl (y_move rfl) ?_
                refine l_y rfl rfl (y_assign rfl) ?_
                refine l_y rfl rfl (y_assign rfl) ?_
                refine K2 (K3 (K6 ?_))
                have e : elementR R sp nm xs none 0 = (0, 9, R) := by
                  rw [elementR, if_neg (by omega), if_neg (by omega), if_neg hlf]
                  by_cases ht : tmpl sp nm ∧ 32767 ≤ R.length
                  · rw [if_pos ht]
                  · rw [if_neg ht, if_pos h9]
                exact fin2 rfl rfl rfl ⟨_, ⟨none, 0, by rw [e], rfl⟩, by rw [e]; exact (rarL_shut hF2 (hO.ks [.b r, .p p, .f])).one⟩
              · simp only [List.cons_append, List.nil_append] at hO
                refine l_y rfl rfl (y_move rfl) ?_
                refine l_y rfl rfl (y_extract rfl rfl) ?_
                refine l_y rfl rfl (y_extract rfl rfl) ?_
                refine l_y rfl rfl (y_assign rfl) ?_
                refine l_y rfl rfl (y_assign rfl) ?_
                refine K2 (K3 (K0 (K0 (K1 ?_))))
                refine l_y rfl rfl (y_move rfl) ?_
                refine N2 ?_
                refine l_y rfl rfl (y_move rfl) ?_
                refine l_y rfl rfl (y_move rfl) ?_
                refine l_y rfl rfl (y_pick_t rfl rfl) ?_
                refine K2 (K3 (L9 (K5 (K3 (K0 (K1 ?_))))))
                refine l_y rfl rfl (y_move rfl) ?_
                refine l_y rfl rfl (y_move rfl) ?_
                refine l_y rfl rfl (y_assign rfl) ?_
                refine l_y rfl rfl (y_assign rfl) ?_
                refine K2 (K3 (K6 ?_))
                have hnt : ¬ tmpl sp nm := by rintro ⟨q1, q2⟩; first | exact h10_1 q1 | exact h10_4 q2
                have e : elementR R sp nm xs p75 c75 = ((R.length : Int), 0, R ++ [blankR (elR p75 c75 sp nm xs)]) := by rw [elementR, if_neg (by omega), if_neg (by omega), if_neg hlf, if_neg (fun h => hnt h.1), if_neg (by omega), if_neg hnt]
                exact fin2 rfl rfl rfl ⟨_, ⟨p75, c75, by rw [e], rfl⟩, by rw [e]; exact (rarL_shut (hF2.app hRF) (hO.ks [.b r, .p p2, .f])).one⟩
end Go.Proofs.Ythkmnohghpdjhaa
end
section
set_option linter.unusedVariables false
set_option linter.unusedSimpArgs false
namespace Go.Proofs.Ythkmnohghpdjhaa
open Go Go.Hb Go.RowKit
structure Sim1 (a : Node_one) (kids : List Int) (o : Ref01_one) : Prop where
  kind : o.Kind = a.Node.Kind
  space : o.Space = a.Node.Space
  name : o.Name = a.Node.Name
  attrs : o.Attrs = a.Node.Attrs
  data : o.Data = a.Node.Data
  system : o.System = a.Node.System
  inner : o.Inner = a.Node.Inner
  host : o.Host = a.host
  up : o.Up = a.Node.Parent
  kids : o.Kids = kids
structure Sim (A : List Node_one) (K : Int → List Int) (R : List Ref01_one) : Prop where
  len : R.length = A.length
  one : ∀ x : Int, InA A x → Sim1 (at_ A x.toNat) (K x) (at_ R x.toNat)
theorem Sim.has {A : List Node_one} {K : Int → List Int} {R : List Ref01_one} (s : Sim A K R) (x : Int) : hasR R x = hasB A x := by simp [hasR, hasB, s.len]
def InR2 (R : List Ref01_one) (x : Int) : Prop := 0 ≤ x ∧ x < R.length
theorem at_setR {R : List Ref01_one} {i y : Int} (hi : InR2 R i) (hy : 0 ≤ y) (v : Ref01_one) : at_ (R.set i.toNat v) y.toNat = if y = i then v else at_ R y.toNat := by
  obtain ⟨h0, h1⟩ := hi
  by_cases h : y = i
  · subst h; rw [if_pos rfl, at_set_eq (by omega)]
  · rw [if_neg h, at_set_ne (by omega)]
theorem Sim.inR {A : List Node_one} {K : Int → List Int} {R : List Ref01_one} (s : Sim A K R) {x : Int} (h : InA A x) : InR2 R x := ⟨h.1, by rw [s.len]; exact h.2⟩
/-- with one node's row of children put down, then one node's parent -/
def setKidsR (R : List Ref01_one) (i : Int) (p : Option Addr) (l : List Int) (c : Nat) : List Ref01_one := R.set i.toNat { at_ R i.toNat with KidsP := p, Kids := l, KidsC := c }
def setUpR (R : List Ref01_one) (i v : Int) : List Ref01_one := R.set i.toNat { at_ R i.toNat with Up := v }
theorem setKidsR_len {R : List Ref01_one} {i : Int} {p : Option Addr} {l : List Int} {c : Nat} : (setKidsR R i p l c).length = R.length := by simp [setKidsR]
theorem setUpR_len {R : List Ref01_one} {i v : Int} : (setUpR R i v).length = R.length := by simp [setUpR]
theorem Sim1.coreTo {a b : Node_one} {l : List Int} {o : Ref01_one} (s : Sim1 a l o) (h : coreN b = coreN a) (hp : b.Node.Parent = a.Node.Parent) : Sim1 b l o := by
  have e1 := core_kind h
  have e2 := core_host h
  have e3 := core_inner h
  have e4 := core_attrs h
  have e5 := congrArg (fun z : Node_one => z.Node.Space) h
  have e6 := congrArg (fun z : Node_one => z.Node.Name) h
  have e7 := congrArg (fun z : Node_one => z.Node.Data) h
  have e8 := congrArg (fun z : Node_one => z.Node.System) h
  simp only [coreN] at e5 e6 e7 e8
  exact ⟨by rw [e1, s.kind], by rw [e5, s.space], by rw [e6, s.name], by rw [e4, s.attrs], by rw [e7, s.data], by rw [e8, s.system], by rw [e3, s.inner], by rw [e2, s.host], by rw [hp, s.up], s.kids⟩
theorem Sim.relinked {A B : List Node_one} {K : Int → List Int} {R : List Ref01_one} (s : Sim A K R) {up id v : Int} {l : List Int} {p : Option Addr} {c : Nat} (hl : B.length = A.length) (hup : InA A up) (hid : InA A id) (hne : up ≠ id)
    (hc : ∀ y, InA A y → coreN (at_ B y.toNat) = coreN (at_ A y.toNat)) (hp : ∀ y, InA A y → (nodeA B y).Parent = if y = id then v else (nodeA A y).Parent) :
    Sim B (fun x => if x = up then l else K x) (setUpR (setKidsR R up p l c) id v) := by
  have h1 : InR2 (setKidsR R up p l c) id := by have := s.inR hid; exact ⟨this.1, by rw [setKidsR_len]; exact this.2⟩
  refine ⟨by rw [setUpR_len, setKidsR_len, s.len, hl], fun y hy => ?_⟩
  have hyA : InA A y := hy.len hl.symm
  have e1 : at_ (setKidsR R up p l c) y.toNat = if y = up then { at_ R up.toNat with KidsP := p, Kids := l, KidsC := c } else at_ R y.toNat := at_setR (s.inR hup) hy.1 _
  have e1' : at_ (setKidsR R up p l c) id.toNat = at_ R id.toNat := by rw [setKidsR, at_setR (s.inR hup) hid.1, if_neg hne.symm]
  have e2 : at_ (setUpR (setKidsR R up p l c) id v) y.toNat = if y = id then { at_ (setKidsR R up p l c) id.toNat with Up := v } else at_ (setKidsR R up p l c) y.toNat := at_setR h1 hy.1 _
  rw [e2]
  have sy := s.one y hyA
  have hpy := hp y hyA
  have hcy := hc y hyA
  by_cases h : y = id
  · subst h
    rw [if_pos rfl, e1', if_neg (fun e => hne e.symm)]
    rw [if_pos rfl] at hpy
    have sy2 : Sim1 { at_ A y.toNat with Node := { (at_ A y.toNat).Node with Parent := v } } (K y) { at_ R y.toNat with Up := v } := ⟨sy.kind, sy.space, sy.name, sy.attrs, sy.data, sy.system, sy.inner, sy.host, rfl, sy.kids⟩
    refine sy2.coreTo (hcy.trans ?_) hpy
    rfl
  · rw [if_neg h, e1]
    rw [if_neg h] at hpy
    by_cases h2 : y = up
    · subst h2
      rw [if_pos rfl, if_pos rfl]
      have sy2 : Sim1 (at_ A y.toNat) l { at_ R y.toNat with KidsP := p, Kids := l, KidsC := c } := ⟨sy.kind, sy.space, sy.name, sy.attrs, sy.data, sy.system, sy.inner, sy.host, sy.up, rfl⟩
      exact sy2.coreTo hcy hpy
    · rw [if_neg h2, if_neg h2]
      exact sy.coreTo hcy hpy
noncomputable def linkKs (A : List Node_one) (K : Int → List Int) (up id before : Int) : Int → List Int := if (linkL A up id before).1 = 0 then linkK K up id before else K
def unlinkKs (A : List Node_one) (K : Int → List Int) (id : Int) : Int → List Int := if (unlinkL A id).1 = 0 then unlinkK K (nodeA A id).Parent id else K
theorem linkL_err {A : List Node_one} {up id before : Int} (h : (linkL A up id before).1 ≠ 0) : (linkL A up id before).2 = A := by
  unfold linkL at h ⊢
  by_cases c1 : hasB A up = false ∨ hasB A id = false ∨ (before ≠ -1 ∧ hasB A before = false)
  · rw [if_pos c1]
  rw [if_neg c1] at h ⊢
  by_cases c2 : parentB (at_ A up.toNat).Node.Kind = false ∨ (at_ A id.toNat).Node.Kind = 0 ∨ (at_ A id.toNat).Node.Kind = 5
  · rw [if_pos c2]
  rw [if_neg c2] at h ⊢
  by_cases c3 : (at_ A id.toNat).Node.Parent ≠ -1 ∨ aboveB A up id = true
  · rw [if_pos c3]
  rw [if_neg c3] at h ⊢
  by_cases c4 : before ≠ -1 ∧ (at_ A before.toNat).Node.Parent ≠ up
  · rw [if_pos c4]
  rw [if_neg c4] at h; exact absurd rfl h
theorem unlinkL_err {A : List Node_one} {id : Int} (h : (unlinkL A id).1 ≠ 0) : (unlinkL A id).2 = A := by
  unfold unlinkL at h ⊢
  repeat' split at h
  all_goals first | (simp at h; done) | simp_all
theorem Tree.linkS {A : List Node_one} {K : Int → List Int} (t : Tree A K) (up id before : Int) : Tree (linkL A up id before).2 (linkKs A K up id before) := by
  unfold linkKs
  split
  · next h => exact t.link h
  · next h => rw [linkL_err h]; exact t
theorem Tree.unlinkS {A : List Node_one} {K : Int → List Int} (t : Tree A K) (id : Int) : Tree (unlinkL A id).2 (unlinkKs A K id) := by
  unfold unlinkKs
  split
  · next h => exact t.unlink h
  · next h => rw [unlinkL_err h]; exact t
theorem Sim.link {A : List Node_one} {K : Int → List Int} {R : List Ref01_one} (t : Tree A K) (s : Sim A K R) {up id before : Int} (h0 : (linkL A up id before).1 = 0) (p : Option Addr) (c : Nat) :
    Sim (linkL A up id before).2 (linkK K up id before) (setUpR (setKidsR R up p (insB id before (at_ R up.toNat).Kids) c) id up) := by
  obtain ⟨l1, l2, g⟩ := link_ok t h0
  have hp := (g.put t).2
  rw [(s.one up g.hup).kids]
  refine s.relinked linkL_len g.hup g.hid ?_ (fun y hy => (hp y hy.1).core) fun y hy => (hp y hy.1).parent
  intro e
  exact g.above (e ▸ .refl _)
theorem Sim.unlink {A : List Node_one} {K : Int → List Int} {R : List Ref01_one} (t : Tree A K) (s : Sim A K R) {id : Int} (h0 : (unlinkL A id).1 = 0) (p : Option Addr) (c : Nat) :
    Sim (unlinkL A id).2 (unlinkK K (nodeA A id).Parent id) (setUpR (setKidsR R (nodeA A id).Parent p ((at_ R ((nodeA A id).Parent).toNat).Kids.filter (fun y => y ≠ id)) c) id (-1)) := by
  obtain ⟨l1, l2, g⟩ := unlink_ok t h0
  have hL := t.lnk _ g.hup
  have hN := t.nodup _ g.hup
  have grow := g.row
  rw [g.row] at hL hN
  have hp : ∀ y, 0 ≤ y → Gone A (unlinkL A id).2 (nodeA A id).Parent id (lastL l1) (headL l2) y := fun y hy => by
    rw [g.res]
    refine gone_at g.hid g.hup ?_ ?_ hy
    · rw [← g.prev]; exact t.prevIn g.hid
    · rw [← g.next]; exact t.nextIn g.hid
  rw [(s.one _ g.hup).kids]
  have hne : (nodeA A id).Parent ≠ id := by
    intro e
    obtain ⟨rk, hrk⟩ := t.rank
    have h1 := hrk id g.hid.b
    have e' : (at_ A id.toNat).Node.Parent = id := e
    have e2 : nextUp A id = id := by rw [nextUp, if_neg (by have := g.par; simp only [nodeA] at this; exact this), e']
    rw [e2] at h1
    rcases h1 with h1 | h1
    · have := g.hid.1; omega
    · omega
  have hs := s.relinked (v := -1) (l := (K (nodeA A id).Parent).filter (fun y => y ≠ id)) (p := p) (c := c) (B := (unlinkL A id).2) unlinkL_len g.hup g.hid hne (fun y hy => (hp y hy.1).core) fun y hy => (hp y hy.1).parent
  have e : unlinkK K (nodeA A id).Parent id = fun x => if x = (nodeA A id).Parent then (K (nodeA A id).Parent).filter (fun y => y ≠ id) else K x := by
    funext x
    rw [unlinkK]
    split
    · next h => rw [h]
    · rfl
  rw [e]; exact hs
theorem Sim.add {A : List Node_one} {K : Int → List Int} {R : List Ref01_one} (s : Sim A K R) {n : Api_node} {o : Ref01_one} (h : Sim1 (blankN n) [] (blankR o)) : Sim (A ++ [blankN n]) (addK A K) (R ++ [blankR o]) := by
  refine ⟨by simp [s.len], fun x hx => ?_⟩
  rcases inA_new.1 hx with hx | rfl
  · rw [at_old hx, addK, if_neg (by have := hx.2; omega), at_app_l (by have := hx.1; have := hx.2; have := s.len; omega)]
    exact s.one x hx
  · rw [at_new, addK, if_pos rfl, show ((A.length : Int)).toNat = R.length by rw [s.len]; rfl, at_app_new]
    exact h
theorem Sim.new : Sim [docD] (fun _ => []) [docR] := by
  refine ⟨rfl, fun x hx => ?_⟩
  have : x = 0 := by have h1 := hx.1; have h2 : _ < ((1 : Nat) : Int) := hx.2; omega
  subst this
  exact ⟨rfl, rfl, rfl, rfl, rfl, rfl, rfl, rfl, rfl, rfl⟩
end Go.Proofs.Ythkmnohghpdjhaa
end
section
set_option linter.unusedVariables false
set_option linter.unusedSimpArgs false
set_option maxRecDepth 100000
namespace Go.Proofs.Ythkmnohghpdjhaa
open Go Go.Hb Go.RowKit
theorem Sim.atB {A : List Node_one} {K : Int → List Int} {R : List Ref01_one} (s : Sim A K R) {x : Int} (h : hasB A x = true) : Sim1 (at_ A x.toNat) (K x) (at_ R x.toNat) := s.one x (inA_iff.1 h)
theorem IsA_spec {k : Ctx} {w : World} {r : Nat} {A : List Node_one} {K : Int → List Int} {R : List Ref01_one} {p : Option Addr} {c : Nat} {id : Int} (s : Sim A K R) (hO : Own k w [rB r p R.length c, rS p c R]) :
    Tri Try.prog 49 #[.pointer (some ⟨r, 0, none⟩), .int .i64 id] k w fun v m => v = .bool (hasB A id) ∧ m = [rB r p R.length c, rS p c R] := by
  rw [← s.has]; exact Is_spec hO
theorem rParent_spec {k : Ctx} {w : World} {r : Nat} {A : List Node_one} {K : Int → List Int} {R : List Ref01_one} {p : Option Addr} {c : Nat} {id : Int} (s : Sim A K R) (hg : Gs p R.length) (hid : hasB A id = true) (hO : Own k w [rB r p R.length c, rS p c R]) :
    Tri Try.prog 78 #[.pointer (some ⟨r, 0, none⟩), .int .i64 id] k w fun v m => v = .bool (parentB (at_ A id.toNat).Node.Kind) ∧ m = [rB r p R.length c, rS p c R] := by
  refine enter (args := [.pointer (some ⟨r, 0, none⟩), .int .i64 id]) Try.func78 rfl rfl ?_
  have hi := hasB_true hid
  have hl := s.len
  have hk := (s.atB hid).kind
  refine K0 (K1 ?_)
  refine l_y rfl rfl (y_assign rfl) ?_
  refine K2 (K3 (K0 (K1 ?_)))
  refine l_y rfl rfl (y_move rfl) ?_
  refine l_y rfl rfl (y_nilCheck rfl rfl) ?_
  refine l_y rfl rfl (y_fldb (o' := 0) rfl) ?_
  refine l_y rfl rfl (D5 hO rfl) ?_
  refine l_y rfl rfl (y_move rfl) ?_
  refine l_y rfl rfl (y_idx rfl rfl) ?_
  refine l_y rfl rfl (y_fld (j' := 0) rfl) ?_
  refine l_y rfl rfl (y_e1 (x0 := 0) hO rfl) ?_
  refine l_y rfl rfl (y_assign rfl) ?_
  refine K2 (K3 (K0 (K1 ?_)))
  refine l_y rfl rfl (y_move rfl) ?_
  refine Z0 (fun h2_1 => ?_) (fun h2_1 => ?_)
  · refine l_y rfl rfl (y_move rfl) ?_
    repeat refine M2 ?_
    refine l_y rfl rfl (y_pick_t rfl rfl) ?_
    refine l_y rfl rfl (y_move rfl) ?_
    repeat refine M2 ?_
    refine l_y rfl rfl (y_pick_t rfl rfl) ?_
    refine l_y rfl rfl (y_assign rfl) ?_
    refine K2 (K3 (K6 ?_))
    rw [hk] at *
    exact fin1 rfl rfl ⟨_, ⟨by simp [parentB, *], rfl⟩, hO⟩
  · refine l_y rfl rfl (y_move rfl) ?_
    refine l_y rfl rfl (y_move rfl) ?_
    refine Z0 (fun h2_4 => ?_) (fun h2_4 => ?_)
    · refine l_y rfl rfl (y_pick_f rfl rfl) ?_
      refine l_y rfl rfl (y_move rfl) ?_
      repeat refine M2 ?_
      refine l_y rfl rfl (y_pick_t rfl rfl) ?_
      refine l_y rfl rfl (y_assign rfl) ?_
      refine K2 (K3 (K6 ?_))
      rw [hk] at *
      exact fin1 rfl rfl ⟨_, ⟨by simp [parentB, *], rfl⟩, hO⟩
    · refine l_y rfl rfl (y_pick_f rfl rfl) ?_
      refine l_y rfl rfl (y_move rfl) ?_
      refine l_y rfl rfl (y_move rfl) ?_
      refine Z0 (fun h2_8 => ?_) (fun h2_8 => ?_)
      · refine l_y rfl rfl (y_pick_f rfl rfl) ?_
        refine l_y rfl rfl (y_assign rfl) ?_
        refine K2 (K3 (K6 ?_))
        rw [hk] at *
        exact fin1 rfl rfl ⟨_, ⟨by simp [parentB, *], rfl⟩, hO⟩
      · refine l_y rfl rfl (y_pick_f rfl rfl) ?_
        refine l_y rfl rfl (y_assign rfl) ?_
        refine K2 (K3 (K6 ?_))
        rw [hk] at *
        exact fin1 rfl rfl ⟨_, ⟨by simp [parentB, *], rfl⟩, hO⟩
set_option maxHeartbeats 1000000 in
theorem rAbove_spec {k : Ctx} {w : World} {r : Nat} {A : List Node_one} {K : Int → List Int} {R : List Ref01_one} {p : Option Addr} {c : Nat} {id other : Int} (s : Sim A K R) (hg : Gs p R.length) (hrk : Ranked A) (hO : Own k w [rB r p R.length c, rS p c R]) :
    Tri Try.prog 79 #[.pointer (some ⟨r, 0, none⟩), .int .i64 id, .int .i64 other] k w fun v m => v = .bool (aboveB A id other) ∧ m = [rB r p R.length c, rS p c R] := by
  refine enter (args := [.pointer (some ⟨r, 0, none⟩), .int .i64 id, .int .i64 other]) Try.func79 rfl rfl ?_
  obtain ⟨rk, hrk⟩ := hrk
  have hl := s.len
  refine K0 (K1 ?_)
  refine l_y rfl rfl (y_assign rfl) ?_
  refine K2 (K3 (K0 (K0 (K1 ?_))))
  refine l_y rfl rfl (y_move rfl) ?_
  refine l_y rfl rfl (y_move rfl) ?_
  refine CK [.b r, .p p] hO rfl (fun k' hx hr hO' => IsA_spec s (hO := hO')) ?_
  rintro _ _ w ⟨rfl, rfl⟩ hO
  simp only [List.cons_append, List.nil_append] at hO
  refine l_y rfl rfl (y_not rfl rfl) ?_
  refine l_y rfl rfl (y_move rfl) ?_
  refine l_split 12 rfl (fun hg12 => ?_) (fun hg12 => ?_)
  · simp only [Bool.not_eq_true', Bool.not_eq_false'] at hg12
    repeat refine M2 ?_
    refine l_y rfl rfl (y_pick_t rfl rfl) ?_
    refine K2 (K3 (L8 (K0 (K1 ?_))))
    refine l_y rfl rfl (y_assign rfl) ?_
    refine K2 (K3 (K6 (K9 ?_)))
    first
    | exact fin1 rfl rfl ⟨_, ⟨by rw [aboveB, hg12]; rfl, rfl⟩, hO⟩
    | exact fin1 rfl rfl ⟨_, ⟨by rw [aboveB, hc17, Bool.and_false]; rfl, rfl⟩, hO⟩
  · simp only [Bool.not_eq_true', Bool.not_eq_false'] at hg12
    refine l_y rfl rfl (y_move rfl) ?_
    refine l_y rfl rfl (y_move rfl) ?_
    refine CK [.b r, .p p] hO rfl (fun k' hx hr hO' => IsA_spec s (hO := hO')) ?_
    rintro _ _ w ⟨rfl, rfl⟩ hO
    simp only [List.cons_append, List.nil_append] at hO
    refine l_y rfl rfl (y_not rfl rfl) ?_
    refine l_y rfl rfl (y_pick_f rfl rfl) ?_
    refine K2 (K3 ?_)
    refine c_split rfl (fun hc17 => ?_) (fun hc17 => ?_)
    · simp only [Bool.not_eq_true', Bool.not_eq_false'] at hc17
      refine K0 (K1 ?_)
      refine l_y rfl rfl (y_assign rfl) ?_
      refine K2 (K3 (K6 (K9 ?_)))
      first
      | exact fin1 rfl rfl ⟨_, ⟨by rw [aboveB, hg12]; rfl, rfl⟩, hO⟩
      | exact fin1 rfl rfl ⟨_, ⟨by rw [aboveB, hc17, Bool.and_false]; rfl, rfl⟩, hO⟩
    · simp only [Bool.not_eq_true', Bool.not_eq_false'] at hc17
      refine K5 (K3 (K0 (K4 ?_)))
      refine c_rounds (X := Int) (fun x => [(0, .pointer (some ⟨r, 0, none⟩)), (1, .int .i64 x), (2, .int .i64 other), (6, .bool false)]) (fun x w => Own k w [rB r p R.length c, rS p c R] ∧ ((x = -1 ∨ hasB A x = true)) ∧ ((Anc A id other ↔ Anc A x other))) (fun x => if x = -1 then 0 else rk x + 1) (id) ⟨rfl, rfl, rfl, rfl, trivial⟩ ⟨hO.only [.b r, .p p], .inr hg12, Iff.rfl⟩ ?_
      rintro x w m hm ⟨hO, hx, he⟩
      refine K0 (K0 (K1 ?_))
      refine l_y rfl rfl (y_move rfl) ?_
      refine Z1 (fun h3_1 => ?_) (fun h3_1 => ?_)
      · refine K2 (K3 (L8 (K5 (K3 (K4 (K0 (K0 ?_)))))))
        have hb := hx.resolve_left h3_1
        have hb2 := hasB_true hb
        have hup := (s.atB hb).up
        have hho := (s.atB hb).host
        refine K1 ?_
        refine l_y rfl rfl (y_move rfl) ?_
        refine l_y rfl rfl (y_move rfl) ?_
        refine Z0 (fun h4_2 => ?_) (fun h4_2 => ?_)
        · refine K2 (K3 (L8 (K0 (K1 ?_))))
          refine l_y rfl rfl (y_assign rfl) ?_
          refine K2 (K3 (K6 (K9 (L0 (K9 (L0 (K9 ?_)))))))
          have hid : hasB A id = true := hg12
          have hot : hasB A other = true := hc17
          have e : x = other := by omega
          subst e
          exact fin1 rfl rfl ⟨_, ⟨by simp [aboveB, hid, hot, ancB_of (he.2 (.refl _))], rfl⟩, hO⟩
        · refine K2 (K3 (L9 (K5 (K3 (K0 (K1 ?_))))))
          refine l_y rfl rfl (y_move rfl) ?_
          refine l_y rfl rfl (y_nilCheck rfl rfl) ?_
          refine l_y rfl rfl (y_fldb (o' := 0) rfl) ?_
          refine l_y rfl rfl (D5 hO rfl) ?_
          refine l_y rfl rfl (y_move rfl) ?_
          refine l_y rfl rfl (y_idx rfl rfl) ?_
          refine l_y rfl rfl (y_fld (j' := 8) rfl) ?_
          refine l_y rfl rfl (y_e1 (x0 := 8) hO rfl) ?_
          refine l_y rfl rfl (y_assign rfl) ?_
          refine K2 (K3 (K0 (K0 (K1 ?_))))
          refine l_y rfl rfl (y_move rfl) ?_
          refine Z0 (fun h7_1 => ?_) (fun h7_1 => ?_)
          · refine K2 (K3 (L8 (K1 ?_)))
            refine l_y rfl rfl (y_move rfl) ?_
            refine l_y rfl rfl (y_nilCheck rfl rfl) ?_
            refine l_y rfl rfl (y_fldb (o' := 0) rfl) ?_
            refine l_y rfl rfl (D5 hO rfl) ?_
            refine l_y rfl rfl (y_move rfl) ?_
            refine l_y rfl rfl (y_idx rfl rfl) ?_
            refine l_y rfl rfl (y_fld (j' := 7) rfl) ?_
            refine l_y rfl rfl (y_e1 (x0 := 7) hO rfl) ?_
            refine l_y rfl rfl (y_assign rfl) ?_
            refine K2 (K3 (K1 ?_))
            refine l_y rfl rfl (y_move rfl) ?_
            refine l_y rfl rfl (y_assign rfl) ?_
            refine K2 (K8 ?_)
            have hnx : nextUp A x = (at_ R (x : Int).toNat).Host := by simp only [nextUp, ← hup, ← hho]; first | rw [if_pos h7_1] | rw [if_neg h7_1]
            have hrx := hrk x (hx.resolve_left h3_1)
            have hlt : (if nextUp A x = -1 then 0 else rk (nextUp A x) + 1) < rk x + 1 := by
              split
              · omega
              · rename_i h; have := (hrx.resolve_left h).2; omega
            exact q_next ((at_ R (x : Int).toNat).Host) ⟨rfl, rfl, rfl, rfl, trivial⟩ ⟨hO.only [.b r, .p p], by rw [← hnx]; exact hrx.imp (fun h => h) And.left, by rw [he, anc_ne h4_2 h3_1, hnx]⟩ (by rw [← hm, if_neg h3_1, ← hnx]; exact hlt)
          · refine K2 (K3 (L9 (K5 (K3 (K1 ?_)))))
            refine l_y rfl rfl (y_move rfl) ?_
            refine l_y rfl rfl (y_assign rfl) ?_
            refine K2 (K8 ?_)
            have hnx : nextUp A x = (at_ R (x : Int).toNat).Up := by simp only [nextUp, ← hup, ← hho]; first | rw [if_pos h7_1] | rw [if_neg h7_1]
            have hrx := hrk x (hx.resolve_left h3_1)
            have hlt : (if nextUp A x = -1 then 0 else rk (nextUp A x) + 1) < rk x + 1 := by
              split
              · omega
              · rename_i h; have := (hrx.resolve_left h).2; omega
            exact q_next ((at_ R (x : Int).toNat).Up) ⟨rfl, rfl, rfl, rfl, trivial⟩ ⟨hO.only [.b r, .p p], by rw [← hnx]; exact hrx.imp (fun h => h) And.left, by rw [he, anc_ne h4_2 h3_1, hnx]⟩ (by rw [← hm, if_neg h3_1, ← hnx]; exact hlt)
      · refine K2 (K3 (L9 (K7 (L1 (L1 (L2 (K3 (K0 (K1 ?_)))))))))
        refine l_y rfl rfl (y_assign rfl) ?_
        refine K2 (K3 (K6 ?_))
        have hot2 := hasB_true hc17
        have e : x = -1 := by omega
        subst e
        exact fin1 rfl rfl ⟨_, ⟨by simp [aboveB, ancB_not (fun h => absurd (anc_none (he.1 h)) (by omega))], rfl⟩, hO⟩
end Go.Proofs.Ythkmnohghpdjhaa
end
section
set_option linter.unusedVariables false
set_option linter.unusedSimpArgs false
set_option maxRecDepth 100000
namespace Go.Proofs.Ythkmnohghpdjhaa
open Go Go.Hb Go.RowKit
section
variable {P : Program} {n : Nat} {ds : List Deferred} {E : Env} {w : World} {d : Option Tmp} {ty : TypeId} {pos : String} {aft : Array Edge} {g : Option (Nat × Bool)}
/-- texts one behind the other, as lists of bytes -/
theorem y_catB {t u : TypeId} {x y : Operand} {a b : ByteArray} {X Y : List UInt8} (hx : ev E x = some (.string a)) (hy : ev E y = some (.string b)) (ha : tl a = X) (hb : tl b = Y) (h : X.length + Y.length ≤ 9223372036854775807) :
    Yld P n ds E w ⟨d, .binOp .add t x y u, ty, pos, aft, g⟩ (.string (ba (X ++ Y))) := by
  have := y_catS (P := P) (n := n) (ds := ds) (w := w) (d := d) (ty := ty) (pos := pos) (aft := aft) (g := g) (t := t) (u := u) hx hy (by rw [← tl_len, ← tl_len, ha, hb]; exact h)
  rwa [ba_eq (a := a ++ b) (l := X ++ Y) (by rw [tl_app, ha, hb])] at this
end
section
variable {k : Ctx} {w : World}
end
end Go.Proofs.Ythkmnohghpdjhaa
end
section
set_option linter.unusedVariables false
set_option linter.unusedSimpArgs false
set_option maxRecDepth 100000
namespace Go.Proofs.Ythkmnohghpdjhaa
open Go Go.Hb Go.RowKit
def insP (id before : Int) (l : List Int) : List Int := l.flatMap fun y => if y = before then [id, y] else [y]
theorem insB_P {id before : Int} : ∀ {l : List Int}, insB id before l = insP id before l ++ (if before = -1 then [id] else [])
  | [] => by simp [insB, insP]
  | y :: l => by
    rw [insB, insB_P (l := l)]
    simp only [insP, List.flatMap_cons]
    split <;> simp
theorem insP_succ {id before : Int} {l : List Int} {i : Nat} (h : i < l.length) : insP id before (l.take (i + 1)) = insP id before (l.take i) ++ (if at_ l i = before then [id, at_ l i] else [at_ l i]) := by
  rw [take_succ_at h]; simp [insP]
theorem insP_len {id before : Int} {l : List Int} : (insP id before l).length ≤ 2 * l.length := by
  induction l with
  | nil => simp [insP]
  | cons y l ih =>
    have e : insP id before (y :: l) = (if y = before then [id, y] else [y]) ++ insP id before l := by simp [insP]
    rw [e, List.length_append, List.length_cons]
    split <;> simp only [List.length_cons, List.length_nil] <;> omega
theorem Sim.link' {A : List Node_one} {K : Int → List Int} {R : List Ref01_one} (t : Tree A K) (s : Sim A K R) {up id before : Int} (h0 : (linkL A up id before).1 = 0) {p : Option Addr} {c : Nat} {l : List Int} (hl : l = insB id before (at_ R up.toNat).Kids) :
    Sim (linkL A up id before).2 (linkK K up id before) (setUpR (setKidsR R up p l c) id up) := by rw [hl]; exact Sim.link t s h0 p c
theorem RF1.kidsTo {F : Pl} {o : Ref01_one} (h : RF1 F o) {p : Option Addr} {l : List Int} {c : Nat} (hl : Sli (PH F) (.slice p l.length c) (l.map (eI .i64))) : RF1 F { o with KidsP := p, Kids := l, KidsC := c } := ⟨h.attrs, hl⟩
theorem RF.kids {F : Pl} {R : List Ref01_one} (h : RF F R) {i : Int} {p : Option Addr} {l : List Int} {c : Nat} (hi : i.toNat < R.length) (hl : Sli (PH F) (.slice p l.length c) (l.map (eI .i64))) : RF F (setKidsR R i p l c) := h.set ((h.atR hi).kidsTo hl)
theorem RF.up {F : Pl} {R : List Ref01_one} (h : RF F R) {i v : Int} (hi : i.toNat < R.length) : RF F (setUpR R i v) := h.set ⟨(h.atR hi).attrs, (h.atR hi).kids⟩
set_option maxHeartbeats 4000000 in
theorem rLink_spec {k : Ctx} {w : World} {r : Nat} {A : List Node_one} {K : Int → List Int} {R : List Ref01_one} {up id before : Int} (t : Tree A K) (s : Sim A K R) (hlen : A.length ≤ 32768) (hO : Own k w [rarL r R]) :
    Tri Try.prog 48 #[.pointer (some ⟨r, 0, none⟩), .int .i64 up, .int .i64 id, .int .i64 before] k w fun v m => v = .int .i64 (linkL A up id before).1 ∧ ∃ R', m = [rarL r R'] ∧ Sim (linkL A up id before).2 (linkKs A K up id before) R' := by
  refine enter (args := [.pointer (some ⟨r, 0, none⟩), .int .i64 up, .int .i64 id, .int .i64 before]) Try.func48 rfl rfl ?_
  obtain ⟨p, c, F, hg, hF, hO⟩ := rarL_open hO
  have hl := s.len
  have kerr : (linkL A up id before).1 ≠ 0 → Sim (linkL A up id before).2 (linkKs A K up id before) R := fun h => by rw [linkL_err h, linkKs, if_neg h]; exact s
  refine K0 (K1 ?_)
  refine l_y rfl rfl (y_assign rfl) ?_
  refine K2 (K3 (K0 (K0 (K1 ?_))))
  refine l_y rfl rfl (y_move rfl) ?_
  refine l_y rfl rfl (y_move rfl) ?_
  refine CK [.b r, .p p] hO rfl (fun k' hx hr hO' => IsA_spec s (hO := hO')) ?_
  rintro _ _ w ⟨rfl, rfl⟩ hO
  simp only [List.cons_append, List.nil_append] at hO
  refine l_y rfl rfl (y_not rfl rfl) ?_
  refine l_y rfl rfl (y_move rfl) ?_
  refine l_split 16 rfl (fun hg16 => ?_) (fun hg16 => ?_)
  · simp only [Bool.not_eq_true', Bool.not_eq_false'] at hg16
    repeat refine M2 ?_
    refine l_y rfl rfl (y_pick_t rfl rfl) ?_
    refine l_y rfl rfl (y_move rfl) ?_
    repeat refine M2 ?_
    refine l_y rfl rfl (y_pick_t rfl rfl) ?_
    refine K2 (K3 (L8 (K0 (K1 ?_))))
    refine l_y rfl rfl (y_assign rfl) ?_
    refine K2 (K3 (K6 (K9 ?_)))
    have e : linkL A up id before = (6, A) := by simp [linkL, *]
    exact fin1 rfl rfl ⟨_, ⟨by rw [e], _, rfl, kerr (by rw [e]; simp)⟩, (rarL_shut hF (hO.ks [.b r, .p p, .f])).one⟩
  · simp only [Bool.not_eq_true', Bool.not_eq_false'] at hg16
    refine l_y rfl rfl (y_move rfl) ?_
    refine l_y rfl rfl (y_move rfl) ?_
    refine CK [.b r, .p p] hO rfl (fun k' hx hr hO' => IsA_spec s (hO := hO')) ?_
    rintro _ _ w ⟨rfl, rfl⟩ hO
    simp only [List.cons_append, List.nil_append] at hO
    refine l_y rfl rfl (y_not rfl rfl) ?_
    refine l_y rfl rfl (y_pick_f rfl rfl) ?_
    refine l_y rfl rfl (y_move rfl) ?_
    refine l_split 22 rfl (fun hg22 => ?_) (fun hg22 => ?_)
    · simp only [Bool.not_eq_true', Bool.not_eq_false'] at hg22
      repeat refine M2 ?_
      refine l_y rfl rfl (y_pick_t rfl rfl) ?_
      refine K2 (K3 (L8 (K0 (K1 ?_))))
      refine l_y rfl rfl (y_assign rfl) ?_
      refine K2 (K3 (K6 (K9 ?_)))
      have e : linkL A up id before = (6, A) := by simp [linkL, *]
      exact fin1 rfl rfl ⟨_, ⟨by rw [e], _, rfl, kerr (by rw [e]; simp)⟩, (rarL_shut hF (hO.ks [.b r, .p p, .f])).one⟩
    · simp only [Bool.not_eq_true', Bool.not_eq_false'] at hg22
      refine l_y rfl rfl (y_move rfl) ?_
      refine Z1 (fun h1_12 => ?_) (fun h1_12 => ?_)
      · refine l_y rfl rfl (y_move rfl) ?_
        refine l_y rfl rfl (y_move rfl) ?_
        refine l_y rfl rfl (y_move rfl) ?_
        refine CK [.b r, .p p] hO rfl (fun k' hx hr hO' => IsA_spec s (hO := hO')) ?_
        rintro _ _ w ⟨rfl, rfl⟩ hO
        simp only [List.cons_append, List.nil_append] at hO
        refine l_y rfl rfl (y_not rfl rfl) ?_
        refine l_y rfl rfl (y_pick_t rfl rfl) ?_
        refine l_y rfl rfl (y_pick_f rfl rfl) ?_
        refine K2 (K3 ?_)
        refine c_split rfl (fun hc31 => ?_) (fun hc31 => ?_)
        · simp only [Bool.not_eq_true', Bool.not_eq_false'] at hc31
          refine K0 (K1 ?_)
          refine l_y rfl rfl (y_assign rfl) ?_
          refine K2 (K3 (K6 (K9 ?_)))
          have e : linkL A up id before = (6, A) := by simp [linkL, *]
          exact fin1 rfl rfl ⟨_, ⟨by rw [e], _, rfl, kerr (by rw [e]; simp)⟩, (rarL_shut hF (hO.ks [.b r, .p p, .f])).one⟩
        · simp only [Bool.not_eq_true', Bool.not_eq_false'] at hc31
          refine K5 (K3 (K0 (K0 ?_)))
          have hup := hasB_true hg16
          have hid := hasB_true hg22
          have ki := (s.atB hg22).kind
          have ui := (s.atB hg22).up
          try have hbe := hasB_true hc31
          try have ub := (s.atB hc31).up
          refine K1 ?_
          refine l_y rfl rfl (y_move rfl) ?_
          refine l_y rfl rfl (y_move rfl) ?_
          refine CK [.b r, .p p] hO rfl (fun k' hx hr hO' => rParent_spec s hg (by assumption) (hO := hO')) ?_
          rintro _ _ w ⟨rfl, rfl⟩ hO
          simp only [List.cons_append, List.nil_append] at hO
          refine l_y rfl rfl (y_not rfl rfl) ?_
          refine l_y rfl rfl (y_move rfl) ?_
          refine l_split 36 rfl (fun hg36 => ?_) (fun hg36 => ?_)
          · simp only [Bool.not_eq_true', Bool.not_eq_false'] at hg36
            repeat refine M2 ?_
            refine l_y rfl rfl (y_pick_t rfl rfl) ?_
            refine l_y rfl rfl (y_move rfl) ?_
            repeat refine M2 ?_
            refine l_y rfl rfl (y_pick_t rfl rfl) ?_
            refine K2 (K3 (L8 (K0 (K1 ?_))))
            refine l_y rfl rfl (y_assign rfl) ?_
            refine K2 (K3 (K6 (K9 ?_)))
            have e : linkL A up id before = (10, A) := by
              try rw [ki] at h3_13
              try rw [ki] at h3_24
              simp [linkL, *]
            exact fin1 rfl rfl ⟨_, ⟨by rw [e], _, rfl, kerr (by rw [e]; simp)⟩, (rarL_shut hF (hO.ks [.b r, .p p, .f])).one⟩
          · simp only [Bool.not_eq_true', Bool.not_eq_false'] at hg36
            refine l_y rfl rfl (y_move rfl) ?_
            refine l_y rfl rfl (y_nilCheck rfl rfl) ?_
            refine l_y rfl rfl (y_fldb (o' := 0) rfl) ?_
            refine l_y rfl rfl (D5 hO rfl) ?_
            refine l_y rfl rfl (y_move rfl) ?_
            refine l_y rfl rfl (y_idx rfl rfl) ?_
            refine l_y rfl rfl (y_fld (j' := 0) rfl) ?_
            refine l_y rfl rfl (y_e1 (x0 := 0) hO rfl) ?_
            refine Z0 (fun h3_13 => ?_) (fun h3_13 => ?_)
            · refine l_y rfl rfl (y_pick_f rfl rfl) ?_
              refine l_y rfl rfl (y_move rfl) ?_
              repeat refine M2 ?_
              refine l_y rfl rfl (y_pick_t rfl rfl) ?_
              refine K2 (K3 (L8 (K0 (K1 ?_))))
              refine l_y rfl rfl (y_assign rfl) ?_
              refine K2 (K3 (K6 (K9 ?_)))
              have e : linkL A up id before = (10, A) := by
                try rw [ki] at h3_13
                try rw [ki] at h3_24
                simp [linkL, *]
              exact fin1 rfl rfl ⟨_, ⟨by rw [e], _, rfl, kerr (by rw [e]; simp)⟩, (rarL_shut hF (hO.ks [.b r, .p p, .f])).one⟩
            · refine l_y rfl rfl (y_pick_f rfl rfl) ?_
              refine l_y rfl rfl (y_move rfl) ?_
              refine l_y rfl rfl (y_move rfl) ?_
              refine l_y rfl rfl (y_nilCheck rfl rfl) ?_
              refine l_y rfl rfl (y_fldb (o' := 0) rfl) ?_
              refine l_y rfl rfl (D5 hO rfl) ?_
              refine l_y rfl rfl (y_move rfl) ?_
              refine l_y rfl rfl (y_idx rfl rfl) ?_
              refine l_y rfl rfl (y_fld (j' := 0) rfl) ?_
              refine l_y rfl rfl (y_e1 (x0 := 0) hO rfl) ?_
              refine Z0 (fun h3_24 => ?_) (fun h3_24 => ?_)
              · refine l_y rfl rfl (y_pick_f rfl rfl) ?_
                refine K2 (K3 (L8 (K0 (K1 ?_))))
                refine l_y rfl rfl (y_assign rfl) ?_
                refine K2 (K3 (K6 (K9 ?_)))
                have e : linkL A up id before = (10, A) := by
                  try rw [ki] at h3_13
                  try rw [ki] at h3_24
                  simp [linkL, *]
                exact fin1 rfl rfl ⟨_, ⟨by rw [e], _, rfl, kerr (by rw [e]; simp)⟩, (rarL_shut hF (hO.ks [.b r, .p p, .f])).one⟩
              · refine l_y rfl rfl (y_pick_f rfl rfl) ?_
                refine K2 (K3 (L9 (K5 (K3 (K0 (K0 (K1 ?_)))))))
                refine l_y rfl rfl (y_move rfl) ?_
                refine l_y rfl rfl (y_nilCheck rfl rfl) ?_
                refine l_y rfl rfl (y_fldb (o' := 0) rfl) ?_
                refine l_y rfl rfl (D5 hO rfl) ?_
                refine l_y rfl rfl (y_move rfl) ?_
                refine l_y rfl rfl (y_idx rfl rfl) ?_
                refine l_y rfl rfl (y_fld (j' := 8) rfl) ?_
                refine l_y rfl rfl (y_e1 (x0 := 8) hO rfl) ?_
                refine Z1 (fun h5_8 => ?_) (fun h5_8 => ?_)
                · refine l_y rfl rfl (y_move rfl) ?_
                  repeat refine M2 ?_
                  refine l_y rfl rfl (y_pick_t rfl rfl) ?_
                  refine K2 (K3 (L8 (K0 (K1 ?_))))
                  refine l_y rfl rfl (y_assign rfl) ?_
                  refine K2 (K3 (K6 (K9 ?_)))
                  have e : linkL A up id before = (11, A) := by
                    try rw [ki] at h3_13
                    try rw [ki] at h3_24
                    try rw [ui] at h5_8
                    simp [linkL, *]
                  exact fin1 rfl rfl ⟨_, ⟨by rw [e], _, rfl, kerr (by rw [e]; simp)⟩, (rarL_shut hF (hO.ks [.b r, .p p, .f])).one⟩
                · refine l_y rfl rfl (y_move rfl) ?_
                  refine l_y rfl rfl (y_move rfl) ?_
                  refine l_y rfl rfl (y_move rfl) ?_
                  refine l_y rfl rfl (y_move rfl) ?_
                  refine CK [.b r, .p p] hO rfl (fun k' hx hr hO' => rAbove_spec s hg t.rank (hO := hO')) ?_
                  rintro _ _ w ⟨rfl, rfl⟩ hO
                  simp only [List.cons_append, List.nil_append] at hO
                  refine l_y rfl rfl (y_pick_f rfl rfl) ?_
                  refine K2 (K3 ?_)
                  refine c_split rfl (fun hc72 => ?_) (fun hc72 => ?_)
                  · refine K0 (K1 ?_)
                    refine l_y rfl rfl (y_assign rfl) ?_
                    refine K2 (K3 (K6 (K9 ?_)))
                    have e : linkL A up id before = (11, A) := by
                      try rw [ki] at h3_13
                      try rw [ki] at h3_24
                      try rw [ui] at h5_8
                      simp [linkL, *]
                    exact fin1 rfl rfl ⟨_, ⟨by rw [e], _, rfl, kerr (by rw [e]; simp)⟩, (rarL_shut hF (hO.ks [.b r, .p p, .f])).one⟩
                  · refine K5 (K3 (K0 (K0 (K1 ?_))))
                    refine l_y rfl rfl (y_move rfl) ?_
                    refine Z1 (fun h7_1 => ?_) (fun h7_1 => ?_)
                    · first
                      | (exfalso; omega)
                      | skip
                        refine l_y rfl rfl (y_move rfl) ?_
                        refine l_y rfl rfl (y_move rfl) ?_
                        refine l_y rfl rfl (y_nilCheck rfl rfl) ?_
                        refine l_y rfl rfl (y_fldb (o' := 0) rfl) ?_
                        refine l_y rfl rfl (D5 hO rfl) ?_
                        refine l_y rfl rfl (y_move rfl) ?_
                        refine l_y rfl rfl (y_idx rfl rfl) ?_
                        refine l_y rfl rfl (y_fld (j' := 8) rfl) ?_
                        refine l_y rfl rfl (y_e1 (x0 := 8) hO rfl) ?_
                        refine l_y rfl rfl (y_move rfl) ?_
                        refine Z1 (fun h7_12 => ?_) (fun h7_12 => ?_)
                        · refine l_y rfl rfl (y_pick_t rfl rfl) ?_
                          refine K2 (K3 (L8 (K0 (K1 ?_))))
                          refine l_y rfl rfl (y_assign rfl) ?_
                          refine K2 (K3 (K6 (K9 ?_)))
                          have e : linkL A up id before = (1, A) := by
                            try rw [ki] at h3_13
                            try rw [ki] at h3_24
                            rw [ui] at h5_8
                            rw [ub] at h7_12
                            simp [linkL, *]
                          exact fin1 rfl rfl ⟨_, ⟨by rw [e], _, rfl, kerr (by rw [e]; simp)⟩, (rarL_shut hF (hO.ks [.b r, .p p, .f])).one⟩
                        · refine l_y rfl rfl (y_pick_t rfl rfl) ?_
                          refine K2 (K3 (L9 (K5 (K3 (K0 ?_)))))
                          have h0 : (linkL A up id before).1 = 0 := by
                            rw [ui] at h5_8
                            try rw [ub] at h7_12
                            rw [ki] at h3_13
                            try rw [ki] at h3_24
                            try rw [ki] at hc57
                            simp [linkL, *]
                          have hkk : (at_ R up.toNat).Kids.length ≤ 32768 := by
                            have := t.len (inA_iff.1 hg16)
                            rw [(s.atB hg16).kids]; omega
                          have hkids := (hF.atR (i := up.toNat) (by omega)).kids
                          have hgk := sli_gs hkids
                          have hO : Own k w (sls none 0 3 1 (eI .i64) ([] : List Int) :: _) := sl_nil 3 1 hO
                          refine K1 ?_
                          refine l_y rfl rfl (y_assign rfl) ?_
                          refine K2 (K3 (K0 (K1 ?_)))
                          refine l_y rfl rfl (y_move rfl) ?_
                          refine l_y rfl rfl (y_nilCheck rfl rfl) ?_
                          refine l_y rfl rfl (y_fldb (o' := 0) rfl) ?_
                          refine l_y rfl rfl (D5 hO rfl) ?_
                          refine l_y rfl rfl (y_move rfl) ?_
                          refine l_y rfl rfl (y_idx rfl rfl) ?_
                          refine l_y rfl rfl (y_fld (j' := 9) rfl) ?_
                          refine l_y rfl rfl (y_e1 (x0 := 9) hO rfl) ?_
                          refine l_y rfl rfl (y_assign rfl) ?_
                          refine K2 (K3 (K0 (K0 (K1 ?_))))
                          refine l_y rfl rfl (y_assign rfl) ?_
                          refine K2 (K3 (K4 ?_))
                          refine c_rounds (X := Nat × Option Addr × Nat × List Int) (fun x => [(0, .pointer (some ⟨r, 0, none⟩)), (1, .int .i64 up), (2, .int .i64 id), (3, .int .i64 before), (8, .int .i64 0), (9, .slice x.2.1 x.2.2.2.length x.2.2.1), (10, .slice (at_ R (up : Int).toNat).KidsP (at_ R (up : Int).toNat).Kids.length (at_ R (up : Int).toNat).KidsC), (11, .int .i64 (x.1 : Int))]) (fun x w => Own k w [rB r p R.length c, rS p c R, pool F, sls x.2.1 x.2.2.1 3 1 (eI .i64) x.2.2.2] ∧ (x.1 ≤ (at_ R up.toNat).Kids.length ∧ x.2.2.2 = insP id before ((at_ R up.toNat).Kids.take x.1))) (fun x => (at_ R up.toNat).Kids.length - x.1) ((0, none, 0, [])) ⟨rfl, rfl, rfl, rfl, rfl, rfl, rfl, rfl, trivial⟩ ⟨hO.only [.b r, .p p, .f, .p none], ⟨Nat.zero_le _, rfl⟩⟩ ?_
                          rintro x w m hm ⟨hO, hi⟩
                          have hxl : x.2.2.2.length ≤ 65536 := by
                            have h := insP_len (id := id) (before := before) (l := (at_ R up.toNat).Kids.take x.1)
                            rw [← hi.2, List.length_take] at h
                            omega
                          refine K0 (K0 (K1 ?_))
                          refine l_y rfl rfl (y_move rfl) ?_
                          refine l_y rfl rfl (y_move rfl) ?_
                          refine l_y rfl rfl (y_lenL rfl) ?_
                          refine Z0 (fun h12_3 => ?_) (fun h12_3 => ?_)
                          · refine K2 (K3 (L8 (K5 (K3 (K0 (K4 (K0 (K0 (K1 ?_)))))))))
                            refine l_y rfl rfl (y_move rfl) ?_
                            refine l_y rfl rfl (y_move rfl) ?_
                            refine l_y rfl rfl (y_idx rfl rfl) ?_
                            refine l_y rfl rfl (y_p1 (x0 := 0) (enc := (eI .i64)) (xs := (at_ R up.toNat).Kids) hO rfl) ?_
                            refine l_y rfl rfl (y_move rfl) ?_
                            refine Z0 (fun h14_5 => ?_) (fun h14_5 => ?_)
                            · refine K2 (K3 (L8 (K1 ?_)))
                              refine l_y rfl rfl (y_move rfl) ?_
                              refine l_y rfl rfl (y_move rfl) ?_
                              refine s_lit (parts := [(0, .tmp 108)]) (enc := (eI .i64)) [id] [.int .i64 id] hO rfl (fun b109 w hO => ?_)
                              refine s_app hO rfl rfl (src_own hO) (fun p110 c110 w hO gs110 => ?_)
                              refine l_y rfl rfl (y_assign rfl) ?_
                              refine K2 (K3 (K1 ?_))
                              refine l_y rfl rfl (y_move rfl) ?_
                              refine l_y rfl rfl (y_move rfl) ?_
                              refine l_y rfl rfl (y_move rfl) ?_
                              refine l_y rfl rfl (y_idx rfl rfl) ?_
                              refine l_y rfl rfl (y_p1 (x0 := 0) (enc := (eI .i64)) (xs := (at_ R up.toNat).Kids) hO rfl) ?_
                              refine s_lit (parts := [(0, .tmp 115)]) (enc := (eI .i64)) [(at_ (at_ R up.toNat).Kids ((x.1 : Int) : Int).toNat)] [.int .i64 (at_ (at_ R up.toNat).Kids ((x.1 : Int) : Int).toNat)] hO rfl (fun b116 w hO => ?_)
                              refine s_app hO rfl rfl (src_own hO) (fun p117 c117 w hO gs117 => ?_)
                              refine l_y rfl rfl (y_assign rfl) ?_
                              refine K2 (K8 (K3 (K1 ?_)))
                              refine l_y rfl rfl (y_move rfl) ?_
                              refine l_y rfl rfl (D4) ?_
                              refine l_y rfl rfl (y_assign rfl) ?_
                              refine K2 ?_
                              have hnl : ((x.2.2.2 ++ [id]) ++ [(at_ (at_ R up.toNat).Kids ((x.1 : Int) : Int).toNat)]) = insP id before ((at_ R up.toNat).Kids.take (x.1 + 1)) := by first | (rw [insP_succ (by omega), ← hi.2, if_pos (show at_ (at_ R up.toNat).Kids x.1 = before from h14_5)]; simp) | (rw [insP_succ (by omega), ← hi.2, if_neg (show ¬ at_ (at_ R up.toNat).Kids x.1 = before from h14_5)]; rfl)
                              exact q_next ((x.1 + 1, p117, c117, ((x.2.2.2 ++ [id]) ++ [(at_ (at_ R up.toNat).Kids ((x.1 : Int) : Int).toNat)]))) ⟨rfl, rfl, rfl, rfl, rfl, rfl, rfl, rfl, trivial⟩ ⟨hO.only [.b r, .p p, .f, .p p117], ⟨by dsimp only; omega, hnl⟩⟩ (by dsimp only; omega)
                            · refine K2 (K3 (L9 (K5 (K3 (K1 ?_)))))
                              refine l_y rfl rfl (y_move rfl) ?_
                              refine l_y rfl rfl (y_move rfl) ?_
                              refine l_y rfl rfl (y_move rfl) ?_
                              refine l_y rfl rfl (y_idx rfl rfl) ?_
                              refine l_y rfl rfl (y_p1 (x0 := 0) (enc := (eI .i64)) (xs := (at_ R up.toNat).Kids) hO rfl) ?_
                              refine s_lit (parts := [(0, .tmp 115)]) (enc := (eI .i64)) [(at_ (at_ R up.toNat).Kids ((x.1 : Int) : Int).toNat)] [.int .i64 (at_ (at_ R up.toNat).Kids ((x.1 : Int) : Int).toNat)] hO rfl (fun b116 w hO => ?_)
                              refine s_app hO rfl rfl (src_own hO) (fun p117 c117 w hO gs117 => ?_)
                              refine l_y rfl rfl (y_assign rfl) ?_
                              refine K2 (K8 (K3 (K1 ?_)))
                              refine l_y rfl rfl (y_move rfl) ?_
                              refine l_y rfl rfl (D4) ?_
                              refine l_y rfl rfl (y_assign rfl) ?_
                              refine K2 ?_
                              have hnl : (x.2.2.2 ++ [(at_ (at_ R up.toNat).Kids ((x.1 : Int) : Int).toNat)]) = insP id before ((at_ R up.toNat).Kids.take (x.1 + 1)) := by first | (rw [insP_succ (by omega), ← hi.2, if_pos (show at_ (at_ R up.toNat).Kids x.1 = before from h14_5)]; simp) | (rw [insP_succ (by omega), ← hi.2, if_neg (show ¬ at_ (at_ R up.toNat).Kids x.1 = before from h14_5)]; rfl)
                              exact q_next ((x.1 + 1, p117, c117, (x.2.2.2 ++ [(at_ (at_ R up.toNat).Kids ((x.1 : Int) : Int).toNat)]))) ⟨rfl, rfl, rfl, rfl, rfl, rfl, rfl, rfl, trivial⟩ ⟨hO.only [.b r, .p p, .f, .p p117], ⟨by dsimp only; omega, hnl⟩⟩ (by dsimp only; omega)
                          · refine K2 (K3 (L9 (K7 (L1 (L1 (L2 (K3 (K0 (K0 ?_)))))))))
                            have hxe : x.2.2.2 = insP id before (at_ R up.toNat).Kids := by rw [hi.2, List.take_of_length_le (by omega)]
                            refine K1 ?_
                            refine l_y rfl rfl (y_move rfl) ?_
                            refine Z0 (fun h17_1 => ?_) (fun h17_1 => ?_)
                            · first
                              | (exfalso; omega)
                              | skip
                                refine K2 (K3 (L8 (K1 ?_)))
                                refine l_y rfl rfl (y_move rfl) ?_
                                refine l_y rfl rfl (y_move rfl) ?_
                                refine s_lit (parts := [(0, .tmp 121)]) (enc := (eI .i64)) [id] [.int .i64 id] hO rfl (fun b122 w hO => ?_)
                                refine s_app hO rfl rfl (src_own hO) (fun p123 c123 w hO gs123 => ?_)
                                refine l_y rfl rfl (y_assign rfl) ?_
                                refine K2 (K3 (K0 ?_))
                                have hrow : (x.2.2.2 ++ [id]) = insB id before (at_ R up.toNat).Kids := by
                                  rw [insB_P, ← hxe]
                                  first | rw [if_pos h17_1] | rw [if_neg h17_1, List.append_nil]
                                obtain ⟨F2, hle, hO, hsa⟩ := (hO.ks [.p p123, .f]).pooled
                                refine K1 ?_
                                refine l_y rfl rfl (y_move rfl) ?_
                                refine l_y rfl rfl (y_nilCheck rfl rfl) ?_
                                refine l_y rfl rfl (y_fldb (o' := 0) rfl) ?_
                                refine l_y rfl rfl (D5 hO rfl) ?_
                                refine l_y rfl rfl (y_move rfl) ?_
                                refine l_y rfl rfl (y_move rfl) ?_
                                refine l_y rfl rfl (y_idx rfl rfl) ?_
                                refine l_y rfl rfl (y_fld (j' := 9) rfl) ?_
                                refine s_e1 (x0 := 9) hO rfl rfl (fun w hO => ?_)
                                refine K2 (K3 (K0 (K1 ?_)))
                                refine l_y rfl rfl (y_move rfl) ?_
                                refine l_y rfl rfl (y_nilCheck rfl rfl) ?_
                                refine l_y rfl rfl (y_fldb (o' := 0) rfl) ?_
                                refine l_y rfl rfl (D5 hO rfl) ?_
                                refine l_y rfl rfl (y_move rfl) ?_
                                refine l_y rfl rfl (y_move rfl) ?_
                                refine l_y rfl rfl (y_idx rfl rfl) ?_
                                refine l_y rfl rfl (y_fld (j' := 8) rfl) ?_
                                refine s_e1 (x0 := 8) hO rfl rfl (fun w hO => ?_)
                                refine K2 (K3 (K0 (K1 ?_)))
                                refine l_y rfl rfl (y_assign rfl) ?_
                                refine K2 (K3 (K6 ?_))
                                refine fin1 rfl rfl ⟨_, ⟨by rw [h0], _, rfl, ?_⟩, (rarL_shut ?_ (hO.ks [.b r, .p p, .f]) ?_).one⟩
                                · rw [linkKs, if_pos h0]; exact Sim.link' t s h0 hrow
                                · exact RF.up (RF.kids (hF.le hle) (by omega) hsa) (by rw [setKidsR_len]; omega)
                                · simp
                            · first
                              | (exfalso; omega)
                              | skip
                                refine K2 (K3 (L9 (K5 (K3 (K0 ?_)))))
                                have hrow : x.2.2.2 = insB id before (at_ R up.toNat).Kids := by
                                  rw [insB_P, ← hxe]
                                  first | rw [if_pos h17_1] | rw [if_neg h17_1, List.append_nil]
                                obtain ⟨F2, hle, hO, hsa⟩ := (hO.ks [.p x.2.1, .f]).pooled
                                refine K1 ?_
                                refine l_y rfl rfl (y_move rfl) ?_
                                refine l_y rfl rfl (y_nilCheck rfl rfl) ?_
                                refine l_y rfl rfl (y_fldb (o' := 0) rfl) ?_
                                refine l_y rfl rfl (D5 hO rfl) ?_
                                refine l_y rfl rfl (y_move rfl) ?_
                                refine l_y rfl rfl (y_move rfl) ?_
                                refine l_y rfl rfl (y_idx rfl rfl) ?_
                                refine l_y rfl rfl (y_fld (j' := 9) rfl) ?_
                                refine s_e1 (x0 := 9) hO rfl rfl (fun w hO => ?_)
                                refine K2 (K3 (K0 (K1 ?_)))
                                refine l_y rfl rfl (y_move rfl) ?_
                                refine l_y rfl rfl (y_nilCheck rfl rfl) ?_
                                refine l_y rfl rfl (y_fldb (o' := 0) rfl) ?_
                                refine l_y rfl rfl (D5 hO rfl) ?_
                                refine l_y rfl rfl (y_move rfl) ?_
                                refine l_y rfl rfl (y_move rfl) ?_
                                refine l_y rfl rfl (y_idx rfl rfl) ?_
                                refine l_y rfl rfl (y_fld (j' := 8) rfl) ?_
                                refine s_e1 (x0 := 8) hO rfl rfl (fun w hO => ?_)
                                refine K2 (K3 (K0 (K1 ?_)))
                                refine l_y rfl rfl (y_assign rfl) ?_
                                refine K2 (K3 (K6 ?_))
                                refine fin1 rfl rfl ⟨_, ⟨by rw [h0], _, rfl, ?_⟩, (rarL_shut ?_ (hO.ks [.b r, .p p, .f]) ?_).one⟩
                                · rw [linkKs, if_pos h0]; exact Sim.link' t s h0 hrow
                                · exact RF.up (RF.kids (hF.le hle) (by omega) hsa) (by rw [setKidsR_len]; omega)
                                · simp
                    · first
                      | (exfalso; omega)
                      | skip
                        refine l_y rfl rfl (y_move rfl) ?_
                        repeat refine M2 ?_
                        refine l_y rfl rfl (y_pick_f rfl rfl) ?_
                        refine K2 (K3 (L9 (K5 (K3 (K0 ?_)))))
                        have h0 : (linkL A up id before).1 = 0 := by
                          rw [ui] at h5_8
                          try rw [ub] at h7_12
                          rw [ki] at h3_13
                          try rw [ki] at h3_24
                          try rw [ki] at hc57
                          simp [linkL, *]
                        have hkk : (at_ R up.toNat).Kids.length ≤ 32768 := by
                          have := t.len (inA_iff.1 hg16)
                          rw [(s.atB hg16).kids]; omega
                        have hkids := (hF.atR (i := up.toNat) (by omega)).kids
                        have hgk := sli_gs hkids
                        have hO : Own k w (sls none 0 3 1 (eI .i64) ([] : List Int) :: _) := sl_nil 3 1 hO
                        refine K1 ?_
                        refine l_y rfl rfl (y_assign rfl) ?_
                        refine K2 (K3 (K0 (K1 ?_)))
                        refine l_y rfl rfl (y_move rfl) ?_
                        refine l_y rfl rfl (y_nilCheck rfl rfl) ?_
                        refine l_y rfl rfl (y_fldb (o' := 0) rfl) ?_
                        refine l_y rfl rfl (D5 hO rfl) ?_
                        refine l_y rfl rfl (y_move rfl) ?_
                        refine l_y rfl rfl (y_idx rfl rfl) ?_
                        refine l_y rfl rfl (y_fld (j' := 9) rfl) ?_
                        refine l_y rfl rfl (y_e1 (x0 := 9) hO rfl) ?_
                        refine l_y rfl rfl (y_assign rfl) ?_
                        refine K2 (K3 (K0 (K0 (K1 ?_))))
                        refine l_y rfl rfl (y_assign rfl) ?_
                        refine K2 (K3 (K4 ?_))
                        refine c_rounds (X := Nat × Option Addr × Nat × List Int) (fun x => [(0, .pointer (some ⟨r, 0, none⟩)), (1, .int .i64 up), (2, .int .i64 id), (3, .int .i64 before), (8, .int .i64 0), (9, .slice x.2.1 x.2.2.2.length x.2.2.1), (10, .slice (at_ R (up : Int).toNat).KidsP (at_ R (up : Int).toNat).Kids.length (at_ R (up : Int).toNat).KidsC), (11, .int .i64 (x.1 : Int))]) (fun x w => Own k w [rB r p R.length c, rS p c R, pool F, sls x.2.1 x.2.2.1 3 1 (eI .i64) x.2.2.2] ∧ (x.1 ≤ (at_ R up.toNat).Kids.length ∧ x.2.2.2 = insP id before ((at_ R up.toNat).Kids.take x.1))) (fun x => (at_ R up.toNat).Kids.length - x.1) ((0, none, 0, [])) ⟨rfl, rfl, rfl, rfl, rfl, rfl, rfl, rfl, trivial⟩ ⟨hO.only [.b r, .p p, .f, .p none], ⟨Nat.zero_le _, rfl⟩⟩ ?_
                        rintro x w m hm ⟨hO, hi⟩
                        have hxl : x.2.2.2.length ≤ 65536 := by
                          have h := insP_len (id := id) (before := before) (l := (at_ R up.toNat).Kids.take x.1)
                          rw [← hi.2, List.length_take] at h
                          omega
                        refine K0 (K0 (K1 ?_))
                        refine l_y rfl rfl (y_move rfl) ?_
                        refine l_y rfl rfl (y_move rfl) ?_
                        refine l_y rfl rfl (y_lenL rfl) ?_
                        refine Z0 (fun h12_3 => ?_) (fun h12_3 => ?_)
                        · refine K2 (K3 (L8 (K5 (K3 (K0 (K4 (K0 (K0 (K1 ?_)))))))))
                          refine l_y rfl rfl (y_move rfl) ?_
                          refine l_y rfl rfl (y_move rfl) ?_
                          refine l_y rfl rfl (y_idx rfl rfl) ?_
                          refine l_y rfl rfl (y_p1 (x0 := 0) (enc := (eI .i64)) (xs := (at_ R up.toNat).Kids) hO rfl) ?_
                          refine l_y rfl rfl (y_move rfl) ?_
                          refine Z0 (fun h14_5 => ?_) (fun h14_5 => ?_)
                          · refine K2 (K3 (L8 (K1 ?_)))
                            refine l_y rfl rfl (y_move rfl) ?_
                            refine l_y rfl rfl (y_move rfl) ?_
                            refine s_lit (parts := [(0, .tmp 108)]) (enc := (eI .i64)) [id] [.int .i64 id] hO rfl (fun b109 w hO => ?_)
                            refine s_app hO rfl rfl (src_own hO) (fun p110 c110 w hO gs110 => ?_)
                            refine l_y rfl rfl (y_assign rfl) ?_
                            refine K2 (K3 (K1 ?_))
                            refine l_y rfl rfl (y_move rfl) ?_
                            refine l_y rfl rfl (y_move rfl) ?_
                            refine l_y rfl rfl (y_move rfl) ?_
                            refine l_y rfl rfl (y_idx rfl rfl) ?_
                            refine l_y rfl rfl (y_p1 (x0 := 0) (enc := (eI .i64)) (xs := (at_ R up.toNat).Kids) hO rfl) ?_
                            refine s_lit (parts := [(0, .tmp 115)]) (enc := (eI .i64)) [(at_ (at_ R up.toNat).Kids ((x.1 : Int) : Int).toNat)] [.int .i64 (at_ (at_ R up.toNat).Kids ((x.1 : Int) : Int).toNat)] hO rfl (fun b116 w hO => ?_)
                            refine s_app hO rfl rfl (src_own hO) (fun p117 c117 w hO gs117 => ?_)
                            refine l_y rfl rfl (y_assign rfl) ?_
                            refine K2 (K8 (K3 (K1 ?_)))
                            refine l_y rfl rfl (y_move rfl) ?_
                            refine l_y rfl rfl (D4) ?_
                            refine l_y rfl rfl (y_assign rfl) ?_
                            refine K2 ?_
                            have hnl : ((x.2.2.2 ++ [id]) ++ [(at_ (at_ R up.toNat).Kids ((x.1 : Int) : Int).toNat)]) = insP id before ((at_ R up.toNat).Kids.take (x.1 + 1)) := by first | (rw [insP_succ (by omega), ← hi.2, if_pos (show at_ (at_ R up.toNat).Kids x.1 = before from h14_5)]; simp) | (rw [insP_succ (by omega), ← hi.2, if_neg (show ¬ at_ (at_ R up.toNat).Kids x.1 = before from h14_5)]; rfl)
                            exact q_next ((x.1 + 1, p117, c117, ((x.2.2.2 ++ [id]) ++ [(at_ (at_ R up.toNat).Kids ((x.1 : Int) : Int).toNat)]))) ⟨rfl, rfl, rfl, rfl, rfl, rfl, rfl, rfl, trivial⟩ ⟨hO.only [.b r, .p p, .f, .p p117], ⟨by dsimp only; omega, hnl⟩⟩ (by dsimp only; omega)
                          · refine K2 (K3 (L9 (K5 (K3 (K1 ?_)))))
                            refine l_y rfl rfl (y_move rfl) ?_
                            refine l_y rfl rfl (y_move rfl) ?_
                            refine l_y rfl rfl (y_move rfl) ?_
                            refine l_y rfl rfl (y_idx rfl rfl) ?_
                            refine l_y rfl rfl (y_p1 (x0 := 0) (enc := (eI .i64)) (xs := (at_ R up.toNat).Kids) hO rfl) ?_
                            refine s_lit (parts := [(0, .tmp 115)]) (enc := (eI .i64)) [(at_ (at_ R up.toNat).Kids ((x.1 : Int) : Int).toNat)] [.int .i64 (at_ (at_ R up.toNat).Kids ((x.1 : Int) : Int).toNat)] hO rfl (fun b116 w hO => ?_)
                            refine s_app hO rfl rfl (src_own hO) (fun p117 c117 w hO gs117 => ?_)
                            refine l_y rfl rfl (y_assign rfl) ?_
                            refine K2 (K8 (K3 (K1 ?_)))
                            refine l_y rfl rfl (y_move rfl) ?_
                            refine l_y rfl rfl (D4) ?_
                            refine l_y rfl rfl (y_assign rfl) ?_
                            refine K2 ?_
                            have hnl : (x.2.2.2 ++ [(at_ (at_ R up.toNat).Kids ((x.1 : Int) : Int).toNat)]) = insP id before ((at_ R up.toNat).Kids.take (x.1 + 1)) := by first | (rw [insP_succ (by omega), ← hi.2, if_pos (show at_ (at_ R up.toNat).Kids x.1 = before from h14_5)]; simp) | (rw [insP_succ (by omega), ← hi.2, if_neg (show ¬ at_ (at_ R up.toNat).Kids x.1 = before from h14_5)]; rfl)
                            exact q_next ((x.1 + 1, p117, c117, (x.2.2.2 ++ [(at_ (at_ R up.toNat).Kids ((x.1 : Int) : Int).toNat)]))) ⟨rfl, rfl, rfl, rfl, rfl, rfl, rfl, rfl, trivial⟩ ⟨hO.only [.b r, .p p, .f, .p p117], ⟨by dsimp only; omega, hnl⟩⟩ (by dsimp only; omega)
                        · refine K2 (K3 (L9 (K7 (L1 (L1 (L2 (K3 (K0 (K0 ?_)))))))))
                          have hxe : x.2.2.2 = insP id before (at_ R up.toNat).Kids := by rw [hi.2, List.take_of_length_le (by omega)]
                          refine K1 ?_
                          refine l_y rfl rfl (y_move rfl) ?_
                          refine Z0 (fun h17_1 => ?_) (fun h17_1 => ?_)
                          · first
                            | (exfalso; omega)
                            | skip
                              refine K2 (K3 (L8 (K1 ?_)))
                              refine l_y rfl rfl (y_move rfl) ?_
                              refine l_y rfl rfl (y_move rfl) ?_
                              refine s_lit (parts := [(0, .tmp 121)]) (enc := (eI .i64)) [id] [.int .i64 id] hO rfl (fun b122 w hO => ?_)
                              refine s_app hO rfl rfl (src_own hO) (fun p123 c123 w hO gs123 => ?_)
                              refine l_y rfl rfl (y_assign rfl) ?_
                              refine K2 (K3 (K0 ?_))
                              have hrow : (x.2.2.2 ++ [id]) = insB id before (at_ R up.toNat).Kids := by
                                rw [insB_P, ← hxe]
                                first | rw [if_pos h17_1] | rw [if_neg h17_1, List.append_nil]
                              obtain ⟨F2, hle, hO, hsa⟩ := (hO.ks [.p p123, .f]).pooled
                              refine K1 ?_
                              refine l_y rfl rfl (y_move rfl) ?_
                              refine l_y rfl rfl (y_nilCheck rfl rfl) ?_
                              refine l_y rfl rfl (y_fldb (o' := 0) rfl) ?_
                              refine l_y rfl rfl (D5 hO rfl) ?_
                              refine l_y rfl rfl (y_move rfl) ?_
                              refine l_y rfl rfl (y_move rfl) ?_
                              refine l_y rfl rfl (y_idx rfl rfl) ?_
                              refine l_y rfl rfl (y_fld (j' := 9) rfl) ?_
                              refine s_e1 (x0 := 9) hO rfl rfl (fun w hO => ?_)
                              refine K2 (K3 (K0 (K1 ?_)))
                              refine l_y rfl rfl (y_move rfl) ?_
                              refine l_y rfl rfl (y_nilCheck rfl rfl) ?_
                              refine l_y rfl rfl (y_fldb (o' := 0) rfl) ?_
                              refine l_y rfl rfl (D5 hO rfl) ?_
                              refine l_y rfl rfl (y_move rfl) ?_
                              refine l_y rfl rfl (y_move rfl) ?_
                              refine l_y rfl rfl (y_idx rfl rfl) ?_
                              refine l_y rfl rfl (y_fld (j' := 8) rfl) ?_
                              refine s_e1 (x0 := 8) hO rfl rfl (fun w hO => ?_)
                              refine K2 (K3 (K0 (K1 ?_)))
                              refine l_y rfl rfl (y_assign rfl) ?_
                              refine K2 (K3 (K6 ?_))
                              refine fin1 rfl rfl ⟨_, ⟨by rw [h0], _, rfl, ?_⟩, (rarL_shut ?_ (hO.ks [.b r, .p p, .f]) ?_).one⟩
                              · rw [linkKs, if_pos h0]; exact Sim.link' t s h0 hrow
                              · exact RF.up (RF.kids (hF.le hle) (by omega) hsa) (by rw [setKidsR_len]; omega)
                              · simp
                          · first
                            | (exfalso; omega)
                            | skip
                              refine K2 (K3 (L9 (K5 (K3 (K0 ?_)))))
                              have hrow : x.2.2.2 = insB id before (at_ R up.toNat).Kids := by
                                rw [insB_P, ← hxe]
                                first | rw [if_pos h17_1] | rw [if_neg h17_1, List.append_nil]
                              obtain ⟨F2, hle, hO, hsa⟩ := (hO.ks [.p x.2.1, .f]).pooled
                              refine K1 ?_
                              refine l_y rfl rfl (y_move rfl) ?_
                              refine l_y rfl rfl (y_nilCheck rfl rfl) ?_
                              refine l_y rfl rfl (y_fldb (o' := 0) rfl) ?_
                              refine l_y rfl rfl (D5 hO rfl) ?_
                              refine l_y rfl rfl (y_move rfl) ?_
                              refine l_y rfl rfl (y_move rfl) ?_
                              refine l_y rfl rfl (y_idx rfl rfl) ?_
                              refine l_y rfl rfl (y_fld (j' := 9) rfl) ?_
                              refine s_e1 (x0 := 9) hO rfl rfl (fun w hO => ?_)
                              refine K2 (K3 (K0 (K1 ?_)))
                              refine l_y rfl rfl (y_move rfl) ?_
                              refine l_y rfl rfl (y_nilCheck rfl rfl) ?_
                              refine l_y rfl rfl (y_fldb (o' := 0) rfl) ?_
                              refine l_y rfl rfl (D5 hO rfl) ?_
                              refine l_y rfl rfl (y_move rfl) ?_
                              refine l_y rfl rfl (y_move rfl) ?_
                              refine l_y rfl rfl (y_idx rfl rfl) ?_
                              refine l_y rfl rfl (y_fld (j' := 8) rfl) ?_
                              refine s_e1 (x0 := 8) hO rfl rfl (fun w hO => ?_)
                              refine K2 (K3 (K0 (K1 ?_)))
                              refine l_y rfl rfl (y_assign rfl) ?_
                              refine K2 (K3 (K6 ?_))
                              refine fin1 rfl rfl ⟨_, ⟨by rw [h0], _, rfl, ?_⟩, (rarL_shut ?_ (hO.ks [.b r, .p p, .f]) ?_).one⟩
                              · rw [linkKs, if_pos h0]; exact Sim.link' t s h0 hrow
                              · exact RF.up (RF.kids (hF.le hle) (by omega) hsa) (by rw [setKidsR_len]; omega)
                              · simp
      · refine l_y rfl rfl (y_move rfl) ?_
        repeat refine M2 ?_
        refine l_y rfl rfl (y_pick_f rfl rfl) ?_
        refine l_y rfl rfl (y_pick_f rfl rfl) ?_
        refine K2 (K3 (L9 (K5 (K3 (K0 (K0 ?_))))))
        have hup := hasB_true hg16
        have hid := hasB_true hg22
        have ki := (s.atB hg22).kind
        have ui := (s.atB hg22).up
        try have hbe := hasB_true hc31
        try have ub := (s.atB hc31).up
        refine K1 ?_
        refine l_y rfl rfl (y_move rfl) ?_
        refine l_y rfl rfl (y_move rfl) ?_
        refine CK [.b r, .p p] hO rfl (fun k' hx hr hO' => rParent_spec s hg (by assumption) (hO := hO')) ?_
        rintro _ _ w ⟨rfl, rfl⟩ hO
        simp only [List.cons_append, List.nil_append] at hO
        refine l_y rfl rfl (y_not rfl rfl) ?_
        refine l_y rfl rfl (y_move rfl) ?_
        refine l_split 36 rfl (fun hg36 => ?_) (fun hg36 => ?_)
        · simp only [Bool.not_eq_true', Bool.not_eq_false'] at hg36
          repeat refine M2 ?_
          refine l_y rfl rfl (y_pick_t rfl rfl) ?_
          refine l_y rfl rfl (y_move rfl) ?_
          repeat refine M2 ?_
          refine l_y rfl rfl (y_pick_t rfl rfl) ?_
          refine K2 (K3 (L8 (K0 (K1 ?_))))
          refine l_y rfl rfl (y_assign rfl) ?_
          refine K2 (K3 (K6 (K9 ?_)))
          have e : linkL A up id before = (10, A) := by
            try rw [ki] at h3_13
            try rw [ki] at h3_24
            simp [linkL, *]
          exact fin1 rfl rfl ⟨_, ⟨by rw [e], _, rfl, kerr (by rw [e]; simp)⟩, (rarL_shut hF (hO.ks [.b r, .p p, .f])).one⟩
        · simp only [Bool.not_eq_true', Bool.not_eq_false'] at hg36
          refine l_y rfl rfl (y_move rfl) ?_
          refine l_y rfl rfl (y_nilCheck rfl rfl) ?_
          refine l_y rfl rfl (y_fldb (o' := 0) rfl) ?_
          refine l_y rfl rfl (D5 hO rfl) ?_
          refine l_y rfl rfl (y_move rfl) ?_
          refine l_y rfl rfl (y_idx rfl rfl) ?_
          refine l_y rfl rfl (y_fld (j' := 0) rfl) ?_
          refine l_y rfl rfl (y_e1 (x0 := 0) hO rfl) ?_
          refine Z0 (fun h3_13 => ?_) (fun h3_13 => ?_)
          · refine l_y rfl rfl (y_pick_f rfl rfl) ?_
            refine l_y rfl rfl (y_move rfl) ?_
            repeat refine M2 ?_
            refine l_y rfl rfl (y_pick_t rfl rfl) ?_
            refine K2 (K3 (L8 (K0 (K1 ?_))))
            refine l_y rfl rfl (y_assign rfl) ?_
            refine K2 (K3 (K6 (K9 ?_)))
            have e : linkL A up id before = (10, A) := by
              try rw [ki] at h3_13
              try rw [ki] at h3_24
              simp [linkL, *]
            exact fin1 rfl rfl ⟨_, ⟨by rw [e], _, rfl, kerr (by rw [e]; simp)⟩, (rarL_shut hF (hO.ks [.b r, .p p, .f])).one⟩
          · refine l_y rfl rfl (y_pick_f rfl rfl) ?_
            refine l_y rfl rfl (y_move rfl) ?_
            refine l_y rfl rfl (y_move rfl) ?_
            refine l_y rfl rfl (y_nilCheck rfl rfl) ?_
            refine l_y rfl rfl (y_fldb (o' := 0) rfl) ?_
            refine l_y rfl rfl (D5 hO rfl) ?_
            refine l_y rfl rfl (y_move rfl) ?_
            refine l_y rfl rfl (y_idx rfl rfl) ?_
            refine l_y rfl rfl (y_fld (j' := 0) rfl) ?_
            refine l_y rfl rfl (y_e1 (x0 := 0) hO rfl) ?_
            refine Z0 (fun h3_24 => ?_) (fun h3_24 => ?_)
            · refine l_y rfl rfl (y_pick_f rfl rfl) ?_
              refine K2 (K3 (L8 (K0 (K1 ?_))))
              refine l_y rfl rfl (y_assign rfl) ?_
              refine K2 (K3 (K6 (K9 ?_)))
              have e : linkL A up id before = (10, A) := by
                try rw [ki] at h3_13
                try rw [ki] at h3_24
                simp [linkL, *]
              exact fin1 rfl rfl ⟨_, ⟨by rw [e], _, rfl, kerr (by rw [e]; simp)⟩, (rarL_shut hF (hO.ks [.b r, .p p, .f])).one⟩
            · refine l_y rfl rfl (y_pick_f rfl rfl) ?_
              refine K2 (K3 (L9 (K5 (K3 (K0 (K0 (K1 ?_)))))))
              refine l_y rfl rfl (y_move rfl) ?_
              refine l_y rfl rfl (y_nilCheck rfl rfl) ?_
              refine l_y rfl rfl (y_fldb (o' := 0) rfl) ?_
              refine l_y rfl rfl (D5 hO rfl) ?_
              refine l_y rfl rfl (y_move rfl) ?_
              refine l_y rfl rfl (y_idx rfl rfl) ?_
              refine l_y rfl rfl (y_fld (j' := 8) rfl) ?_
              refine l_y rfl rfl (y_e1 (x0 := 8) hO rfl) ?_
              refine Z1 (fun h5_8 => ?_) (fun h5_8 => ?_)
              · refine l_y rfl rfl (y_move rfl) ?_
                repeat refine M2 ?_
                refine l_y rfl rfl (y_pick_t rfl rfl) ?_
                refine K2 (K3 (L8 (K0 (K1 ?_))))
                refine l_y rfl rfl (y_assign rfl) ?_
                refine K2 (K3 (K6 (K9 ?_)))
                have e : linkL A up id before = (11, A) := by
                  try rw [ki] at h3_13
                  try rw [ki] at h3_24
                  try rw [ui] at h5_8
                  simp [linkL, *]
                exact fin1 rfl rfl ⟨_, ⟨by rw [e], _, rfl, kerr (by rw [e]; simp)⟩, (rarL_shut hF (hO.ks [.b r, .p p, .f])).one⟩
              · refine l_y rfl rfl (y_move rfl) ?_
                refine l_y rfl rfl (y_move rfl) ?_
                refine l_y rfl rfl (y_move rfl) ?_
                refine l_y rfl rfl (y_move rfl) ?_
                refine CK [.b r, .p p] hO rfl (fun k' hx hr hO' => rAbove_spec s hg t.rank (hO := hO')) ?_
                rintro _ _ w ⟨rfl, rfl⟩ hO
                simp only [List.cons_append, List.nil_append] at hO
                refine l_y rfl rfl (y_pick_f rfl rfl) ?_
                refine K2 (K3 ?_)
                refine c_split rfl (fun hc72 => ?_) (fun hc72 => ?_)
                · refine K0 (K1 ?_)
                  refine l_y rfl rfl (y_assign rfl) ?_
                  refine K2 (K3 (K6 (K9 ?_)))
                  have e : linkL A up id before = (11, A) := by
                    try rw [ki] at h3_13
                    try rw [ki] at h3_24
                    try rw [ui] at h5_8
                    simp [linkL, *]
                  exact fin1 rfl rfl ⟨_, ⟨by rw [e], _, rfl, kerr (by rw [e]; simp)⟩, (rarL_shut hF (hO.ks [.b r, .p p, .f])).one⟩
                · refine K5 (K3 (K0 (K0 (K1 ?_))))
                  refine l_y rfl rfl (y_move rfl) ?_
                  refine Z1 (fun h7_1 => ?_) (fun h7_1 => ?_)
                  · first
                    | (exfalso; omega)
                    | skip
                      refine l_y rfl rfl (y_move rfl) ?_
                      refine l_y rfl rfl (y_move rfl) ?_
                      refine l_y rfl rfl (y_nilCheck rfl rfl) ?_
                      refine l_y rfl rfl (y_fldb (o' := 0) rfl) ?_
                      refine l_y rfl rfl (D5 hO rfl) ?_
                      refine l_y rfl rfl (y_move rfl) ?_
                      refine l_y rfl rfl (y_idx rfl rfl) ?_
                      refine l_y rfl rfl (y_fld (j' := 8) rfl) ?_
                      refine l_y rfl rfl (y_e1 (x0 := 8) hO rfl) ?_
                      refine l_y rfl rfl (y_move rfl) ?_
                      refine Z1 (fun h7_12 => ?_) (fun h7_12 => ?_)
                      · refine l_y rfl rfl (y_pick_t rfl rfl) ?_
                        refine K2 (K3 (L8 (K0 (K1 ?_))))
                        refine l_y rfl rfl (y_assign rfl) ?_
                        refine K2 (K3 (K6 (K9 ?_)))
                        have e : linkL A up id before = (1, A) := by
                          try rw [ki] at h3_13
                          try rw [ki] at h3_24
                          rw [ui] at h5_8
                          rw [ub] at h7_12
                          simp [linkL, *]
                        exact fin1 rfl rfl ⟨_, ⟨by rw [e], _, rfl, kerr (by rw [e]; simp)⟩, (rarL_shut hF (hO.ks [.b r, .p p, .f])).one⟩
                      · refine l_y rfl rfl (y_pick_t rfl rfl) ?_
                        refine K2 (K3 (L9 (K5 (K3 (K0 ?_)))))
                        have h0 : (linkL A up id before).1 = 0 := by
                          rw [ui] at h5_8
                          try rw [ub] at h7_12
                          rw [ki] at h3_13
                          try rw [ki] at h3_24
                          try rw [ki] at hc57
                          simp [linkL, *]
                        have hkk : (at_ R up.toNat).Kids.length ≤ 32768 := by
                          have := t.len (inA_iff.1 hg16)
                          rw [(s.atB hg16).kids]; omega
                        have hkids := (hF.atR (i := up.toNat) (by omega)).kids
                        have hgk := sli_gs hkids
                        have hO : Own k w (sls none 0 3 1 (eI .i64) ([] : List Int) :: _) := sl_nil 3 1 hO
                        refine K1 ?_
                        refine l_y rfl rfl (y_assign rfl) ?_
                        refine K2 (K3 (K0 (K1 ?_)))
                        refine l_y rfl rfl (y_move rfl) ?_
                        refine l_y rfl rfl (y_nilCheck rfl rfl) ?_
                        refine l_y rfl rfl (y_fldb (o' := 0) rfl) ?_
                        refine l_y rfl rfl (D5 hO rfl) ?_
                        refine l_y rfl rfl (y_move rfl) ?_
                        refine l_y rfl rfl (y_idx rfl rfl) ?_
                        refine l_y rfl rfl (y_fld (j' := 9) rfl) ?_
                        refine l_y rfl rfl (y_e1 (x0 := 9) hO rfl) ?_
                        refine l_y rfl rfl (y_assign rfl) ?_
                        refine K2 (K3 (K0 (K0 (K1 ?_))))
                        refine l_y rfl rfl (y_assign rfl) ?_
                        refine K2 (K3 (K4 ?_))
                        refine c_rounds (X := Nat × Option Addr × Nat × List Int) (fun x => [(0, .pointer (some ⟨r, 0, none⟩)), (1, .int .i64 up), (2, .int .i64 id), (3, .int .i64 before), (8, .int .i64 0), (9, .slice x.2.1 x.2.2.2.length x.2.2.1), (10, .slice (at_ R (up : Int).toNat).KidsP (at_ R (up : Int).toNat).Kids.length (at_ R (up : Int).toNat).KidsC), (11, .int .i64 (x.1 : Int))]) (fun x w => Own k w [rB r p R.length c, rS p c R, pool F, sls x.2.1 x.2.2.1 3 1 (eI .i64) x.2.2.2] ∧ (x.1 ≤ (at_ R up.toNat).Kids.length ∧ x.2.2.2 = insP id before ((at_ R up.toNat).Kids.take x.1))) (fun x => (at_ R up.toNat).Kids.length - x.1) ((0, none, 0, [])) ⟨rfl, rfl, rfl, rfl, rfl, rfl, rfl, rfl, trivial⟩ ⟨hO.only [.b r, .p p, .f, .p none], ⟨Nat.zero_le _, rfl⟩⟩ ?_
                        rintro x w m hm ⟨hO, hi⟩
                        have hxl : x.2.2.2.length ≤ 65536 := by
                          have h := insP_len (id := id) (before := before) (l := (at_ R up.toNat).Kids.take x.1)
                          rw [← hi.2, List.length_take] at h
                          omega
                        refine K0 (K0 (K1 ?_))
                        refine l_y rfl rfl (y_move rfl) ?_
                        refine l_y rfl rfl (y_move rfl) ?_
                        refine l_y rfl rfl (y_lenL rfl) ?_
                        refine Z0 (fun h12_3 => ?_) (fun h12_3 => ?_)
                        · refine K2 (K3 (L8 (K5 (K3 (K0 (K4 (K0 (K0 (K1 ?_)))))))))
                          refine l_y rfl rfl (y_move rfl) ?_
                          refine l_y rfl rfl (y_move rfl) ?_
                          refine l_y rfl rfl (y_idx rfl rfl) ?_
                          refine l_y rfl rfl (y_p1 (x0 := 0) (enc := (eI .i64)) (xs := (at_ R up.toNat).Kids) hO rfl) ?_
                          refine l_y rfl rfl (y_move rfl) ?_
                          refine Z0 (fun h14_5 => ?_) (fun h14_5 => ?_)
                          · refine K2 (K3 (L8 (K1 ?_)))
                            refine l_y rfl rfl (y_move rfl) ?_
                            refine l_y rfl rfl (y_move rfl) ?_
                            refine s_lit (parts := [(0, .tmp 108)]) (enc := (eI .i64)) [id] [.int .i64 id] hO rfl (fun b109 w hO => ?_)
                            refine s_app hO rfl rfl (src_own hO) (fun p110 c110 w hO gs110 => ?_)
                            refine l_y rfl rfl (y_assign rfl) ?_
                            refine K2 (K3 (K1 ?_))
                            refine l_y rfl rfl (y_move rfl) ?_
                            refine l_y rfl rfl (y_move rfl) ?_
                            refine l_y rfl rfl (y_move rfl) ?_
                            refine l_y rfl rfl (y_idx rfl rfl) ?_
                            refine l_y rfl rfl (y_p1 (x0 := 0) (enc := (eI .i64)) (xs := (at_ R up.toNat).Kids) hO rfl) ?_
                            refine s_lit (parts := [(0, .tmp 115)]) (enc := (eI .i64)) [(at_ (at_ R up.toNat).Kids ((x.1 : Int) : Int).toNat)] [.int .i64 (at_ (at_ R up.toNat).Kids ((x.1 : Int) : Int).toNat)] hO rfl (fun b116 w hO => ?_)
                            refine s_app hO rfl rfl (src_own hO) (fun p117 c117 w hO gs117 => ?_)
                            refine l_y rfl rfl (y_assign rfl) ?_
                            refine K2 (K8 (K3 (K1 ?_)))
                            refine l_y rfl rfl (y_move rfl) ?_
                            refine l_y rfl rfl (D4) ?_
                            refine l_y rfl rfl (y_assign rfl) ?_
                            refine K2 ?_
                            have hnl : ((x.2.2.2 ++ [id]) ++ [(at_ (at_ R up.toNat).Kids ((x.1 : Int) : Int).toNat)]) = insP id before ((at_ R up.toNat).Kids.take (x.1 + 1)) := by first | (rw [insP_succ (by omega), ← hi.2, if_pos (show at_ (at_ R up.toNat).Kids x.1 = before from h14_5)]; simp) | (rw [insP_succ (by omega), ← hi.2, if_neg (show ¬ at_ (at_ R up.toNat).Kids x.1 = before from h14_5)]; rfl)
                            exact q_next ((x.1 + 1, p117, c117, ((x.2.2.2 ++ [id]) ++ [(at_ (at_ R up.toNat).Kids ((x.1 : Int) : Int).toNat)]))) ⟨rfl, rfl, rfl, rfl, rfl, rfl, rfl, rfl, trivial⟩ ⟨hO.only [.b r, .p p, .f, .p p117], ⟨by dsimp only; omega, hnl⟩⟩ (by dsimp only; omega)
                          · refine K2 (K3 (L9 (K5 (K3 (K1 ?_)))))
                            refine l_y rfl rfl (y_move rfl) ?_
                            refine l_y rfl rfl (y_move rfl) ?_
                            refine l_y rfl rfl (y_move rfl) ?_
                            refine l_y rfl rfl (y_idx rfl rfl) ?_
                            refine l_y rfl rfl (y_p1 (x0 := 0) (enc := (eI .i64)) (xs := (at_ R up.toNat).Kids) hO rfl) ?_
                            refine s_lit (parts := [(0, .tmp 115)]) (enc := (eI .i64)) [(at_ (at_ R up.toNat).Kids ((x.1 : Int) : Int).toNat)] [.int .i64 (at_ (at_ R up.toNat).Kids ((x.1 : Int) : Int).toNat)] hO rfl (fun b116 w hO => ?_)
                            refine s_app hO rfl rfl (src_own hO) (fun p117 c117 w hO gs117 => ?_)
                            refine l_y rfl rfl (y_assign rfl) ?_
                            refine K2 (K8 (K3 (K1 ?_)))
                            refine l_y rfl rfl (y_move rfl) ?_
                            refine l_y rfl rfl (D4) ?_
                            refine l_y rfl rfl (y_assign rfl) ?_
                            refine K2 ?_
                            have hnl : (x.2.2.2 ++ [(at_ (at_ R up.toNat).Kids ((x.1 : Int) : Int).toNat)]) = insP id before ((at_ R up.toNat).Kids.take (x.1 + 1)) := by first | (rw [insP_succ (by omega), ← hi.2, if_pos (show at_ (at_ R up.toNat).Kids x.1 = before from h14_5)]; simp) | (rw [insP_succ (by omega), ← hi.2, if_neg (show ¬ at_ (at_ R up.toNat).Kids x.1 = before from h14_5)]; rfl)
                            exact q_next ((x.1 + 1, p117, c117, (x.2.2.2 ++ [(at_ (at_ R up.toNat).Kids ((x.1 : Int) : Int).toNat)]))) ⟨rfl, rfl, rfl, rfl, rfl, rfl, rfl, rfl, trivial⟩ ⟨hO.only [.b r, .p p, .f, .p p117], ⟨by dsimp only; omega, hnl⟩⟩ (by dsimp only; omega)
                        · refine K2 (K3 (L9 (K7 (L1 (L1 (L2 (K3 (K0 (K0 ?_)))))))))
                          have hxe : x.2.2.2 = insP id before (at_ R up.toNat).Kids := by rw [hi.2, List.take_of_length_le (by omega)]
                          refine K1 ?_
                          refine l_y rfl rfl (y_move rfl) ?_
                          refine Z0 (fun h17_1 => ?_) (fun h17_1 => ?_)
                          · first
                            | (exfalso; omega)
                            | skip
                              refine K2 (K3 (L8 (K1 ?_)))
                              refine l_y rfl rfl (y_move rfl) ?_
                              refine l_y rfl rfl (y_move rfl) ?_
                              refine s_lit (parts := [(0, .tmp 121)]) (enc := (eI .i64)) [id] [.int .i64 id] hO rfl (fun b122 w hO => ?_)
                              refine s_app hO rfl rfl (src_own hO) (fun p123 c123 w hO gs123 => ?_)
                              refine l_y rfl rfl (y_assign rfl) ?_
                              refine K2 (K3 (K0 ?_))
                              have hrow : (x.2.2.2 ++ [id]) = insB id before (at_ R up.toNat).Kids := by
                                rw [insB_P, ← hxe]
                                first | rw [if_pos h17_1] | rw [if_neg h17_1, List.append_nil]
                              obtain ⟨F2, hle, hO, hsa⟩ := (hO.ks [.p p123, .f]).pooled
                              refine K1 ?_
                              refine l_y rfl rfl (y_move rfl) ?_
                              refine l_y rfl rfl (y_nilCheck rfl rfl) ?_
                              refine l_y rfl rfl (y_fldb (o' := 0) rfl) ?_
                              refine l_y rfl rfl (D5 hO rfl) ?_
                              refine l_y rfl rfl (y_move rfl) ?_
                              refine l_y rfl rfl (y_move rfl) ?_
                              refine l_y rfl rfl (y_idx rfl rfl) ?_
                              refine l_y rfl rfl (y_fld (j' := 9) rfl) ?_
                              refine s_e1 (x0 := 9) hO rfl rfl (fun w hO => ?_)
                              refine K2 (K3 (K0 (K1 ?_)))
                              refine l_y rfl rfl (y_move rfl) ?_
                              refine l_y rfl rfl (y_nilCheck rfl rfl) ?_
                              refine l_y rfl rfl (y_fldb (o' := 0) rfl) ?_
                              refine l_y rfl rfl (D5 hO rfl) ?_
                              refine l_y rfl rfl (y_move rfl) ?_
                              refine l_y rfl rfl (y_move rfl) ?_
                              refine l_y rfl rfl (y_idx rfl rfl) ?_
                              refine l_y rfl rfl (y_fld (j' := 8) rfl) ?_
                              refine s_e1 (x0 := 8) hO rfl rfl (fun w hO => ?_)
                              refine K2 (K3 (K0 (K1 ?_)))
                              refine l_y rfl rfl (y_assign rfl) ?_
                              refine K2 (K3 (K6 ?_))
                              refine fin1 rfl rfl ⟨_, ⟨by rw [h0], _, rfl, ?_⟩, (rarL_shut ?_ (hO.ks [.b r, .p p, .f]) ?_).one⟩
                              · rw [linkKs, if_pos h0]; exact Sim.link' t s h0 hrow
                              · exact RF.up (RF.kids (hF.le hle) (by omega) hsa) (by rw [setKidsR_len]; omega)
                              · simp
                          · first
                            | (exfalso; omega)
                            | skip
                              refine K2 (K3 (L9 (K5 (K3 (K0 ?_)))))
                              have hrow : x.2.2.2 = insB id before (at_ R up.toNat).Kids := by
                                rw [insB_P, ← hxe]
                                first | rw [if_pos h17_1] | rw [if_neg h17_1, List.append_nil]
                              obtain ⟨F2, hle, hO, hsa⟩ := (hO.ks [.p x.2.1, .f]).pooled
                              refine K1 ?_
                              refine l_y rfl rfl (y_move rfl) ?_
                              refine l_y rfl rfl (y_nilCheck rfl rfl) ?_
                              refine l_y rfl rfl (y_fldb (o' := 0) rfl) ?_
                              refine l_y rfl rfl (D5 hO rfl) ?_
                              refine l_y rfl rfl (y_move rfl) ?_
                              refine l_y rfl rfl (y_move rfl) ?_
                              refine l_y rfl rfl (y_idx rfl rfl) ?_
                              refine l_y rfl rfl (y_fld (j' := 9) rfl) ?_
                              refine s_e1 (x0 := 9) hO rfl rfl (fun w hO => ?_)
                              refine K2 (K3 (K0 (K1 ?_)))
                              refine l_y rfl rfl (y_move rfl) ?_
                              refine l_y rfl rfl (y_nilCheck rfl rfl) ?_
                              refine l_y rfl rfl (y_fldb (o' := 0) rfl) ?_
                              refine l_y rfl rfl (D5 hO rfl) ?_
                              refine l_y rfl rfl (y_move rfl) ?_
                              refine l_y rfl rfl (y_move rfl) ?_
                              refine l_y rfl rfl (y_idx rfl rfl) ?_
                              refine l_y rfl rfl (y_fld (j' := 8) rfl) ?_
                              refine s_e1 (x0 := 8) hO rfl rfl (fun w hO => ?_)
                              refine K2 (K3 (K0 (K1 ?_)))
                              refine l_y rfl rfl (y_assign rfl) ?_
                              refine K2 (K3 (K6 ?_))
                              refine fin1 rfl rfl ⟨_, ⟨by rw [h0], _, rfl, ?_⟩, (rarL_shut ?_ (hO.ks [.b r, .p p, .f]) ?_).one⟩
                              · rw [linkKs, if_pos h0]; exact Sim.link' t s h0 hrow
                              · exact RF.up (RF.kids (hF.le hle) (by omega) hsa) (by rw [setKidsR_len]; omega)
                              · simp
                  · first
                    | (exfalso; omega)
                    | skip
                      refine l_y rfl rfl (y_move rfl) ?_
                      repeat refine M2 ?_
                      refine l_y rfl rfl (y_pick_f rfl rfl) ?_
                      refine K2 (K3 (L9 (K5 (K3 (K0 ?_)))))
                      have h0 : (linkL A up id before).1 = 0 := by
                        rw [ui] at h5_8
                        try rw [ub] at h7_12
                        rw [ki] at h3_13
                        try rw [ki] at h3_24
                        try rw [ki] at hc57
                        simp [linkL, *]
                      have hkk : (at_ R up.toNat).Kids.length ≤ 32768 := by
                        have := t.len (inA_iff.1 hg16)
                        rw [(s.atB hg16).kids]; omega
                      have hkids := (hF.atR (i := up.toNat) (by omega)).kids
                      have hgk := sli_gs hkids
                      have hO : Own k w (sls none 0 3 1 (eI .i64) ([] : List Int) :: _) := sl_nil 3 1 hO
                      refine K1 ?_
                      refine l_y rfl rfl (y_assign rfl) ?_
                      refine K2 (K3 (K0 (K1 ?_)))
                      refine l_y rfl rfl (y_move rfl) ?_
                      refine l_y rfl rfl (y_nilCheck rfl rfl) ?_
                      refine l_y rfl rfl (y_fldb (o' := 0) rfl) ?_
                      refine l_y rfl rfl (D5 hO rfl) ?_
                      refine l_y rfl rfl (y_move rfl) ?_
                      refine l_y rfl rfl (y_idx rfl rfl) ?_
                      refine l_y rfl rfl (y_fld (j' := 9) rfl) ?_
                      refine l_y rfl rfl (y_e1 (x0 := 9) hO rfl) ?_
                      refine l_y rfl rfl (y_assign rfl) ?_
                      refine K2 (K3 (K0 (K0 (K1 ?_))))
                      refine l_y rfl rfl (y_assign rfl) ?_
                      refine K2 (K3 (K4 ?_))
                      refine c_rounds (X := Nat × Option Addr × Nat × List Int) (fun x => [(0, .pointer (some ⟨r, 0, none⟩)), (1, .int .i64 up), (2, .int .i64 id), (3, .int .i64 before), (8, .int .i64 0), (9, .slice x.2.1 x.2.2.2.length x.2.2.1), (10, .slice (at_ R (up : Int).toNat).KidsP (at_ R (up : Int).toNat).Kids.length (at_ R (up : Int).toNat).KidsC), (11, .int .i64 (x.1 : Int))]) (fun x w => Own k w [rB r p R.length c, rS p c R, pool F, sls x.2.1 x.2.2.1 3 1 (eI .i64) x.2.2.2] ∧ (x.1 ≤ (at_ R up.toNat).Kids.length ∧ x.2.2.2 = insP id before ((at_ R up.toNat).Kids.take x.1))) (fun x => (at_ R up.toNat).Kids.length - x.1) ((0, none, 0, [])) ⟨rfl, rfl, rfl, rfl, rfl, rfl, rfl, rfl, trivial⟩ ⟨hO.only [.b r, .p p, .f, .p none], ⟨Nat.zero_le _, rfl⟩⟩ ?_
                      rintro x w m hm ⟨hO, hi⟩
                      have hxl : x.2.2.2.length ≤ 65536 := by
                        have h := insP_len (id := id) (before := before) (l := (at_ R up.toNat).Kids.take x.1)
                        rw [← hi.2, List.length_take] at h
                        omega
                      refine K0 (K0 (K1 ?_))
                      refine l_y rfl rfl (y_move rfl) ?_
                      refine l_y rfl rfl (y_move rfl) ?_
                      refine l_y rfl rfl (y_lenL rfl) ?_
                      refine Z0 (fun h12_3 => ?_) (fun h12_3 => ?_)
                      · refine K2 (K3 (L8 (K5 (K3 (K0 (K4 (K0 (K0 (K1 ?_)))))))))
                        refine l_y rfl rfl (y_move rfl) ?_
                        refine l_y rfl rfl (y_move rfl) ?_
                        refine l_y rfl rfl (y_idx rfl rfl) ?_
                        refine l_y rfl rfl (y_p1 (x0 := 0) (enc := (eI .i64)) (xs := (at_ R up.toNat).Kids) hO rfl) ?_
                        refine l_y rfl rfl (y_move rfl) ?_
                        refine Z0 (fun h14_5 => ?_) (fun h14_5 => ?_)
                        · refine K2 (K3 (L8 (K1 ?_)))
                          refine l_y rfl rfl (y_move rfl) ?_
                          refine l_y rfl rfl (y_move rfl) ?_
                          refine s_lit (parts := [(0, .tmp 108)]) (enc := (eI .i64)) [id] [.int .i64 id] hO rfl (fun b109 w hO => ?_)
                          refine s_app hO rfl rfl (src_own hO) (fun p110 c110 w hO gs110 => ?_)
                          refine l_y rfl rfl (y_assign rfl) ?_
                          refine K2 (K3 (K1 ?_))
                          refine l_y rfl rfl (y_move rfl) ?_
                          refine l_y rfl rfl (y_move rfl) ?_
                          refine l_y rfl rfl (y_move rfl) ?_
                          refine l_y rfl rfl (y_idx rfl rfl) ?_
                          refine l_y rfl rfl (y_p1 (x0 := 0) (enc := (eI .i64)) (xs := (at_ R up.toNat).Kids) hO rfl) ?_
                          refine s_lit (parts := [(0, .tmp 115)]) (enc := (eI .i64)) [(at_ (at_ R up.toNat).Kids ((x.1 : Int) : Int).toNat)] [.int .i64 (at_ (at_ R up.toNat).Kids ((x.1 : Int) : Int).toNat)] hO rfl (fun b116 w hO => ?_)
                          refine s_app hO rfl rfl (src_own hO) (fun p117 c117 w hO gs117 => ?_)
                          refine l_y rfl rfl (y_assign rfl) ?_
                          refine K2 (K8 (K3 (K1 ?_)))
                          refine l_y rfl rfl (y_move rfl) ?_
                          refine l_y rfl rfl (D4) ?_
                          refine l_y rfl rfl (y_assign rfl) ?_
                          refine K2 ?_
                          have hnl : ((x.2.2.2 ++ [id]) ++ [(at_ (at_ R up.toNat).Kids ((x.1 : Int) : Int).toNat)]) = insP id before ((at_ R up.toNat).Kids.take (x.1 + 1)) := by first | (rw [insP_succ (by omega), ← hi.2, if_pos (show at_ (at_ R up.toNat).Kids x.1 = before from h14_5)]; simp) | (rw [insP_succ (by omega), ← hi.2, if_neg (show ¬ at_ (at_ R up.toNat).Kids x.1 = before from h14_5)]; rfl)
                          exact q_next ((x.1 + 1, p117, c117, ((x.2.2.2 ++ [id]) ++ [(at_ (at_ R up.toNat).Kids ((x.1 : Int) : Int).toNat)]))) ⟨rfl, rfl, rfl, rfl, rfl, rfl, rfl, rfl, trivial⟩ ⟨hO.only [.b r, .p p, .f, .p p117], ⟨by dsimp only; omega, hnl⟩⟩ (by dsimp only; omega)
                        · refine K2 (K3 (L9 (K5 (K3 (K1 ?_)))))
                          refine l_y rfl rfl (y_move rfl) ?_
                          refine l_y rfl rfl (y_move rfl) ?_
                          refine l_y rfl rfl (y_move rfl) ?_
                          refine l_y rfl rfl (y_idx rfl rfl) ?_
                          refine l_y rfl rfl (y_p1 (x0 := 0) (enc := (eI .i64)) (xs := (at_ R up.toNat).Kids) hO rfl) ?_
                          refine s_lit (parts := [(0, .tmp 115)]) (enc := (eI .i64)) [(at_ (at_ R up.toNat).Kids ((x.1 : Int) : Int).toNat)] [.int .i64 (at_ (at_ R up.toNat).Kids ((x.1 : Int) : Int).toNat)] hO rfl (fun b116 w hO => ?_)
                          refine s_app hO rfl rfl (src_own hO) (fun p117 c117 w hO gs117 => ?_)
                          refine l_y rfl rfl (y_assign rfl) ?_
                          refine K2 (K8 (K3 (K1 ?_)))
                          refine l_y rfl rfl (y_move rfl) ?_
                          refine l_y rfl rfl (D4) ?_
                          refine l_y rfl rfl (y_assign rfl) ?_
                          refine K2 ?_
                          have hnl : (x.2.2.2 ++ [(at_ (at_ R up.toNat).Kids ((x.1 : Int) : Int).toNat)]) = insP id before ((at_ R up.toNat).Kids.take (x.1 + 1)) := by first | (rw [insP_succ (by omega), ← hi.2, if_pos (show at_ (at_ R up.toNat).Kids x.1 = before from h14_5)]; simp) | (rw [insP_succ (by omega), ← hi.2, if_neg (show ¬ at_ (at_ R up.toNat).Kids x.1 = before from h14_5)]; rfl)
                          exact q_next ((x.1 + 1, p117, c117, (x.2.2.2 ++ [(at_ (at_ R up.toNat).Kids ((x.1 : Int) : Int).toNat)]))) ⟨rfl, rfl, rfl, rfl, rfl, rfl, rfl, rfl, trivial⟩ ⟨hO.only [.b r, .p p, .f, .p p117], ⟨by dsimp only; omega, hnl⟩⟩ (by dsimp only; omega)
                      · refine K2 (K3 (L9 (K7 (L1 (L1 (L2 (K3 (K0 (K0 ?_)))))))))
                        have hxe : x.2.2.2 = insP id before (at_ R up.toNat).Kids := by rw [hi.2, List.take_of_length_le (by omega)]
                        refine K1 ?_
                        refine l_y rfl rfl (y_move rfl) ?_
                        refine Z0 (fun h17_1 => ?_) (fun h17_1 => ?_)
                        · first
                          | (exfalso; omega)
                          | skip
                            refine K2 (K3 (L8 (K1 ?_)))
                            refine l_y rfl rfl (y_move rfl) ?_
                            refine l_y rfl rfl (y_move rfl) ?_
                            refine s_lit (parts := [(0, .tmp 121)]) (enc := (eI .i64)) [id] [.int .i64 id] hO rfl (fun b122 w hO => ?_)
                            refine s_app hO rfl rfl (src_own hO) (fun p123 c123 w hO gs123 => ?_)
                            refine l_y rfl rfl (y_assign rfl) ?_
                            refine K2 (K3 (K0 ?_))
                            have hrow : (x.2.2.2 ++ [id]) = insB id before (at_ R up.toNat).Kids := by
                              rw [insB_P, ← hxe]
                              first | rw [if_pos h17_1] | rw [if_neg h17_1, List.append_nil]
                            obtain ⟨F2, hle, hO, hsa⟩ := (hO.ks [.p p123, .f]).pooled
                            refine K1 ?_
                            refine l_y rfl rfl (y_move rfl) ?_
                            refine l_y rfl rfl (y_nilCheck rfl rfl) ?_
                            refine l_y rfl rfl (y_fldb (o' := 0) rfl) ?_
                            refine l_y rfl rfl (D5 hO rfl) ?_
                            refine l_y rfl rfl (y_move rfl) ?_
                            refine l_y rfl rfl (y_move rfl) ?_
                            refine l_y rfl rfl (y_idx rfl rfl) ?_
                            refine l_y rfl rfl (y_fld (j' := 9) rfl) ?_
                            refine s_e1 (x0 := 9) hO rfl rfl (fun w hO => ?_)
                            refine K2 (K3 (K0 (K1 ?_)))
                            refine l_y rfl rfl (y_move rfl) ?_
                            refine l_y rfl rfl (y_nilCheck rfl rfl) ?_
                            refine l_y rfl rfl (y_fldb (o' := 0) rfl) ?_
                            refine l_y rfl rfl (D5 hO rfl) ?_
                            refine l_y rfl rfl (y_move rfl) ?_
                            refine l_y rfl rfl (y_move rfl) ?_
                            refine l_y rfl rfl (y_idx rfl rfl) ?_
                            refine l_y rfl rfl (y_fld (j' := 8) rfl) ?_
                            refine s_e1 (x0 := 8) hO rfl rfl (fun w hO => ?_)
                            refine K2 (K3 (K0 (K1 ?_)))
                            refine l_y rfl rfl (y_assign rfl) ?_
                            refine K2 (K3 (K6 ?_))
                            refine fin1 rfl rfl ⟨_, ⟨by rw [h0], _, rfl, ?_⟩, (rarL_shut ?_ (hO.ks [.b r, .p p, .f]) ?_).one⟩
                            · rw [linkKs, if_pos h0]; exact Sim.link' t s h0 hrow
                            · exact RF.up (RF.kids (hF.le hle) (by omega) hsa) (by rw [setKidsR_len]; omega)
                            · simp
                        · first
                          | (exfalso; omega)
                          | skip
                            refine K2 (K3 (L9 (K5 (K3 (K0 ?_)))))
                            have hrow : x.2.2.2 = insB id before (at_ R up.toNat).Kids := by
                              rw [insB_P, ← hxe]
                              first | rw [if_pos h17_1] | rw [if_neg h17_1, List.append_nil]
                            obtain ⟨F2, hle, hO, hsa⟩ := (hO.ks [.p x.2.1, .f]).pooled
                            refine K1 ?_
                            refine l_y rfl rfl (y_move rfl) ?_
                            refine l_y rfl rfl (y_nilCheck rfl rfl) ?_
                            refine l_y rfl rfl (y_fldb (o' := 0) rfl) ?_
                            refine l_y rfl rfl (D5 hO rfl) ?_
                            refine l_y rfl rfl (y_move rfl) ?_
                            refine l_y rfl rfl (y_move rfl) ?_
                            refine l_y rfl rfl (y_idx rfl rfl) ?_
                            refine l_y rfl rfl (y_fld (j' := 9) rfl) ?_
                            refine s_e1 (x0 := 9) hO rfl rfl (fun w hO => ?_)
                            refine K2 (K3 (K0 (K1 ?_)))
                            refine l_y rfl rfl (y_move rfl) ?_
                            refine l_y rfl rfl (y_nilCheck rfl rfl) ?_
                            refine l_y rfl rfl (y_fldb (o' := 0) rfl) ?_
                            refine l_y rfl rfl (D5 hO rfl) ?_
                            refine l_y rfl rfl (y_move rfl) ?_
                            refine l_y rfl rfl (y_move rfl) ?_
                            refine l_y rfl rfl (y_idx rfl rfl) ?_
                            refine l_y rfl rfl (y_fld (j' := 8) rfl) ?_
                            refine s_e1 (x0 := 8) hO rfl rfl (fun w hO => ?_)
                            refine K2 (K3 (K0 (K1 ?_)))
                            refine l_y rfl rfl (y_assign rfl) ?_
                            refine K2 (K3 (K6 ?_))
                            refine fin1 rfl rfl ⟨_, ⟨by rw [h0], _, rfl, ?_⟩, (rarL_shut ?_ (hO.ks [.b r, .p p, .f]) ?_).one⟩
                            · rw [linkKs, if_pos h0]; exact Sim.link' t s h0 hrow
                            · exact RF.up (RF.kids (hF.le hle) (by omega) hsa) (by rw [setKidsR_len]; omega)
                            · simp
end Go.Proofs.Ythkmnohghpdjhaa
end
section
set_option linter.unusedVariables false
set_option linter.unusedSimpArgs false
set_option maxRecDepth 100000
namespace Go.Proofs.Ythkmnohghpdjhaa
open Go Go.Hb Go.RowKit
theorem Sim.unlink' {A : List Node_one} {K : Int → List Int} {R : List Ref01_one} (t : Tree A K) (s : Sim A K R) {id : Int} (h0 : (unlinkL A id).1 = 0) {p : Option Addr} {c : Nat} {l : List Int} (hl : l = (at_ R ((at_ A id.toNat).Node.Parent).toNat).Kids.filter (fun y => y ≠ id)) :
    Sim (unlinkL A id).2 (unlinkK K (at_ A id.toNat).Node.Parent id) (setUpR (setKidsR R (at_ A id.toNat).Node.Parent p l c) id (-1)) := by rw [hl]; exact Sim.unlink t s h0 p c
set_option maxHeartbeats 4000000 in
theorem rUnlink_spec {k : Ctx} {w : World} {r : Nat} {A : List Node_one} {K : Int → List Int} {R : List Ref01_one} {id : Int} (t : Tree A K) (s : Sim A K R) (hlen : A.length ≤ 32768) (hO : Own k w [rarL r R]) :
    Tri Try.prog 63 #[.pointer (some ⟨r, 0, none⟩), .int .i64 id] k w fun v m => v = .int .i64 (unlinkL A id).1 ∧ ∃ R', m = [rarL r R'] ∧ Sim (unlinkL A id).2 (unlinkKs A K id) R' := by
  refine enter (args := [.pointer (some ⟨r, 0, none⟩), .int .i64 id]) Try.func63 rfl rfl ?_
  obtain ⟨p, c, F, hg, hF, hO⟩ := rarL_open hO
  have hl := s.len
  have kerr : (unlinkL A id).1 ≠ 0 → Sim (unlinkL A id).2 (unlinkKs A K id) R := fun h => by rw [unlinkL_err h, unlinkKs, if_neg h]; exact s
  refine K0 (K1 ?_)
  refine l_y rfl rfl (y_assign rfl) ?_
  refine K2 (K3 (K0 (K0 (K1 ?_))))
  refine l_y rfl rfl (y_move rfl) ?_
  refine l_y rfl rfl (y_move rfl) ?_
  refine CK [.b r, .p p] hO rfl (fun k' hx hr hO' => IsA_spec s (hO := hO')) ?_
  rintro _ _ w ⟨rfl, rfl⟩ hO
  simp only [List.cons_append, List.nil_append] at hO
  refine l_y rfl rfl (y_not rfl rfl) ?_
  refine K2 (K3 ?_)
  refine c_split rfl (fun hc11 => ?_) (fun hc11 => ?_)
  · simp only [Bool.not_eq_true', Bool.not_eq_false'] at hc11
    refine K0 (K1 ?_)
    refine l_y rfl rfl (y_assign rfl) ?_
    refine K2 (K3 (K6 (K9 ?_)))
    have e : unlinkL A id = (6, A) := by simp [unlinkL, *]
    exact fin1 rfl rfl ⟨_, ⟨by rw [e], _, rfl, kerr (by rw [e]; simp)⟩, (rarL_shut hF (hO.ks [.b r, .p p, .f])).one⟩
  · simp only [Bool.not_eq_true', Bool.not_eq_false'] at hc11
    refine K5 (K3 (K0 ?_))
    have hid := hasB_true hc11
    have ui := (s.atB hc11).up
    refine K1 ?_
    refine l_y rfl rfl (y_move rfl) ?_
    refine l_y rfl rfl (y_nilCheck rfl rfl) ?_
    refine l_y rfl rfl (y_fldb (o' := 0) rfl) ?_
    refine l_y rfl rfl (D5 hO rfl) ?_
    refine l_y rfl rfl (y_move rfl) ?_
    refine l_y rfl rfl (y_idx rfl rfl) ?_
    refine l_y rfl rfl (y_fld (j' := 8) rfl) ?_
    refine l_y rfl rfl (y_e1 (x0 := 8) hO rfl) ?_
    refine l_y rfl rfl (y_assign rfl) ?_
    refine K2 (K3 (K0 (K0 (K1 ?_))))
    refine l_y rfl rfl (y_move rfl) ?_
    refine Z0 (fun h4_1 => ?_) (fun h4_1 => ?_)
    · refine K2 (K3 (L8 (K0 (K1 ?_))))
      refine l_y rfl rfl (y_assign rfl) ?_
      refine K2 (K3 (K6 (K9 ?_)))
      have e : unlinkL A id = (5, A) := by
        rw [ui] at h4_1
        simp [unlinkL, *]
      exact fin1 rfl rfl ⟨_, ⟨by rw [e], _, rfl, kerr (by rw [e]; simp)⟩, (rarL_shut hF (hO.ks [.b r, .p p, .f])).one⟩
    · refine K2 (K3 (L9 (K5 (K3 (K0 ?_)))))
      obtain ⟨up, hue⟩ : ∃ up, up = (at_ R id.toNat).Up := ⟨_, rfl⟩
      have hpa : (at_ A id.toNat).Node.Parent = up := by rw [hue, ui]
      have h0 : (unlinkL A id).1 = 0 := by
        rw [ui] at h4_1
        rw [unlinkL, if_neg (by rw [hc11]; simp), if_neg h4_1]
      have hupi : InA A up := by rw [← hpa]; exact (t.up id (inA_iff.1 hc11) (by rw [ui] at h4_1; exact h4_1)).1
      have hup := hupi.1
      have hup2 := hupi.2
      have hkk : (at_ R up.toNat).Kids.length ≤ 32768 := by
        have := t.len hupi
        rw [(s.one up hupi).kids]; omega
      have hkids := (hF.atR (i := up.toNat) (by omega)).kids
      have hgk := sli_gs hkids
      have hO : Own k w (sls none 0 3 1 (eI .i64) ([] : List Int) :: _) := sl_nil 3 1 hO
      rw [← hue]
      refine K1 ?_
      refine l_y rfl rfl (y_assign rfl) ?_
      refine K2 (K3 (K0 (K0 (K1 ?_))))
      refine l_y rfl rfl (y_assign rfl) ?_
      refine K2 (K3 (K4 ?_))
      refine c_rounds (X := Nat × Option Addr × Nat × List Int) (fun x => [(0, .pointer (some ⟨r, 0, none⟩)), (1, .int .i64 id), (4, .int .i64 0), (5, .int .i64 up), (6, .slice x.2.1 x.2.2.2.length x.2.2.1), (7, .int .i64 (x.1 : Int))]) (fun x w => Own k w [rB r p R.length c, rS p c R, pool F, sls x.2.1 x.2.2.1 3 1 (eI .i64) x.2.2.2] ∧ (x.1 ≤ (at_ R up.toNat).Kids.length ∧ x.2.2.2 = ((at_ R up.toNat).Kids.take x.1).filter (fun y => y ≠ id))) (fun x => (at_ R up.toNat).Kids.length - x.1) ((0, none, 0, [])) ⟨rfl, rfl, rfl, rfl, rfl, rfl, trivial⟩ ⟨hO.only [.b r, .p p, .f, .p none], ⟨Nat.zero_le _, rfl⟩⟩ ?_
      rintro x w m hm ⟨hO, hi⟩
      have hxl : x.2.2.2.length ≤ 65536 := by
        have h := List.length_filter_le (fun y => decide (y ≠ id)) ((at_ R up.toNat).Kids.take x.1)
        rw [← hi.2, List.length_take] at h
        omega
      refine K0 (K0 (K1 ?_))
      refine l_y rfl rfl (y_move rfl) ?_
      refine l_y rfl rfl (y_move rfl) ?_
      refine l_y rfl rfl (y_nilCheck rfl rfl) ?_
      refine l_y rfl rfl (y_fldb (o' := 0) rfl) ?_
      refine l_y rfl rfl (D5 hO rfl) ?_
      refine l_y rfl rfl (y_move rfl) ?_
      refine l_y rfl rfl (y_idx rfl rfl) ?_
      refine l_y rfl rfl (y_fld (j' := 9) rfl) ?_
      refine l_y rfl rfl (y_e1 (x0 := 9) hO rfl) ?_
      refine l_y rfl rfl (y_lenL rfl) ?_
      refine Z0 (fun h8_10 => ?_) (fun h8_10 => ?_)
      · refine K2 (K3 (L8 (K5 (K3 (K0 (K4 (K0 (K1 ?_))))))))
        refine l_y rfl rfl (y_move rfl) ?_
        refine l_y rfl rfl (y_nilCheck rfl rfl) ?_
        refine l_y rfl rfl (y_fldb (o' := 0) rfl) ?_
        refine l_y rfl rfl (D5 hO rfl) ?_
        refine l_y rfl rfl (y_move rfl) ?_
        refine l_y rfl rfl (y_idx rfl rfl) ?_
        refine l_y rfl rfl (y_fld (j' := 9) rfl) ?_
        refine l_y rfl rfl (y_e1 (x0 := 9) hO rfl) ?_
        refine l_y rfl rfl (y_move rfl) ?_
        refine l_y rfl rfl (y_idx rfl rfl) ?_
        refine l_y rfl rfl (y_p1 (x0 := 0) (enc := (eI .i64)) (xs := (at_ R up.toNat).Kids) hO rfl) ?_
        refine l_y rfl rfl (y_move rfl) ?_
        refine Z1 (fun h10_12 => ?_) (fun h10_12 => ?_)
        · refine K2 (K3 (L8 (K1 ?_)))
          refine l_y rfl rfl (y_move rfl) ?_
          refine l_y rfl rfl (y_move rfl) ?_
          refine l_y rfl rfl (y_nilCheck rfl rfl) ?_
          refine l_y rfl rfl (y_fldb (o' := 0) rfl) ?_
          refine l_y rfl rfl (D5 hO rfl) ?_
          refine l_y rfl rfl (y_move rfl) ?_
          refine l_y rfl rfl (y_idx rfl rfl) ?_
          refine l_y rfl rfl (y_fld (j' := 9) rfl) ?_
          refine l_y rfl rfl (y_e1 (x0 := 9) hO rfl) ?_
          refine l_y rfl rfl (y_move rfl) ?_
          refine l_y rfl rfl (y_idx rfl rfl) ?_
          refine l_y rfl rfl (y_p1 (x0 := 0) (enc := (eI .i64)) (xs := (at_ R up.toNat).Kids) hO rfl) ?_
          refine s_lit (parts := [(0, .tmp 59)]) (enc := (eI .i64)) [(at_ (at_ R up.toNat).Kids ((x.1 : Int) : Int).toNat)] [.int .i64 (at_ (at_ R up.toNat).Kids ((x.1 : Int) : Int).toNat)] hO rfl (fun b60 w hO => ?_)
          refine s_app hO rfl rfl (src_own hO) (fun p61 c61 w hO gs61 => ?_)
          refine l_y rfl rfl (y_assign rfl) ?_
          refine K2 (K8 (K3 (K1 ?_)))
          refine l_y rfl rfl (y_move rfl) ?_
          refine l_y rfl rfl (D4) ?_
          refine l_y rfl rfl (y_assign rfl) ?_
          refine K2 ?_
          have hnl : (x.2.2.2 ++ [(at_ (at_ R up.toNat).Kids ((x.1 : Int) : Int).toNat)]) = ((at_ R up.toNat).Kids.take (x.1 + 1)).filter (fun y => y ≠ id) := by first | (rw [take_succ_at (by omega), List.filter_append, ← hi.2, List.filter_cons, if_pos (by simpa using show ¬ at_ (at_ R up.toNat).Kids x.1 = id from h10_12)]; rfl) | (rw [take_succ_at (by omega), List.filter_append, ← hi.2, List.filter_cons, if_neg (by simpa using show at_ (at_ R up.toNat).Kids x.1 = id from h10_12)]; simp)
          exact q_next ((x.1 + 1, p61, c61, (x.2.2.2 ++ [(at_ (at_ R up.toNat).Kids ((x.1 : Int) : Int).toNat)]))) ⟨rfl, rfl, rfl, rfl, rfl, rfl, trivial⟩ ⟨hO.only [.b r, .p p, .f, .p p61], ⟨by dsimp only; omega, hnl⟩⟩ (by dsimp only; omega)
        · refine K2 (K3 (L9 (K5 (K8 (K3 (K1 ?_))))))
          refine l_y rfl rfl (y_move rfl) ?_
          refine l_y rfl rfl (D4) ?_
          refine l_y rfl rfl (y_assign rfl) ?_
          refine K2 ?_
          have hnl : x.2.2.2 = ((at_ R up.toNat).Kids.take (x.1 + 1)).filter (fun y => y ≠ id) := by first | (rw [take_succ_at (by omega), List.filter_append, ← hi.2, List.filter_cons, if_pos (by simpa using show ¬ at_ (at_ R up.toNat).Kids x.1 = id from h10_12)]; rfl) | (rw [take_succ_at (by omega), List.filter_append, ← hi.2, List.filter_cons, if_neg (by simpa using show at_ (at_ R up.toNat).Kids x.1 = id from h10_12)]; simp)
          exact q_next ((x.1 + 1, x.2.1, x.2.2.1, x.2.2.2)) ⟨rfl, rfl, rfl, rfl, rfl, rfl, trivial⟩ ⟨hO.only [.b r, .p p, .f, .p x.2.1], ⟨by dsimp only; omega, hnl⟩⟩ (by dsimp only; omega)
      · refine K2 (K3 (L9 (K7 (L1 (L1 (L2 (K3 (K0 ?_))))))))
        have hrow : x.2.2.2 = (at_ R ((at_ A id.toNat).Node.Parent).toNat).Kids.filter (fun y => y ≠ id) := by rw [hpa, hi.2, List.take_of_length_le (by omega)]
        obtain ⟨F2, hle, hO, hsa⟩ := (hO.ks [.p x.2.1, .f]).pooled
        refine K1 ?_
        refine l_y rfl rfl (y_move rfl) ?_
        refine l_y rfl rfl (y_nilCheck rfl rfl) ?_
        refine l_y rfl rfl (y_fldb (o' := 0) rfl) ?_
        refine l_y rfl rfl (D5 hO rfl) ?_
        refine l_y rfl rfl (y_move rfl) ?_
        refine l_y rfl rfl (y_move rfl) ?_
        refine l_y rfl rfl (y_idx rfl rfl) ?_
        refine l_y rfl rfl (y_fld (j' := 9) rfl) ?_
        refine s_e1 (x0 := 9) hO rfl rfl (fun w hO => ?_)
        refine K2 (K3 (K0 (K1 ?_)))
        refine l_y rfl rfl (y_move rfl) ?_
        refine l_y rfl rfl (y_nilCheck rfl rfl) ?_
        refine l_y rfl rfl (y_fldb (o' := 0) rfl) ?_
        refine l_y rfl rfl (D5 hO rfl) ?_
        refine l_y rfl rfl (y_move rfl) ?_
        refine l_y rfl rfl (y_idx rfl rfl) ?_
        refine l_y rfl rfl (y_fld (j' := 8) rfl) ?_
        refine s_e1 (x0 := 8) hO rfl rfl (fun w hO => ?_)
        refine K2 (K3 (K0 (K1 ?_)))
        refine l_y rfl rfl (y_assign rfl) ?_
        refine K2 (K3 (K6 ?_))
        refine fin1 rfl rfl ⟨_, ⟨by rw [h0], _, rfl, ?_⟩, (rarL_shut ?_ (hO.ks [.b r, .p p, .f]) ?_).one⟩
        · rw [unlinkKs, if_pos h0]; rw [← hpa]; exact Sim.unlink' t s h0 hrow
        · exact RF.up (RF.kids (hF.le hle) (by omega) hsa) (by rw [setKidsR_len]; omega)
        · simp
end Go.Proofs.Ythkmnohghpdjhaa
end
section
set_option linter.unusedVariables false
set_option linter.unusedSimpArgs false
set_option maxRecDepth 100000
namespace Go.Proofs.Ythkmnohghpdjhaa
open Go Go.Hb Go.RowKit
structure Two (A : List Node_one) (K : Int → List Int) (R : List Ref01_one) : Prop where
  tree : Tree A K
  sim : Sim A K R
  pos : 0 < A.length
  max : A.length ≤ 32768
theorem Two.rmax {A : List Node_one} {K : Int → List Int} {R : List Ref01_one} (h : Two A K R) : R.length ≤ 32768 := by rw [h.sim.len]; exact h.max
theorem Two.new : Two [docD] (fun _ => []) [docR] := ⟨Tree.new, Sim.new, by simp, by simp⟩
theorem Two.add {A : List Node_one} {K : Int → List Int} {R : List Ref01_one} (h : Two A K R) {n : Api_node} {o : Ref01_one} (hl : A.length < 32768) (ha : n.Attrs.length ≤ 1024) (hs : Sim1 (blankN n) [] (blankR o)) : Two (A ++ [blankN n]) (addK A K) (R ++ [blankR o]) :=
  ⟨h.tree.add n ha, h.sim.add hs, by simp, by simp; omega⟩
theorem add_both {A : List Node_one} {K : Int → List Int} {R : List Ref01_one} (h : Two A K R) {n : Api_node} {o : Ref01_one} (ts : List ByteArray) (ha : n.Attrs.length ≤ 1024) (hs : Sim1 (blankN n) [] (blankR o)) :
    (addL A n ts).1 = (raddR R o ts).1 ∧ (addL A n ts).2.1 = (raddR R o ts).2.1 ∧ ∃ K', Two (addL A n ts).2.2 K' (raddR R o ts).2.2 := by
  have hl := h.sim.len
  unfold addL raddR
  by_cases h1 : longB ts = true
  · rw [if_pos h1, if_pos h1]; exact ⟨rfl, rfl, K, h⟩
  rw [if_neg h1, if_neg h1]
  by_cases h2 : 32768 ≤ A.length
  · rw [if_pos h2, if_pos (by omega)]; exact ⟨rfl, rfl, K, h⟩
  rw [if_neg h2, if_neg (by omega)]
  exact ⟨by rw [hl], rfl, _, h.add (by omega) ha hs⟩
theorem el_both {A : List Node_one} {K : Int → List Int} {R : List Ref01_one} (h : Two A K R) (sp : Int) (nm : ByteArray) (xs : List Api_attr) (q q' : Option Addr) (d d' : Nat) :
    (elementL A sp nm xs q d).1 = (elementR R sp nm xs q' d').1 ∧ (A.length ≠ 32767 ∨ longB (nm :: attrTexts xs) = false → (elementL A sp nm xs q d).2.1 = (elementR R sp nm xs q' d').2.1) ∧ ∃ K', Two (elementL A sp nm xs q d).2.2 K' (elementR R sp nm xs q' d').2.2 := by
  have hl := h.sim.len
  unfold elementL elementR
  by_cases h1 : sp < 0 ∨ 2 < sp
  · rw [if_pos h1, if_pos h1]; exact ⟨rfl, fun _ => rfl, K, h⟩
  rw [if_neg h1, if_neg h1]
  by_cases h2 : 1024 < xs.length
  · rw [if_pos h2, if_pos h2]; exact ⟨rfl, fun _ => rfl, K, h⟩
  rw [if_neg h2, if_neg h2]
  by_cases h3 : tmpl sp nm ∧ A.length = 32767
  · rw [if_pos h3]
    by_cases h4 : longB (nm :: attrTexts xs) = true
    · rw [if_pos h4]
      refine ⟨rfl, fun h5 => ?_, K, h⟩
      rcases h5 with h5 | h5
      · exact absurd h3.2 h5
      · rw [h4] at h5; simp at h5
    · rw [if_neg h4, if_pos ⟨h3.1, by omega⟩]; exact ⟨rfl, fun _ => rfl, K, h⟩
  rw [if_neg h3]
  by_cases h4 : longB (nm :: attrTexts xs) = true
  · rw [if_pos h4, if_pos h4]; exact ⟨rfl, fun _ => rfl, K, h⟩
  rw [if_neg h4, if_neg h4]
  by_cases h5 : 32768 ≤ A.length
  · rw [if_pos h5]
    by_cases h6 : tmpl sp nm ∧ 32767 ≤ R.length
    · rw [if_pos h6]; exact ⟨rfl, fun _ => rfl, K, h⟩
    · rw [if_neg h6, if_pos (by omega)]; exact ⟨rfl, fun _ => rfl, K, h⟩
  rw [if_neg h5, if_neg (show ¬ (tmpl sp nm ∧ 32767 ≤ R.length) from fun h6 => h3 ⟨h6.1, by omega⟩), if_neg (show ¬ 32768 ≤ R.length by omega)]
  have s1 : Sim1 (blankN (elementN q d sp nm xs)) [] (blankR (elR q' d' sp nm xs)) := ⟨rfl, rfl, rfl, rfl, rfl, rfl, rfl, rfl, rfl, rfl⟩
  have h7 := h.add (n := elementN q d sp nm xs) (o := elR q' d' sp nm xs) (by omega) (show xs.length ≤ 1024 by omega) s1
  by_cases ht : tmpl sp nm
  · rw [if_pos ht, if_pos ht]
    refine ⟨by rw [hl], fun _ => rfl, addK (A ++ [blankN (elementN q d sp nm xs)]) (addK A K), ?_⟩
    have hA1 : A.length ≠ 32767 := fun e => h3 ⟨ht, e⟩
    have hl1 : (A ++ [blankN (elementN q d sp nm xs)]).length = A.length + 1 := by simp
    have hlR : (R ++ [blankR (elR q' d' sp nm xs)]).length = A.length + 1 := by simp [hl]
    have s2 : Sim1 (blankN fragmentN) [] (blankR fragmentR) := ⟨rfl, rfl, rfl, rfl, rfl, rfl, rfl, rfl, rfl, rfl⟩
    have h8 := h7.add (n := fragmentN) (o := fragmentR) (by omega) (Nat.zero_le _) s2
    have i1 : InA (A ++ [blankN (elementN q d sp nm xs)]) (A.length : Int) := ⟨by omega, by omega⟩
    have id2 : InA (A ++ [blankN (elementN q d sp nm xs)] ++ [blankN fragmentN]) (A.length : Int) := inA_new.2 (.inl i1)
    have if2 : InA (A ++ [blankN (elementN q d sp nm xs)] ++ [blankN fragmentN]) ((A ++ [blankN (elementN q d sp nm xs)]).length : Int) := inA_new.2 (.inr rfl)
    have e1 : at_ (A ++ [blankN (elementN q d sp nm xs)] ++ [blankN fragmentN]) ((A.length : Int)).toNat = blankN (elementN q d sp nm xs) := by rw [at_old i1, at_new]
    have e2 : at_ (A ++ [blankN (elementN q d sp nm xs)] ++ [blankN fragmentN]) (((A ++ [blankN (elementN q d sp nm xs)]).length : Int)).toNat = blankN fragmentN := at_new
    have ht3 := h8.tree.hosted id2 if2 (by rw [nodeA, e2]; rfl) (by rw [e2]; rfl) (fun hA => by
      have hA := (anc_ne (by omega) (by omega)).1 hA
      have : nextUp (A ++ [blankN (elementN q d sp nm xs)] ++ [blankN fragmentN]) (A.length : Int) = -1 := by rw [nextUp, e1]; rfl
      rw [this] at hA
      have := anc_none hA
      omega)
    refine ⟨ht3, ?_, by simp [setHost, setInner], by simp only [setHost, setInner, List.length_set, List.length_append, List.length_cons, List.length_nil]; omega⟩
    have hs := h8.sim
    have r1 : InR2 (R ++ [blankR (elR q' d' sp nm xs)] ++ [blankR fragmentR]) (A.length : Int) := hs.inR id2
    have r2 : InR2 (R ++ [blankR (elR q' d' sp nm xs)] ++ [blankR fragmentR]) ((A ++ [blankN (elementN q d sp nm xs)]).length : Int) := hs.inR if2
    refine ⟨by simp [setHostR, setInnerR, setHost, setInner, hl], fun y hy => ?_⟩
    have hlen : (setHost (setInner (A ++ [blankN (elementN q d sp nm xs)] ++ [blankN fragmentN]) A.length (A ++ [blankN (elementN q d sp nm xs)]).length) (A ++ [blankN (elementN q d sp nm xs)]).length A.length).length = (A ++ [blankN (elementN q d sp nm xs)] ++ [blankN fragmentN]).length := by simp [setHost, setInner]
    have hyA := hy.len hlen.symm
    have sy := hs.one y hyA
    have iL : InA (setInner (A ++ [blankN (elementN q d sp nm xs)] ++ [blankN fragmentN]) A.length (A ++ [blankN (elementN q d sp nm xs)]).length) ((A ++ [blankN (elementN q d sp nm xs)]).length : Int) := if2.len (by simp [setInner])
    have iR : InR2 (setInnerR (R ++ [blankR (elR q' d' sp nm xs)] ++ [blankR fragmentR]) A.length (A ++ [blankN (elementN q d sp nm xs)]).length) ((A ++ [blankN (elementN q d sp nm xs)]).length : Int) := ⟨r2.1, by have := r2.2; simpa [setInnerR] using this⟩
    have eR1 : (((R ++ [blankR (elR q' d' sp nm xs)]).length : Nat) : Int) = ((A ++ [blankN (elementN q d sp nm xs)]).length : Int) := by rw [hlR, hl1]
    have eR0 : ((R.length : Nat) : Int) = (A.length : Int) := by rw [hl]
    rw [eR1, eR0]
    rw [setHost, setHostR, at_setI iL hy.1, at_setR iR hy.1]
    by_cases c1 : y = ((A ++ [blankN (elementN q d sp nm xs)]).length : Int)
    · rw [if_pos c1, if_pos c1]
      rw [setInner, setInnerR, at_setI id2 if2.1, at_setR r1 if2.1, if_neg (by omega), if_neg (by omega)]
      rw [c1] at sy
      exact ⟨sy.kind, sy.space, sy.name, sy.attrs, sy.data, sy.system, sy.inner, rfl, sy.up, by rw [c1]; exact sy.kids⟩
    · rw [if_neg c1, if_neg c1, setInner, setInnerR, at_setI id2 hy.1, at_setR r1 hy.1]
      by_cases c2 : y = (A.length : Int)
      · rw [if_pos c2, if_pos c2]
        rw [c2] at sy
        exact ⟨sy.kind, sy.space, sy.name, sy.attrs, sy.data, sy.system, rfl, sy.host, sy.up, by rw [c2]; exact sy.kids⟩
      · rw [if_neg c2, if_neg c2]; exact sy
  · rw [if_neg ht, if_neg ht]
    exact ⟨by rw [hl], fun _ => rfl, _, h7⟩
theorem Two.link {A : List Node_one} {K : Int → List Int} {R R' : List Ref01_one} (t : Two A K R) {up id before : Int} (s : Sim (linkL A up id before).2 (linkKs A K up id before) R') : Two (linkL A up id before).2 (linkKs A K up id before) R' := ⟨t.tree.linkS _ _ _, s, by rw [linkL_len]; exact t.pos, by rw [linkL_len]; exact t.max⟩
theorem Two.unlink {A : List Node_one} {K : Int → List Int} {R R' : List Ref01_one} (t : Two A K R) {id : Int} (s : Sim (unlinkL A id).2 (unlinkKs A K id) R') : Two (unlinkL A id).2 (unlinkKs A K id) R' := ⟨t.tree.unlinkS _, s, by rw [unlinkL_len]; exact t.pos, by rw [unlinkL_len]; exact t.max⟩
end Go.Proofs.Ythkmnohghpdjhaa
end
section
set_option linter.unusedVariables false
set_option linter.unusedSimpArgs false
namespace Go.Proofs.Ythkmnohghpdjhaa
open Go Go.Hb Go.RowKit
structure Loc (A : List Node_one) (K : Int → List Int) (B : List Node_one) (L : Int → List Int) (x y : Int) : Prop where
  ha : hasB A x = true
  hb : hasB B y = true
  kind : (nodeA A x).Kind = (nodeA B y).Kind
  space : (nodeA A x).Space = (nodeA B y).Space
  name : (nodeA A x).Name = (nodeA B y).Name
  data : (nodeA A x).Data = (nodeA B y).Data
  system : (nodeA A x).System = (nodeA B y).System
  attrs : (nodeA A x).Attrs = (nodeA B y).Attrs
  kids : (K x).length = (L y).length
  inner : (nodeA A x).Inner = -1 ↔ (nodeA B y).Inner = -1
noncomputable def locB (A : List Node_one) (K : Int → List Int) (B : List Node_one) (L : Int → List Int) (x y : Int) : Bool := @decide (Loc A K B L x y) (Classical.propDecidable _)
theorem locB_iff {A : List Node_one} {K : Int → List Int} {B : List Node_one} {L : Int → List Int} {x y : Int} : locB A K B L x y = true ↔ Loc A K B L x y := by simp [locB]
theorem locB_not {A : List Node_one} {K : Int → List Int} {B : List Node_one} {L : Int → List Int} {x y : Int} (h : ¬ Loc A K B L x y) : locB A K B L x y = false := by
  cases e : locB A K B L x y with
  | false => rfl
  | true => exact absurd (locB_iff.1 e) h
/-- the pairs right below a pair -/
def belowP (A : List Node_one) (K : Int → List Int) (B : List Node_one) (L : Int → List Int) (x y : Int) : List (Int × Int) := (if (nodeA A x).Inner = -1 then [] else [((nodeA A x).Inner, (nodeA B y).Inner)]) ++ (K x).zip (L y)
noncomputable def sameF (A : List Node_one) (K : Int → List Int) (B : List Node_one) (L : Int → List Int) : Nat → Int → Int → Bool
  | 0, _, _ => false
  | f + 1, x, y => locB A K B L x y && (belowP A K B L x y).all fun p => sameF A K B L f p.1 p.2
theorem below_cnt {A : List Node_one} {K : Int → List Int} (t : Tree A K) (g : InnOk A) {B : List Node_one} {L : Int → List Int} {x y : Int} (hx : InA A x) : ((belowP A K B L x y).map fun p => cnt A p.1).sum + 1 ≤ cnt A x := by
  have hz : (((K x).zip (L y)).map fun p => cnt A p.1).sum ≤ ((K x).map (cnt A)).sum := by
    generalize L y = m
    generalize K x = l
    induction l generalizing m with
    | nil => simp
    | cons a l ih =>
      cases m with
      | nil => simp
      | cons b m => have := ih m; simp only [List.zip_cons_cons, List.map_cons, List.sum_cons]; omega
  unfold belowP
  by_cases h : (nodeA A x).Inner = -1
  · rw [if_pos h, List.nil_append]
    have := kids_cnt t hx
    omega
  · rw [if_neg h]
    have := inner_cnt t g hx h
    simp only [List.cons_append, List.nil_append, List.map_cons, List.sum_cons]
    omega
theorem sum_memP {l : List (Int × Int)} {f : Int × Int → Nat} {c : Int × Int} (h : c ∈ l) : f c ≤ (l.map f).sum := by
  induction l with
  | nil => simp at h
  | cons y l ih =>
    simp only [List.map_cons, List.sum_cons]
    rcases List.mem_cons.1 h with rfl | h
    · omega
    · have := ih h; omega
theorem all_congr {α : Type} {l : List α} {f g : α → Bool} (h : ∀ x ∈ l, f x = g x) : l.all f = l.all g := by
  induction l with
  | nil => rfl
  | cons y l ih => simp only [List.all_cons, h y (by simp), ih fun x hx => h x (by simp [hx])]
theorem loc_out {A : List Node_one} {K : Int → List Int} {B : List Node_one} {L : Int → List Int} {x y : Int} (h : cnt A x = 0) : locB A K B L x y = false := locB_not fun g => by
  have := cnt_pos (inA_iff.1 g.ha); omega
theorem sameF_fuel {A : List Node_one} {K : Int → List Int} (t : Tree A K) (g : InnOk A) {B : List Node_one} {L : Int → List Int} : ∀ (f f' : Nat) (x y : Int), cnt A x ≤ f → cnt A x ≤ f' → sameF A K B L f x y = sameF A K B L f' x y
  | 0, 0, _, _, _, _ => rfl
  | 0, f' + 1, x, y, h, _ => by
    show false = (_ && _)
    rw [loc_out (by omega)]; rfl
  | f + 1, 0, x, y, _, h => by
    show (_ && _) = false
    rw [loc_out (by omega)]; rfl
  | f + 1, f' + 1, x, y, h, h' => by
    show (_ && _) = (_ && _)
    by_cases hx : hasB A x = true
    · have hb := below_cnt t g (B := B) (L := L) (y := y) (inA_iff.1 hx)
      congr 1
      refine all_congr fun p hp => ?_
      have := sum_memP (f := fun p => cnt A p.1) hp
      exact sameF_fuel t g f f' p.1 p.2 (by omega) (by omega)
    · rw [locB_not fun h => hx h.ha]; rfl
noncomputable def sameN (A : List Node_one) (K : Int → List Int) (B : List Node_one) (L : Int → List Int) (x y : Int) : Bool := sameF A K B L A.length x y
theorem sameN_step {A : List Node_one} {K : Int → List Int} (t : Tree A K) (g : InnOk A) {B : List Node_one} {L : Int → List Int} {x y : Int} : sameN A K B L x y = (locB A K B L x y && (belowP A K B L x y).all fun p => sameN A K B L p.1 p.2) := by
  have e : sameN A K B L x y = sameF A K B L (A.length + 1) x y := sameF_fuel t g _ _ _ _ cnt_le (Nat.le_succ_of_le cnt_le)
  rw [e]; rfl
theorem sameN_no {A : List Node_one} {K : Int → List Int} (t : Tree A K) (g : InnOk A) {B : List Node_one} {L : Int → List Int} {x y : Int} (h : ¬ Loc A K B L x y) : sameN A K B L x y = false := by
  rw [sameN_step t g, locB_not h]; rfl
theorem sameN_yes {A : List Node_one} {K : Int → List Int} (t : Tree A K) (g : InnOk A) {B : List Node_one} {L : Int → List Int} {x y : Int} (h : Loc A K B L x y) : sameN A K B L x y = (belowP A K B L x y).all fun p => sameN A K B L p.1 p.2 := by
  rw [sameN_step t g, locB_iff.2 h, Bool.true_and]
def errN (A : List Node_one) (id : Int) : Int := if hasB A id = true then 0 else 6
/-- what Node tells -/
def NX (A : List Node_one) (id : Int) (n : Api_node) : Prop := hasB A id = true → ∃ q d, n = ownN (nodeA A id) q d
theorem NX.kind {A : List Node_one} {id : Int} {n : Api_node} (h : NX A id n) (hb : hasB A id = true) : n.Kind = (nodeA A id).Kind := by obtain ⟨q, d, rfl⟩ := h hb; rfl
theorem NX.space {A : List Node_one} {id : Int} {n : Api_node} (h : NX A id n) (hb : hasB A id = true) : n.Space = (nodeA A id).Space := by obtain ⟨q, d, rfl⟩ := h hb; rfl
theorem NX.name {A : List Node_one} {id : Int} {n : Api_node} (h : NX A id n) (hb : hasB A id = true) : n.Name = (nodeA A id).Name := by obtain ⟨q, d, rfl⟩ := h hb; rfl
theorem NX.data {A : List Node_one} {id : Int} {n : Api_node} (h : NX A id n) (hb : hasB A id = true) : n.Data = (nodeA A id).Data := by obtain ⟨q, d, rfl⟩ := h hb; rfl
theorem NX.system {A : List Node_one} {id : Int} {n : Api_node} (h : NX A id n) (hb : hasB A id = true) : n.System = (nodeA A id).System := by obtain ⟨q, d, rfl⟩ := h hb; rfl
theorem NX.inner {A : List Node_one} {id : Int} {n : Api_node} (h : NX A id n) (hb : hasB A id = true) : n.Inner = (nodeA A id).Inner := by obtain ⟨q, d, rfl⟩ := h hb; rfl
theorem NX.attrs {A : List Node_one} {id : Int} {n : Api_node} (h : NX A id n) (hb : hasB A id = true) : n.Attrs = (nodeA A id).Attrs := by obtain ⟨q, d, rfl⟩ := h hb; rfl
section
variable {k : Ctx} {w : World}
theorem NodeX_spec {a : Nat} {A : List Node_one} {id : Int} (hn : 0 < A.length) (ha : AttrsOk A) (hO : Own k w [arenaL a A]) :
    Tri Try.prog 34 #[.pointer (some ⟨a, 0, none⟩), .int .i64 id] k w fun v m => ∃ n, NX A id n ∧ v = .tuple #[.agg (Api_node.cells n).toArray, .int .i64 (errN A id)] ∧ m = [arenaL a A, sls n.AttrsP n.AttrsC 63 4 Api_attr.cells n.Attrs] := by
  refine Ret.mono (Node_spec hn ha hO) ?_
  rintro v w' ⟨m, (⟨h, rfl, rfl⟩ | ⟨h, q, d, rfl, rfl⟩), hO⟩
  · refine ⟨_, ⟨default, (fun e => by rw [h] at e; cases e), by rw [errN, h]; rfl, rfl⟩, ?_⟩
    exact (sl_nil 63 4 hO).swap
  · exact ⟨_, ⟨_, fun _ => ⟨q, d, rfl⟩, by rw [errN, h]; rfl, rfl⟩, hO⟩
def kidsX (A : List Node_one) (K : Int → List Int) (id : Int) : List Int := if hasB A id = true then K id else []
theorem KidsX_spec {a : Nat} {A : List Node_one} {K : Int → List Int} {id : Int} (h : Tree A K) (h0 : 0 < A.length) (hl : A.length ≤ 32768) (hO : Own k w [arenaL a A]) :
    Tri Try.prog 54 #[.pointer (some ⟨a, 0, none⟩), .int .i64 id] k w fun v m => ∃ q d, v = .slice q (kidsX A K id).length d ∧ m = [arenaL a A, sls q d 3 1 (eI .i64) (kidsX A K id)] := by
  refine Ret.mono (Kids_spec (xs := kidsX A K id) h0 (by
    unfold kidsX
    split
    · next e => have := h.len (inA_iff.1 e); omega
    · exact Nat.zero_le _) (fun e => by rw [kidsX, if_pos e]; exact (h.lnk id (inA_iff.1 e)).chain) hO) ?_
  rintro v w' ⟨m, (⟨e, rfl, rfl⟩ | ⟨e, q, d, rfl, rfl⟩), hO⟩
  · have e2 : kidsX A K id = [] := by rw [kidsX, e, if_neg (by simp)]
    rw [e2]
    exact ⟨_, ⟨none, 0, rfl, rfl⟩, (sl_nil 3 1 hO).swap⟩
  · exact ⟨_, ⟨q, d, rfl, rfl⟩, hO⟩
/-- slices.Equal -/
theorem Equal_spec {xs ys : List Api_attr} {p q : Option Addr} {c d : Nat} (h1 : Sli (Ro k) (.slice p xs.length c) (xs.map Api_attr.cells)) (h2 : Sli (Ro k) (.slice q ys.length d) (ys.map Api_attr.cells)) (hl : xs.length ≤ 1000000) (hO : Own k w []) :
    Tri Try.prog 66 #[.slice p xs.length c, .slice q ys.length d] k w fun v m => v = .bool (decide (xs = ys)) ∧ m = [] := by
  refine enter (args := [.slice p xs.length c, .slice q ys.length d]) Try.func66 rfl rfl ?_
  have hgp := sli_gs h1
  have hgq := sli_gs h2
  refine K0 (K1 ?_)
  refine l_y rfl rfl (y_assign rfl) ?_
  refine K2 (K3 (K0 (K0 (K1 ?_))))
  refine l_y rfl rfl (y_move rfl) ?_
  refine l_y rfl rfl (y_lenL rfl) ?_
  refine l_y rfl rfl (y_move rfl) ?_
  refine l_y rfl rfl (y_lenL rfl) ?_
  refine Z1 (fun h1_4 => ?_) (fun h1_4 => ?_)
  · refine K2 (K3 (L8 (K0 (K1 ?_))))
    refine l_y rfl rfl (y_assign rfl) ?_
    refine K2 (K3 (K6 (K9 ?_)))
    exact fin1 rfl rfl ⟨_, ⟨by rw [decide_eq_false fun e => h1_4 (by rw [e])], rfl⟩, hO⟩
  · refine K2 (K3 (L9 (K5 (K3 (K0 (K0 (K1 ?_)))))))
    refine l_y rfl rfl (y_move rfl) ?_
    refine l_y rfl rfl (y_lenL rfl) ?_
    refine l_y rfl rfl (y_move rfl) ?_
    refine K2 (K3 (K4 ?_))
    refine c_rounds (X := Nat) (fun i => [(0, .slice p xs.length c), (1, .slice q ys.length d), (4, .bool false), (12, .int .i64 ((xs.length : Nat) : Int)), (13, .int .i64 (i : Int))]) (fun i w => Own k w [] ∧ (i ≤ xs.length ∧ ∀ j, j < i → at_ xs j = at_ ys j)) (fun i => xs.length - i) (0) ⟨rfl, rfl, rfl, rfl, rfl, trivial⟩ ⟨hO.only [], ⟨Nat.zero_le _, fun j h => absurd h (Nat.not_lt_zero _)⟩⟩ ?_
    rintro i w m hm ⟨hO, hi⟩
    refine K0 (K1 ?_)
    refine Z0 (fun h4_0 => ?_) (fun h4_0 => ?_)
    · refine K2 (K3 (K0 (L8 (K5 (K3 (K0 (K4 (K0 (K1 ?_)))))))))
      refine l_y rfl rfl (y_move rfl) ?_
      refine l_y rfl rfl (y_assign rfl) ?_
      refine K2 (K3 (K0 ?_))
      refine da_region (by intro c a d v w h; cases d <;> exact h) ?_
      have hO := hO.drew
      refine da_phase _ [] (SO.ks [] hO) ?_
      refine dx_u 0 (by kernel_rfl) rfl rfl rfl (fun w => y_move rfl) ?_
      refine dx_u 1 (by kernel_rfl) rfl rfl rfl (fun w => y_move rfl) ?_
      refine dx_u 2 (by kernel_rfl) rfl rfl rfl (fun w => y_idx rfl rfl) ?_
      refine dx_y 3 (by kernel_rfl) rfl rfl rfl (fun w ⟨m, hw⟩ => y_rA (x0 := 0) (enc := Api_attr.cells) (xs := xs) (cs := [.int .i64 (at_ xs ((i : Int) : Int).toNat).Space, .string (at_ xs ((i : Int) : Int).toNat).Prefix, .string (at_ xs ((i : Int) : Int).toNat).Name, .string (at_ xs ((i : Int) : Int).toNat).Value]) hw rfl) ?_
      refine dx_u 4 (by kernel_rfl) rfl rfl rfl (fun w => y_move rfl) ?_
      refine dx_u 5 (by kernel_rfl) rfl rfl rfl (fun w => y_move rfl) ?_
      refine dx_u 6 (by kernel_rfl) rfl rfl rfl (fun w => y_idx rfl rfl) ?_
      refine dx_y 7 (by kernel_rfl) rfl rfl rfl (fun w ⟨m, hw⟩ => y_rA (x0 := 0) (enc := Api_attr.cells) (xs := ys) (cs := [.int .i64 (at_ ys ((i : Int) : Int).toNat).Space, .string (at_ ys ((i : Int) : Int).toNat).Prefix, .string (at_ ys ((i : Int) : Int).toNat).Name, .string (at_ ys ((i : Int) : Int).toNat).Value]) hw rfl) ?_
      refine dx_y 8 (by kernel_rfl) rfl rfl rfl (fun w ⟨m, hw⟩ => y_neA (enc := Api_attr.cells) (a := at_ xs i) (b := at_ ys i) rfl rfl rfl) ?_
      refine dx_end (by kernel_rfl) ?_
      refine K3 ?_
      refine c_split rfl (fun hc24 => ?_) (fun hc24 => ?_)
      · simp only [Bool.not_eq_true', Bool.not_eq_false'] at hc24
        refine K0 ?_
        have hne : ¬ at_ xs i = at_ ys i := by simpa using hc24
        refine K1 ?_
        refine l_y rfl rfl (y_assign rfl) ?_
        refine K2 (K3 (K6 (L0 (K9 (K9 (L0 (K9 ?_)))))))
        exact fin1 rfl rfl ⟨_, ⟨by rw [decide_eq_false fun e => hne (by rw [e])], rfl⟩, hO⟩
      · simp only [Bool.not_eq_true', Bool.not_eq_false'] at hc24
        refine K5 (K8 (K3 ?_))
        have heq : at_ xs i = at_ ys i := by simpa using hc24
        refine K1 ?_
        refine l_y rfl rfl (D4) ?_
        refine l_y rfl rfl (y_move rfl) ?_
        refine K2 ?_
        exact q_next (i + 1) ⟨rfl, rfl, rfl, rfl, rfl, trivial⟩ ⟨hO.only [], ⟨by omega, fun j hj => if e : j = i then (by rw [e]; exact heq) else hi.2 j (by omega)⟩⟩ (by omega)
    · refine K2 (K3 (K0 (L9 (K7 (L1 (L1 (L2 (K3 (K0 (K1 ?_))))))))))
      refine l_y rfl rfl (y_assign rfl) ?_
      refine K2 (K3 (K6 ?_))
      have e : xs = ys := at_ext (by omega) fun j hj => hi.2 j (by omega)
      exact fin1 rfl rfl ⟨_, ⟨by rw [decide_eq_true e], rfl⟩, hO⟩
end
end Go.Proofs.Ythkmnohghpdjhaa
end
section
set_option linter.unusedVariables false
set_option linter.unusedSimpArgs false
set_option maxRecDepth 100000
namespace Go.Proofs.Ythkmnohghpdjhaa
open Go Go.Hb Go.RowKit
section
variable {k : Ctx} {w : World}
/-- a pile in memory -/
def pileitem (b : Nat) (xs : List Show_item) : HP := fun h => ∃ x : Option Addr × Nat, sep [blk b 102 [.slice x.1 xs.length x.2], sls x.1 x.2 106 3 Show_item.cells xs] h
theorem pileitem_open {l : List HP} {b : Nat} {xs : List Show_item} (hO : Own k w (pileitem b xs :: l)) : ∃ p c, Gs p xs.length ∧ xs.length ≤ c ∧ Own k w (blk b 102 [.slice p xs.length c] :: sls p c 106 3 Show_item.cells xs :: l) := by
  obtain ⟨⟨p, c⟩, hO⟩ := Own.ex (A := fun x : Option Addr × Nat => sep [blk b 102 [.slice x.1 xs.length x.2], sls x.1 x.2 106 3 Show_item.cells xs]) hO
  have hO := Own.open hO
  simp only [List.cons_append, List.nil_append] at hO
  exact ⟨p, c, (sls_fct (p := p) hO).2, (sls_fct (p := p) hO).1, hO⟩
theorem pileitem_shut {l : List HP} {b n : Nat} {xs : List Show_item} {p : Option Addr} {c : Nat} (hO : Own k w (blk b 102 [.slice p n c] :: sls p c 106 3 Show_item.cells xs :: l)) (hn : n = xs.length := by first | rfl | simp) : Own k w (pileitem b xs :: l) := by
  subst hn
  exact (Own.shut (l := [blk b 102 [.slice p xs.length c], sls p c 106 3 Show_item.cells xs]) hO).tell fun h hA => ⟨(p, c), hA⟩
instance (priority := high) AtK.hpileitem (b : Nat) (xs : List Show_item) (l : List HP) : AtK (pileitem b xs :: l) (.o b) (pileitem b xs) l := ⟨.hd _ l⟩
theorem pushitem_spec {b : Nat} {xs ys : List Show_item} {q : Option Addr} {d : Nat} (hs : Sli (Ro k) (.slice q ys.length d) (ys.map Show_item.cells)) (hl : xs.length + ys.length ≤ 1000000000) (hO : Own k w [pileitem b xs]) :
    Tri Try.prog 55 #[.pointer (some ⟨b, 0, none⟩), .slice q ys.length d] k w fun v m => m = [pileitem b (xs ++ ys)] := by
  refine enter (args := [.pointer (some ⟨b, 0, none⟩), .slice q ys.length d]) Try.func55 rfl rfl ?_
  obtain ⟨p, c, hg, hc, hO⟩ := pileitem_open hO
  have hgq := sli_gs hs
  refine K1 ?_
  refine l_y rfl rfl (y_move rfl) ?_
  refine l_y rfl rfl (y_move rfl) ?_
  refine l_y rfl rfl (y_nilCheck rfl rfl) ?_
  refine l_y rfl rfl (y_fldb (o' := 0) rfl) ?_
  refine l_y rfl rfl (D5 hO rfl) ?_
  refine l_y rfl rfl (y_move rfl) ?_
  refine s_app hO rfl rfl (src_ro hO (by assumption)) (fun p10 c10 w hO gs10 => ?_) (h63 := by omega) (hb := by omega)
  refine l_y rfl rfl (y_nilCheck rfl rfl) ?_
  refine l_y rfl rfl (y_fldb (o' := 0) rfl) ?_
  refine Y1 hO rfl rfl (fun w hO => ?_)
  simp only [List.set_cons_zero, List.set_cons_succ] at hO
  refine K2 ?_
  exact fin0 rfl ⟨_, rfl, (pileitem_shut (hO.ks [.b b, .p p10])).one⟩
theorem popNitem_spec {b : Nat} (hO : Own k w [pileitem b []]) :
    Tri Try.prog 56 #[.pointer (some ⟨b, 0, none⟩)] k w fun v m => v = .tuple #[.agg (Show_item.cells default).toArray, .bool false] ∧ m = [pileitem b []] := by
  refine enter (args := [.pointer (some ⟨b, 0, none⟩)]) Try.func56 rfl rfl ?_
  obtain ⟨p, c, hg, hc, hO⟩ := pileitem_open hO
  refine K0 (K1 ?_)
  refine s_alloc (vs := [.int .i64 0, .int .i64 0, .string ⟨#[]⟩]) hO rfl rfl rfl fun b2 w hO => ?_
  refine l_y rfl rfl (y_assign rfl) ?_
  refine K2 (K3 (K0 (K1 ?_)))
  refine s_alloc (vs := [.int .i64 0, .int .i64 0, .string ⟨#[]⟩]) hO rfl rfl rfl fun b4 w hO => ?_
  refine K2 (K3 (K0 (K1 ?_)))
  refine l_y rfl rfl (y_move rfl) ?_
  refine l_y rfl rfl (y_nilCheck rfl rfl) ?_
  refine l_y rfl rfl (y_fldb (o' := 0) rfl) ?_
  refine l_y rfl rfl (D5 hO rfl) ?_
  refine l_y rfl rfl (y_lenL rfl) ?_
  refine l_y rfl rfl (y_assign rfl) ?_
  refine K2 (K3 (K0 (K0 (K1 ?_))))
  refine l_y rfl rfl (y_move rfl) ?_
  refine N2 (hp := rfl) ?_
  refine K2 (K3 (L8 (K0 (K1 ?_))))
  refine l_y rfl rfl (D8 (cs := [.int .i64 0, .int .i64 0, .string ⟨#[]⟩]) hO rfl) ?_
  refine Y3 hO rfl rfl (fun w hO => ?_)
  refine l_y rfl rfl (y_assign rfl) ?_
  refine K2 (K3 (K6 (K9 ?_)))
  exact finC1 hO rfl rfl rfl ⟨_, ⟨rfl, rfl⟩, (pileitem_shut (hO.ks [.b b, .p p])).one⟩
theorem popitem_spec {b : Nat} {xs : List Show_item} {x : Show_item} (hl : xs.length ≤ 1000000000) (hO : Own k w [pileitem b (xs ++ [x])]) :
    Tri Try.prog 56 #[.pointer (some ⟨b, 0, none⟩)] k w fun v m => v = .tuple #[.agg (Show_item.cells x).toArray, .bool true] ∧ m = [pileitem b xs] := by
  refine enter (args := [.pointer (some ⟨b, 0, none⟩)]) Try.func56 rfl rfl ?_
  obtain ⟨p, c, hg, hc, hO⟩ := pileitem_open hO
  obtain ⟨ys, hy⟩ : ∃ ys, ys = xs ++ [x] := ⟨_, rfl⟩
  have hyl : ys.length = xs.length + 1 := by rw [hy]; simp
  have hya : at_ ys xs.length = x := by rw [hy, at_app_new]
  rw [← hy] at hO hg hc
  refine K0 (K1 ?_)
  refine s_alloc (vs := [.int .i64 0, .int .i64 0, .string ⟨#[]⟩]) hO rfl rfl rfl fun b2 w hO => ?_
  refine l_y rfl rfl (y_assign rfl) ?_
  refine K2 (K3 (K0 (K1 ?_)))
  refine s_alloc (vs := [.int .i64 0, .int .i64 0, .string ⟨#[]⟩]) hO rfl rfl rfl fun b4 w hO => ?_
  refine K2 (K3 (K0 (K1 ?_)))
  refine l_y rfl rfl (y_move rfl) ?_
  refine l_y rfl rfl (y_nilCheck rfl rfl) ?_
  refine l_y rfl rfl (y_fldb (o' := 0) rfl) ?_
  refine l_y rfl rfl (D5 hO rfl) ?_
  refine l_y rfl rfl (y_lenL rfl) ?_
  refine l_y rfl rfl (y_assign rfl) ?_
  refine K2 (K3 (K0 (K0 (K1 ?_))))
  refine l_y rfl rfl (y_move rfl) ?_
  refine N3 ?_
  refine K2 (K3 (L9 (K5 (K3 (K0 ?_)))))
  refine da_region (by intro c a d v w h; cases d <;> exact h) ?_
  have hO := hO.drew
  refine da_phase _ [19] (SO.ks [.b b, .p p] hO) ?_
  refine dx_u 0 (by kernel_rfl) rfl rfl rfl (fun w => y_move rfl) ?_
  refine dx_u 1 (by kernel_rfl) rfl rfl rfl (fun w => y_move rfl) ?_
  refine dx_u 2 (by kernel_rfl) rfl rfl rfl (fun w => y_nilCheck rfl rfl) ?_
  refine dx_u 3 (by kernel_rfl) rfl rfl rfl (fun w => y_fldb (o' := 0) rfl) ?_
  refine dx_y 4 (by kernel_rfl) rfl rfl rfl (fun w ⟨m, hw⟩ => D5 hw rfl) ?_
  refine dx_u 5 (by kernel_rfl) rfl rfl rfl (fun w => y_move rfl) ?_
  refine dx_u 6 (by kernel_rfl) rfl rfl rfl (fun w => D4) ?_
  refine dx_u 7 (by kernel_rfl) rfl rfl rfl (fun w => y_idx rfl rfl) ?_
  refine dx_y 8 (by kernel_rfl) rfl rfl rfl (fun w ⟨m, hw⟩ => y_eA (x0 := 0) (cs := [.int .i64 (at_ ys ((((ys.length : Nat) : Int) - 1) : Int).toNat).id, .int .i64 (at_ ys ((((ys.length : Nat) : Int) - 1) : Int).toNat).depth, .string (at_ ys ((((ys.length : Nat) : Int) - 1) : Int).toNat).line]) hw rfl) ?_
  refine dx_u 9 (by kernel_rfl) rfl rfl rfl (fun w => y_move rfl) ?_
  refine dx_u 10 (by kernel_rfl) rfl rfl rfl (fun w => y_nilCheck rfl rfl) ?_
  refine dx_u 11 (by kernel_rfl) rfl rfl rfl (fun w => y_fldb (o' := 0) rfl) ?_
  refine dx_y 12 (by kernel_rfl) rfl rfl rfl (fun w ⟨m, hw⟩ => D5 hw rfl) ?_
  refine dx_u 13 (by kernel_rfl) rfl rfl rfl (fun w => y_move rfl) ?_
  refine dx_u 14 (by kernel_rfl) rfl rfl rfl (fun w => D4) ?_
  refine dx_u 15 (by kernel_rfl) rfl rfl rfl (fun w => y_hd ((((ys.length : Nat) : Int) - 1) : Int).toNat rfl rfl) ?_
  refine dx_only 16 (by kernel_rfl) rfl rfl ?_
  refine Y3 hO rfl rfl (fun w hO => ?_)
  refine o_done ?_
  refine ⟨SO.ks [.b b, .p p] hO, ?_⟩
  refine dx_u 17 (by kernel_rfl) rfl rfl rfl (fun w => y_nilCheck rfl rfl) ?_
  refine dx_u 18 (by kernel_rfl) rfl rfl rfl (fun w => y_fldb (o' := 0) rfl) ?_
  refine dx_close 19 (by kernel_rfl) rfl rfl ?_
  refine Y1 hO rfl rfl (fun w hO => ?_)
  simp only [List.set_cons_zero, List.set_cons_succ] at hO
  refine o_done ?_
  refine da_end (by kernel_rfl) ?_
  refine K3 (K0 (K1 ?_))
  refine l_y rfl rfl (D8 (cs := [.int .i64 (at_ ys ((((ys.length : Nat) : Int) - 1) : Int).toNat).id, .int .i64 (at_ ys ((((ys.length : Nat) : Int) - 1) : Int).toNat).depth, .string (at_ ys ((((ys.length : Nat) : Int) - 1) : Int).toNat).line]) hO rfl) ?_
  refine Y3 hO rfl rfl (fun w hO => ?_)
  refine l_y rfl rfl (y_assign rfl) ?_
  refine K2 (K3 (K6 ?_))
  have e1 : ((ys.length : Int) - 1).toNat = xs.length := by omega
  simp only [e1, hya] at hO
  have hO := sls_cut (hO.ks [.p p]) xs.length c (by omega) (by omega) (Nat.le_refl _)
  rw [show ys.take xs.length = xs by rw [hy]; simp] at hO
  exact finC1 hO rfl rfl rfl ⟨_, ⟨rfl, rfl⟩, (pileitem_shut (hO.ks [.b b, .p p])).one⟩
/-- a pile in memory -/
def piletwin (b : Nat) (xs : List Show_twin) : HP := fun h => ∃ x : Option Addr × Nat, sep [blk b 121 [.slice x.1 xs.length x.2], sls x.1 x.2 124 2 Show_twin.cells xs] h
theorem piletwin_open {l : List HP} {b : Nat} {xs : List Show_twin} (hO : Own k w (piletwin b xs :: l)) : ∃ p c, Gs p xs.length ∧ xs.length ≤ c ∧ Own k w (blk b 121 [.slice p xs.length c] :: sls p c 124 2 Show_twin.cells xs :: l) := by
  obtain ⟨⟨p, c⟩, hO⟩ := Own.ex (A := fun x : Option Addr × Nat => sep [blk b 121 [.slice x.1 xs.length x.2], sls x.1 x.2 124 2 Show_twin.cells xs]) hO
  have hO := Own.open hO
  simp only [List.cons_append, List.nil_append] at hO
  exact ⟨p, c, (sls_fct (p := p) hO).2, (sls_fct (p := p) hO).1, hO⟩
theorem piletwin_shut {l : List HP} {b n : Nat} {xs : List Show_twin} {p : Option Addr} {c : Nat} (hO : Own k w (blk b 121 [.slice p n c] :: sls p c 124 2 Show_twin.cells xs :: l)) (hn : n = xs.length := by first | rfl | simp) : Own k w (piletwin b xs :: l) := by
  subst hn
  exact (Own.shut (l := [blk b 121 [.slice p xs.length c], sls p c 124 2 Show_twin.cells xs]) hO).tell fun h hA => ⟨(p, c), hA⟩
instance (priority := high) AtK.hpiletwin (b : Nat) (xs : List Show_twin) (l : List HP) : AtK (piletwin b xs :: l) (.o b) (piletwin b xs) l := ⟨.hd _ l⟩
theorem pushtwin_spec {b : Nat} {xs ys : List Show_twin} {q : Option Addr} {d : Nat} (hs : Sli (Ro k) (.slice q ys.length d) (ys.map Show_twin.cells)) (hl : xs.length + ys.length ≤ 1000000000) (hO : Own k w [piletwin b xs]) :
    Tri Try.prog 64 #[.pointer (some ⟨b, 0, none⟩), .slice q ys.length d] k w fun v m => m = [piletwin b (xs ++ ys)] := by
  refine enter (args := [.pointer (some ⟨b, 0, none⟩), .slice q ys.length d]) Try.func64 rfl rfl ?_
  obtain ⟨p, c, hg, hc, hO⟩ := piletwin_open hO
  have hgq := sli_gs hs
  refine K1 ?_
  refine l_y rfl rfl (y_move rfl) ?_
  refine l_y rfl rfl (y_move rfl) ?_
  refine l_y rfl rfl (y_nilCheck rfl rfl) ?_
  refine l_y rfl rfl (y_fldb (o' := 0) rfl) ?_
  refine l_y rfl rfl (D5 hO rfl) ?_
  refine l_y rfl rfl (y_move rfl) ?_
  refine s_app hO rfl rfl (src_ro hO (by assumption)) (fun p10 c10 w hO gs10 => ?_) (h63 := by omega) (hb := by omega)
  refine l_y rfl rfl (y_nilCheck rfl rfl) ?_
  refine l_y rfl rfl (y_fldb (o' := 0) rfl) ?_
  refine Y1 hO rfl rfl (fun w hO => ?_)
  simp only [List.set_cons_zero, List.set_cons_succ] at hO
  refine K2 ?_
  exact fin0 rfl ⟨_, rfl, (piletwin_shut (hO.ks [.b b, .p p10])).one⟩
theorem popNtwin_spec {b : Nat} (hO : Own k w [piletwin b []]) :
    Tri Try.prog 65 #[.pointer (some ⟨b, 0, none⟩)] k w fun v m => v = .tuple #[.agg (Show_twin.cells default).toArray, .bool false] ∧ m = [piletwin b []] := by
  refine enter (args := [.pointer (some ⟨b, 0, none⟩)]) Try.func65 rfl rfl ?_
  obtain ⟨p, c, hg, hc, hO⟩ := piletwin_open hO
  refine K0 (K1 ?_)
  refine s_alloc (vs := [.int .i64 0, .int .i64 0]) hO rfl rfl rfl fun b2 w hO => ?_
  refine l_y rfl rfl (y_assign rfl) ?_
  refine K2 (K3 (K0 (K1 ?_)))
  refine s_alloc (vs := [.int .i64 0, .int .i64 0]) hO rfl rfl rfl fun b4 w hO => ?_
  refine K2 (K3 (K0 (K1 ?_)))
  refine l_y rfl rfl (y_move rfl) ?_
  refine l_y rfl rfl (y_nilCheck rfl rfl) ?_
  refine l_y rfl rfl (y_fldb (o' := 0) rfl) ?_
  refine l_y rfl rfl (D5 hO rfl) ?_
  refine l_y rfl rfl (y_lenL rfl) ?_
  refine l_y rfl rfl (y_assign rfl) ?_
  refine K2 (K3 (K0 (K0 (K1 ?_))))
  refine l_y rfl rfl (y_move rfl) ?_
  refine N2 (hp := rfl) ?_
  refine K2 (K3 (L8 (K0 (K1 ?_))))
  refine l_y rfl rfl (D8 (cs := [.int .i64 0, .int .i64 0]) hO rfl) ?_
  refine Y3 hO rfl rfl (fun w hO => ?_)
  refine l_y rfl rfl (y_assign rfl) ?_
  refine K2 (K3 (K6 (K9 ?_)))
  exact finC1 hO rfl rfl rfl ⟨_, ⟨rfl, rfl⟩, (piletwin_shut (hO.ks [.b b, .p p])).one⟩
theorem poptwin_spec {b : Nat} {xs : List Show_twin} {x : Show_twin} (hl : xs.length ≤ 1000000000) (hO : Own k w [piletwin b (xs ++ [x])]) :
    Tri Try.prog 65 #[.pointer (some ⟨b, 0, none⟩)] k w fun v m => v = .tuple #[.agg (Show_twin.cells x).toArray, .bool true] ∧ m = [piletwin b xs] := by
  refine enter (args := [.pointer (some ⟨b, 0, none⟩)]) Try.func65 rfl rfl ?_
  obtain ⟨p, c, hg, hc, hO⟩ := piletwin_open hO
  obtain ⟨ys, hy⟩ : ∃ ys, ys = xs ++ [x] := ⟨_, rfl⟩
  have hyl : ys.length = xs.length + 1 := by rw [hy]; simp
  have hya : at_ ys xs.length = x := by rw [hy, at_app_new]
  rw [← hy] at hO hg hc
  refine K0 (K1 ?_)
  refine s_alloc (vs := [.int .i64 0, .int .i64 0]) hO rfl rfl rfl fun b2 w hO => ?_
  refine l_y rfl rfl (y_assign rfl) ?_
  refine K2 (K3 (K0 (K1 ?_)))
  refine s_alloc (vs := [.int .i64 0, .int .i64 0]) hO rfl rfl rfl fun b4 w hO => ?_
  refine K2 (K3 (K0 (K1 ?_)))
  refine l_y rfl rfl (y_move rfl) ?_
  refine l_y rfl rfl (y_nilCheck rfl rfl) ?_
  refine l_y rfl rfl (y_fldb (o' := 0) rfl) ?_
  refine l_y rfl rfl (D5 hO rfl) ?_
  refine l_y rfl rfl (y_lenL rfl) ?_
  refine l_y rfl rfl (y_assign rfl) ?_
  refine K2 (K3 (K0 (K0 (K1 ?_))))
  refine l_y rfl rfl (y_move rfl) ?_
  refine N3 ?_
  refine K2 (K3 (L9 (K5 (K3 (K0 ?_)))))
  refine da_region (by intro c a d v w h; cases d <;> exact h) ?_
  have hO := hO.drew
  refine da_phase _ [19] (SO.ks [.b b, .p p] hO) ?_
  refine dx_u 0 (by kernel_rfl) rfl rfl rfl (fun w => y_move rfl) ?_
  refine dx_u 1 (by kernel_rfl) rfl rfl rfl (fun w => y_move rfl) ?_
  refine dx_u 2 (by kernel_rfl) rfl rfl rfl (fun w => y_nilCheck rfl rfl) ?_
  refine dx_u 3 (by kernel_rfl) rfl rfl rfl (fun w => y_fldb (o' := 0) rfl) ?_
  refine dx_y 4 (by kernel_rfl) rfl rfl rfl (fun w ⟨m, hw⟩ => D5 hw rfl) ?_
  refine dx_u 5 (by kernel_rfl) rfl rfl rfl (fun w => y_move rfl) ?_
  refine dx_u 6 (by kernel_rfl) rfl rfl rfl (fun w => D4) ?_
  refine dx_u 7 (by kernel_rfl) rfl rfl rfl (fun w => y_idx rfl rfl) ?_
  refine dx_y 8 (by kernel_rfl) rfl rfl rfl (fun w ⟨m, hw⟩ => y_eA (x0 := 0) (cs := [.int .i64 (at_ ys ((((ys.length : Nat) : Int) - 1) : Int).toNat).x, .int .i64 (at_ ys ((((ys.length : Nat) : Int) - 1) : Int).toNat).y]) hw rfl) ?_
  refine dx_u 9 (by kernel_rfl) rfl rfl rfl (fun w => y_move rfl) ?_
  refine dx_u 10 (by kernel_rfl) rfl rfl rfl (fun w => y_nilCheck rfl rfl) ?_
  refine dx_u 11 (by kernel_rfl) rfl rfl rfl (fun w => y_fldb (o' := 0) rfl) ?_
  refine dx_y 12 (by kernel_rfl) rfl rfl rfl (fun w ⟨m, hw⟩ => D5 hw rfl) ?_
  refine dx_u 13 (by kernel_rfl) rfl rfl rfl (fun w => y_move rfl) ?_
  refine dx_u 14 (by kernel_rfl) rfl rfl rfl (fun w => D4) ?_
  refine dx_u 15 (by kernel_rfl) rfl rfl rfl (fun w => y_hd ((((ys.length : Nat) : Int) - 1) : Int).toNat rfl rfl) ?_
  refine dx_only 16 (by kernel_rfl) rfl rfl ?_
  refine Y3 hO rfl rfl (fun w hO => ?_)
  refine o_done ?_
  refine ⟨SO.ks [.b b, .p p] hO, ?_⟩
  refine dx_u 17 (by kernel_rfl) rfl rfl rfl (fun w => y_nilCheck rfl rfl) ?_
  refine dx_u 18 (by kernel_rfl) rfl rfl rfl (fun w => y_fldb (o' := 0) rfl) ?_
  refine dx_close 19 (by kernel_rfl) rfl rfl ?_
  refine Y1 hO rfl rfl (fun w hO => ?_)
  simp only [List.set_cons_zero, List.set_cons_succ] at hO
  refine o_done ?_
  refine da_end (by kernel_rfl) ?_
  refine K3 (K0 (K1 ?_))
  refine l_y rfl rfl (D8 (cs := [.int .i64 (at_ ys ((((ys.length : Nat) : Int) - 1) : Int).toNat).x, .int .i64 (at_ ys ((((ys.length : Nat) : Int) - 1) : Int).toNat).y]) hO rfl) ?_
  refine Y3 hO rfl rfl (fun w hO => ?_)
  refine l_y rfl rfl (y_assign rfl) ?_
  refine K2 (K3 (K6 ?_))
  have e1 : ((ys.length : Int) - 1).toNat = xs.length := by omega
  simp only [e1, hya] at hO
  have hO := sls_cut (hO.ks [.p p]) xs.length c (by omega) (by omega) (Nat.le_refl _)
  rw [show ys.take xs.length = xs by rw [hy]; simp] at hO
  exact finC1 hO rfl rfl rfl ⟨_, ⟨rfl, rfl⟩, (piletwin_shut (hO.ks [.b b, .p p])).one⟩
end
end Go.Proofs.Ythkmnohghpdjhaa
end
section
set_option linter.unusedVariables false
set_option linter.unusedSimpArgs false
set_option maxRecDepth 100000
namespace Go.Proofs.Ythkmnohghpdjhaa
open Go Go.Hb Go.RowKit
theorem errN_zero {A : List Node_one} {id : Int} (h : errN A id = 0) : hasB A id = true := by
  unfold errN at h
  split at h
  · assumption
  · cases h
def toT (p : Int × Int) : Show_twin := ⟨p.1, p.2⟩
def innT1 (A BB : List Node_one) (x y : Int) : List Show_twin := if (nodeA A x).Inner = -1 then [] else [⟨(nodeA A x).Inner, (nodeA BB y).Inner⟩]
theorem belowT {A : List Node_one} {K : Int → List Int} {BB : List Node_one} {LL : Int → List Int} {x y : Int} : (belowP A K BB LL x y).map toT = innT1 A BB x y ++ ((K x).zip (LL y)).map toT := by
  unfold belowP innT1
  split <;> simp [toT]
theorem zip_at {l m : List Int} {i : Nat} (h1 : i < l.length) (h2 : l.length = m.length) : ((l.zip m).map toT).take (i + 1) = ((l.zip m).map toT).take i ++ [⟨at_ l i, at_ m i⟩] := by
  rw [take_succ_at (by rw [List.length_map, List.length_zip]; omega)]
  congr 2
  refine at_eq ?_
  simp [List.getElem?_zip_eq_some, at_get h1, at_get (show i < m.length by omega), toT]
noncomputable def sumT (A : List Node_one) (l : List Show_twin) : Nat := (l.map fun p => cnt A p.x).sum
theorem sumT_app {A : List Node_one} {l m : List Show_twin} : sumT A (l ++ m) = sumT A l + sumT A m := by simp [sumT]
theorem sumT_one {A : List Node_one} {c : Show_twin} : sumT A [c] = cnt A c.x := by simp only [sumT, List.map_cons, List.map_nil, List.sum_cons, List.sum_nil]; omega
theorem sumT_below {A : List Node_one} {l : List (Int × Int)} : sumT A (l.map toT) = (l.map fun p => cnt A p.1).sum := by simp [sumT, toT, Function.comp_def]
theorem sumT_len {A : List Node_one} {l : List Show_twin} (h : ∀ p ∈ l, InA A p.x) : l.length ≤ sumT A l := by
  induction l with
  | nil => exact Nat.le_refl _
  | cons p l ih =>
    have h1 := cnt_pos (h p (by simp))
    have h2 := ih fun q hq => h q (by simp [hq])
    show l.length + 1 ≤ cnt A p.x + sumT A l
    omega
theorem below_in {A : List Node_one} {K : Int → List Int} (t : Tree A K) (g : InnOk A) {BB : List Node_one} {LL : Int → List Int} {x y : Int} (hx : InA A x) : ∀ p ∈ (belowP A K BB LL x y).map toT, InA A p.x := by
  rw [belowT]
  intro p hp
  rcases List.mem_append.1 hp with hp | hp
  · unfold innT1 at hp
    split at hp
    · simp at hp
    · next h => rw [List.mem_singleton.1 hp]; exact (inner_up t g hx h).1
  · obtain ⟨q, hq, rfl⟩ := List.mem_map.1 hp
    exact (kid_up t hx (List.of_mem_zip hq).1).1
section
variable {k : Ctx} {w : World}
/-- pop, both ways -/
theorem popT_spec {b : Nat} {xs : List Show_twin} (hl : xs.length ≤ 1000000000) (hO : Own k w [piletwin b xs]) :
    Tri Try.prog 65 #[.pointer (some ⟨b, 0, none⟩)] k w fun v m => ∃ t ok rest, (ok = true ∧ xs = rest ++ [t] ∨ ok = false ∧ xs = [] ∧ rest = []) ∧ v = .tuple #[.agg (Show_twin.cells t).toArray, .bool ok] ∧ m = [piletwin b rest] := by
  rcases List.eq_nil_or_concat xs with rfl | ⟨ys, z, rfl⟩
  · refine (popNtwin_spec hO).mono ?_
    rintro v m ⟨rfl, rfl⟩
    exact ⟨default, false, [], .inr ⟨rfl, rfl, rfl⟩, rfl, rfl⟩
  · rw [List.concat_eq_append] at hO hl
    simp only [List.length_append, List.length_cons, List.length_nil] at hl
    refine (poptwin_spec (by omega) hO).mono ?_
    rintro v m ⟨rfl, rfl⟩
    exact ⟨z, true, ys, .inl ⟨rfl, List.concat_eq_append⟩, rfl, rfl⟩
/-- what is known of the loop -/
structure SmI (A : List Node_one) (K : Int → List Int) (BB : List Node_one) (LL : Int → List Int) (x y : Int) (ok : Bool) (c : Show_twin) (l : List Show_twin) : Prop where
  res : sameN A K BB LL x y = ((!ok || sameN A K BB LL c.x c.y) && l.all fun p => sameN A K BB LL p.x p.y)
  off : ok = false → l = []
  sum : (if ok = true then cnt A c.x else 0) + sumT A l ≤ A.length
  all : ∀ p ∈ l, InA A p.x
theorem SmI.start {A : List Node_one} {K : Int → List Int} {BB : List Node_one} {LL : Int → List Int} {x y : Int} : SmI A K BB LL x y true ⟨x, y⟩ [] :=
  ⟨by simp, fun h => (by cases h), by rw [if_pos rfl]; exact cnt_le, fun p hp => by simp at hp⟩
theorem SmI.next {A : List Node_one} {K : Int → List Int} {BB : List Node_one} {LL : Int → List Int} {x y : Int} (t : Tree A K) (g : InnOk A) {c : Show_twin} {l : List Show_twin} (s : SmI A K BB LL x y true c l) (h : Loc A K BB LL c.x c.y) {ok : Bool} {c' : Show_twin} {l' : List Show_twin}
    (hp : ok = true ∧ l ++ (belowP A K BB LL c.x c.y).map toT = l' ++ [c'] ∨ ok = false ∧ l ++ (belowP A K BB LL c.x c.y).map toT = [] ∧ l' = []) :
    SmI A K BB LL x y ok c' l' ∧ (if ok = true then cnt A c'.x else 0) + sumT A l' < cnt A c.x + sumT A l := by
  have hx := inA_iff.1 h.ha
  have hb := below_cnt t g (B := BB) (L := LL) (y := c.y) hx
  have hi := below_in t g (BB := BB) (LL := LL) (y := c.y) hx
  have e1 : sumT A (l ++ (belowP A K BB LL c.x c.y).map toT) + 1 ≤ cnt A c.x + sumT A l := by rw [sumT_app, sumT_below]; omega
  have e2 : sameN A K BB LL x y = (l ++ (belowP A K BB LL c.x c.y).map toT).all fun p => sameN A K BB LL p.x p.y := by
    rw [s.res, sameN_yes t g h, List.all_append, List.all_map, Bool.and_comm]
    simp [toT, Function.comp_def]
  have e3 : ∀ p ∈ l ++ (belowP A K BB LL c.x c.y).map toT, InA A p.x := fun p hp => by
    rcases List.mem_append.1 hp with hp | hp
    · exact s.all p hp
    · exact hi p hp
  have e4 := s.sum
  rw [if_pos rfl] at e4
  rcases hp with ⟨rfl, e⟩ | ⟨rfl, e, rfl⟩
  · rw [e] at e1 e2 e3
    have e5 : sumT A (l' ++ [c']) = sumT A l' + cnt A c'.x := by rw [sumT_app, sumT_one]
    refine ⟨⟨?_, fun h => (by cases h), by rw [if_pos rfl]; omega, fun p hp => e3 p (by simp [hp])⟩, by rw [if_pos rfl]; omega⟩
    rw [e2, List.all_append, Bool.and_comm]; simp
  · rw [e] at e1 e2
    refine ⟨⟨by rw [e2]; rfl, fun _ => rfl, by rw [if_neg (by simp)]; show 0 + 0 ≤ _; omega, fun p hp => by simp at hp⟩, by rw [if_neg (by simp)]; show 0 + 0 < _; have := cnt_pos hx; omega⟩
set_option maxHeartbeats 4000000 in
theorem Same2_spec {a bb : Nat} {A BB : List Node_one} {K LL : Int → List Int} {x y : Int} (t : Tree A K) (g : InnOk A) (t2 : Tree BB LL) (h0 : 0 < A.length) (h02 : 0 < BB.length) (hl : A.length ≤ 1000) (hl2 : BB.length ≤ 1000) (hO : Own k w [arenaL a A, arenaL bb BB]) :
    Tri Try.prog 21 #[.pointer (some ⟨a, 0, none⟩), .int .i64 x, .pointer (some ⟨bb, 0, none⟩), .int .i64 y] k w fun v m => v = .bool (sameN A K BB LL x y) ∧ m = [arenaL a A, arenaL bb BB] := by
  refine enter (args := [.pointer (some ⟨a, 0, none⟩), .int .i64 x, .pointer (some ⟨bb, 0, none⟩), .int .i64 y]) Try.func21 rfl rfl ?_
  refine K0 (K1 ?_)
  refine l_y rfl rfl (y_assign rfl) ?_
  refine K2 (K3 (K0 (K1 ?_)))
  refine s_alloc (vs := [.slice none 0 0]) hO rfl rfl rfl fun b9 w hO => ?_
  refine K2 (K3 (K0 ?_))
  have hO := piletwin_shut (xs := []) (hO.ks [.b b9] |> sl_nil 124 2 |> Own.swap)
  refine K1 ?_
  refine l_y rfl rfl (y_move rfl) ?_
  refine l_y rfl rfl (y_move rfl) ?_
  refine s_build (parts := [(0, .tmp 19), (1, .tmp 20)]) (cs := [.int .i64 x, .int .i64 y]) rfl rfl (fun a ha => partsOf_sound ha _ _ rfl) (by kernel_rfl) ?_
  refine s_lit (parts := [(0, .tmp 21)]) (enc := Show_twin.cells) [⟨x, y⟩] [.agg [.int .i64 x, .int .i64 y].toArray] hO rfl (fun b22 w hO => ?_)
  refine CK [.o b9] hO rfl (fun k' hx hr hO' => pushtwin_spec (ys := [⟨x, y⟩]) (sls_roK (p := some ⟨b22, 0, none⟩) hr (sls_fct hO)) (by simp) (hO := hO')) ?_
  rintro _ _ w rfl hO
  simp only [List.cons_append, List.nil_append] at hO
  refine K2 (K3 (K0 (K0 (K1 ?_))))
  refine CK [.o b9] hO rfl (fun k' hx hr hO' => poptwin_spec (xs := []) (x := ⟨x, y⟩) (by simp) (hO := hO')) ?_
  rintro _ _ w ⟨rfl, rfl⟩ hO
  simp only [List.cons_append, List.nil_append] at hO
  refine l_y rfl rfl (y_move rfl) ?_
  refine l_y rfl rfl (y_extract rfl rfl) ?_
  refine l_y rfl rfl (y_extract rfl rfl) ?_
  refine s_alloc (vs := [.int .i64 0, .int .i64 0]) hO rfl rfl rfl fun b10 w hO => ?_
  refine Y3 hO rfl rfl (fun w hO => ?_)
  refine l_y rfl rfl (y_assign rfl) ?_
  refine K2 (K3 (K4 ?_))
  refine c_rounds (X := Nat × Bool × Show_twin × List Show_twin) (fun s => [(0, .pointer (some ⟨a, 0, none⟩)), (2, .pointer (some ⟨bb, 0, none⟩)), (8, .bool false), (9, .pointer (some ⟨b9, 0, none⟩)), (10, .pointer (some ⟨s.1, 0, none⟩)), (11, .bool s.2.1)]) (fun s w => Own k w [arenaL a A, arenaL bb BB, piletwin b9 s.2.2.2, blk s.1 124 (Show_twin.cells s.2.2.1)] ∧ (SmI A K BB LL x y s.2.1 s.2.2.1 s.2.2.2)) (fun s => (if s.2.1 = true then cnt A s.2.2.1.x else 0) + sumT A s.2.2.2) ((b10, true, ⟨x, y⟩, [])) ⟨rfl, rfl, rfl, rfl, rfl, rfl, trivial⟩ ⟨hO.only [.o a, .o bb, .o b9, .b b10], SmI.start⟩ ?_
  rintro s w m hm ⟨hO, hI⟩
  refine K0 (K0 (K1 ?_))
  refine l_y rfl rfl (y_move rfl) ?_
  refine K2 (K3 ?_)
  refine c_split rfl (fun hc28 => ?_) (fun hc28 => ?_)
  · refine K5 (K3 (K0 (K4 (K0 ?_))))
    have hI := hI
    have hm0 := hm
    rw [hc28, if_pos rfl] at hm0
    rw [hc28] at hI
    have hsl := hI.sum
    rw [if_pos rfl] at hsl
    have hstk := sumT_len hI.all
    refine K1 ?_
    refine l_y rfl rfl (y_move rfl) ?_
    refine l_y rfl rfl (y_fldb (o' := 0) rfl) ?_
    refine l_y rfl rfl (D5 hO rfl) ?_
    refine CK [.o a] hO rfl (fun k' hx hr hO' => NodeX_spec h0 t.attrs hO') ?_
    rintro _ _ w ⟨n, hn, rfl, rfl⟩ hO
    simp only [List.cons_append, List.nil_append] at hO
    refine l_y rfl rfl (y_move rfl) ?_
    refine l_y rfl rfl (y_extract rfl rfl) ?_
    refine l_y rfl rfl (y_extract rfl rfl) ?_
    refine s_alloc (vs := [.int .i64 0, .int .i64 0, .string ⟨#[]⟩, .slice none 0 0, .string ⟨#[]⟩, .string ⟨#[]⟩, .int .i64 0, .int .i64 0, .int .i64 0, .int .i64 0, .int .i64 0, .int .i64 0]) hO rfl rfl rfl fun b12 w hO => ?_
    refine Y3 hO rfl rfl (fun w hO => ?_)
    refine l_y rfl rfl (y_assign rfl) ?_
    refine K2 (K3 (K0 (K1 ?_)))
    refine l_y rfl rfl (y_move rfl) ?_
    refine l_y rfl rfl (y_fldb (o' := 1) rfl) ?_
    refine l_y rfl rfl (D5 hO rfl) ?_
    refine CK [.o bb] hO rfl (fun k' hx hr hO' => NodeX_spec h02 t2.attrs hO') ?_
    rintro _ _ w ⟨n2, hn2, rfl, rfl⟩ hO
    simp only [List.cons_append, List.nil_append] at hO
    refine l_y rfl rfl (y_move rfl) ?_
    refine l_y rfl rfl (y_extract rfl rfl) ?_
    refine l_y rfl rfl (y_extract rfl rfl) ?_
    refine s_alloc (vs := [.int .i64 0, .int .i64 0, .string ⟨#[]⟩, .slice none 0 0, .string ⟨#[]⟩, .string ⟨#[]⟩, .int .i64 0, .int .i64 0, .int .i64 0, .int .i64 0, .int .i64 0, .int .i64 0]) hO rfl rfl rfl fun b14 w hO => ?_
    refine Y3 hO rfl rfl (fun w hO => ?_)
    refine l_y rfl rfl (y_assign rfl) ?_
    refine K2 (K3 (K0 ?_))
    refine da_region (by intro c a d v w h; cases d <;> exact h) ?_
    have hO := hO.drew
    refine da_phase _ [7] (SO.ks [.b s.1] hO) ?_
    refine dx_u 0 (by kernel_rfl) rfl rfl rfl (fun w => y_move rfl) ?_
    refine dx_u 1 (by kernel_rfl) rfl rfl rfl (fun w => y_fldb (o' := 0) rfl) ?_
    refine dx_y 2 (by kernel_rfl) rfl rfl rfl (fun w ⟨m, hw⟩ => D5 hw rfl) ?_
    refine dx_u 4 (by kernel_rfl) rfl rfl rfl (fun w => y_move rfl) ?_
    refine dx_u 5 (by kernel_rfl) rfl rfl rfl (fun w => y_fldb (o' := 1) rfl) ?_
    refine dx_y 6 (by kernel_rfl) rfl rfl rfl (fun w ⟨m, hw⟩ => D5 hw rfl) ?_
    refine dx_only 3 (by kernel_rfl) rfl rfl ?_
    refine CK [.o a] hO rfl (fun k' hx hr hO' => KidsX_spec t h0 (by omega) hO') ?_
    rintro _ _ w ⟨q1, d1, rfl, rfl⟩ hO
    simp only [List.cons_append, List.nil_append] at hO
    refine o_done ?_
    refine ⟨SO.ks [.b s.1] hO, ?_⟩
    refine dx_close 7 (by kernel_rfl) rfl rfl ?_
    refine CK [.o bb] hO rfl (fun k' hx hr hO' => KidsX_spec t2 h02 (by omega) hO') ?_
    rintro _ _ w ⟨q2, d2, rfl, rfl⟩ hO
    simp only [List.cons_append, List.nil_append] at hO
    refine o_done ?_
    refine da_phase _ [] (SO.ks [] hO) ?_
    refine dx_u 8 (by kernel_rfl) rfl rfl rfl (fun w => y_assign rfl) ?_
    refine dx_u 9 (by kernel_rfl) rfl rfl rfl (fun w => y_assign rfl) ?_
    refine dx_end (by kernel_rfl) ?_
    refine K3 ?_
    refine c_cut (X := List Show_twin) (fun l1 => [(0, .pointer (some ⟨a, 0, none⟩)), (2, .pointer (some ⟨bb, 0, none⟩)), (8, .bool false), (9, .pointer (some ⟨b9, 0, none⟩)), (10, .pointer (some ⟨s.1, 0, none⟩)), (16, .slice q1 (kidsX A K s.2.2.1.x).length d1), (17, .slice q2 (kidsX BB LL s.2.2.1.y).length d2)]) (fun l1 w => Own k w [arenaL a A, arenaL bb BB, piletwin b9 l1, blk s.1 124 (Show_twin.cells s.2.2.1), sls q1 d1 3 1 (eI .i64) (kidsX A K s.2.2.1.x), sls q2 d2 3 1 (eI .i64) (kidsX BB LL s.2.2.1.y)] ∧ (Loc A K BB LL s.2.2.1.x s.2.2.1.y) ∧ (l1 = s.2.2.2 ++ innT1 A BB s.2.2.1.x s.2.2.1.y)) ?_ ?_
    · refine K4 (K0 (K1 ?_))
      refine l_y rfl rfl (y_move rfl) ?_
      refine Z1 (fun h9_1 => ?_) (fun h9_1 => ?_)
      · refine l_y rfl rfl (y_move rfl) ?_
        repeat refine M2 ?_
        refine l_y rfl rfl (y_pick_t rfl rfl) ?_
        refine l_y rfl rfl (y_move rfl) ?_
        repeat refine M2 ?_
        refine l_y rfl rfl (y_pick_t rfl rfl) ?_
        refine l_y rfl rfl (y_move rfl) ?_
        repeat refine M2 ?_
        refine l_y rfl rfl (y_pick_t rfl rfl) ?_
        refine l_y rfl rfl (y_move rfl) ?_
        repeat refine M2 ?_
        refine l_y rfl rfl (y_pick_t rfl rfl) ?_
        refine l_y rfl rfl (y_move rfl) ?_
        repeat refine M2 ?_
        refine l_y rfl rfl (y_pick_t rfl rfl) ?_
        refine l_y rfl rfl (y_move rfl) ?_
        repeat refine M2 ?_
        refine l_y rfl rfl (y_pick_t rfl rfl) ?_
        refine l_y rfl rfl (y_assign rfl) ?_
        refine K2 (K3 (L8 (K0 (K1 ?_))))
        refine l_y rfl rfl (y_assign rfl) ?_
        refine K2 (K3 (K6 (L0 (K9 (L0 (K9 (K9 (L0 (K9 ?_)))))))))
        have hno : ¬ Loc A K BB LL s.2.2.1.x s.2.2.1.y := by
          intro hl
          first | exact h9_1 (by rw [errN, if_pos hl.ha]) | exact h9_4 (by rw [errN, if_pos hl.hb]) | exact h9_11 (by rw [hn.kind hl.ha, hn2.kind hl.hb]; exact hl.kind) | exact h9_18 (by rw [hn.space hl.ha, hn2.space hl.hb]; exact hl.space) | exact h9_25 (by rw [hn.name hl.ha, hn2.name hl.hb]; exact hl.name) | exact h9_32 (by rw [hn.data hl.ha, hn2.data hl.hb]; exact hl.data) | exact h9_39 (by rw [hn.system hl.ha, hn2.system hl.hb]; exact hl.system)
        exact fin1 rfl rfl ⟨_, ⟨by rw [hI.res, sameN_no t g hno]; simp, rfl⟩, hO.only [.o a, .o bb]⟩
      · refine l_y rfl rfl (y_move rfl) ?_
        refine l_y rfl rfl (y_move rfl) ?_
        refine Z1 (fun h9_4 => ?_) (fun h9_4 => ?_)
        · refine l_y rfl rfl (y_pick_f rfl rfl) ?_
          refine l_y rfl rfl (y_move rfl) ?_
          repeat refine M2 ?_
          refine l_y rfl rfl (y_pick_t rfl rfl) ?_
          refine l_y rfl rfl (y_move rfl) ?_
          repeat refine M2 ?_
          refine l_y rfl rfl (y_pick_t rfl rfl) ?_
          refine l_y rfl rfl (y_move rfl) ?_
          repeat refine M2 ?_
          refine l_y rfl rfl (y_pick_t rfl rfl) ?_
          refine l_y rfl rfl (y_move rfl) ?_
          repeat refine M2 ?_
          refine l_y rfl rfl (y_pick_t rfl rfl) ?_
          refine l_y rfl rfl (y_move rfl) ?_
          repeat refine M2 ?_
          refine l_y rfl rfl (y_pick_t rfl rfl) ?_
          refine l_y rfl rfl (y_assign rfl) ?_
          refine K2 (K3 (L8 (K0 (K1 ?_))))
          refine l_y rfl rfl (y_assign rfl) ?_
          refine K2 (K3 (K6 (L0 (K9 (L0 (K9 (K9 (L0 (K9 ?_)))))))))
          have hno : ¬ Loc A K BB LL s.2.2.1.x s.2.2.1.y := by
            intro hl
            first | exact h9_1 (by rw [errN, if_pos hl.ha]) | exact h9_4 (by rw [errN, if_pos hl.hb]) | exact h9_11 (by rw [hn.kind hl.ha, hn2.kind hl.hb]; exact hl.kind) | exact h9_18 (by rw [hn.space hl.ha, hn2.space hl.hb]; exact hl.space) | exact h9_25 (by rw [hn.name hl.ha, hn2.name hl.hb]; exact hl.name) | exact h9_32 (by rw [hn.data hl.ha, hn2.data hl.hb]; exact hl.data) | exact h9_39 (by rw [hn.system hl.ha, hn2.system hl.hb]; exact hl.system)
          exact fin1 rfl rfl ⟨_, ⟨by rw [hI.res, sameN_no t g hno]; simp, rfl⟩, hO.only [.o a, .o bb]⟩
        · refine l_y rfl rfl (y_pick_f rfl rfl) ?_
          refine l_y rfl rfl (y_move rfl) ?_
          have hax := errN_zero h9_1
          have hbx := errN_zero h9_4
          refine l_y rfl rfl (y_fldb (o' := 0) rfl) ?_
          refine l_y rfl rfl (D5 hO rfl) ?_
          refine l_y rfl rfl (y_fldb (o' := 0) rfl) ?_
          refine l_y rfl rfl (D5 hO rfl) ?_
          refine Z1 (fun h9_11 => ?_) (fun h9_11 => ?_)
          · refine l_y rfl rfl (y_pick_f rfl rfl) ?_
            refine l_y rfl rfl (y_move rfl) ?_
            repeat refine M2 ?_
            refine l_y rfl rfl (y_pick_t rfl rfl) ?_
            refine l_y rfl rfl (y_move rfl) ?_
            repeat refine M2 ?_
            refine l_y rfl rfl (y_pick_t rfl rfl) ?_
            refine l_y rfl rfl (y_move rfl) ?_
            repeat refine M2 ?_
            refine l_y rfl rfl (y_pick_t rfl rfl) ?_
            refine l_y rfl rfl (y_move rfl) ?_
            repeat refine M2 ?_
            refine l_y rfl rfl (y_pick_t rfl rfl) ?_
            refine l_y rfl rfl (y_assign rfl) ?_
            refine K2 (K3 (L8 (K0 (K1 ?_))))
            refine l_y rfl rfl (y_assign rfl) ?_
            refine K2 (K3 (K6 (L0 (K9 (L0 (K9 (K9 (L0 (K9 ?_)))))))))
            have hno : ¬ Loc A K BB LL s.2.2.1.x s.2.2.1.y := by
              intro hl
              first | exact h9_1 (by rw [errN, if_pos hl.ha]) | exact h9_4 (by rw [errN, if_pos hl.hb]) | exact h9_11 (by rw [hn.kind hl.ha, hn2.kind hl.hb]; exact hl.kind) | exact h9_18 (by rw [hn.space hl.ha, hn2.space hl.hb]; exact hl.space) | exact h9_25 (by rw [hn.name hl.ha, hn2.name hl.hb]; exact hl.name) | exact h9_32 (by rw [hn.data hl.ha, hn2.data hl.hb]; exact hl.data) | exact h9_39 (by rw [hn.system hl.ha, hn2.system hl.hb]; exact hl.system)
            exact fin1 rfl rfl ⟨_, ⟨by rw [hI.res, sameN_no t g hno]; simp, rfl⟩, hO.only [.o a, .o bb]⟩
          · refine l_y rfl rfl (y_pick_f rfl rfl) ?_
            refine l_y rfl rfl (y_move rfl) ?_
            refine l_y rfl rfl (y_fldb (o' := 1) rfl) ?_
            refine l_y rfl rfl (D5 hO rfl) ?_
            refine l_y rfl rfl (y_fldb (o' := 1) rfl) ?_
            refine l_y rfl rfl (D5 hO rfl) ?_
            refine Z1 (fun h9_18 => ?_) (fun h9_18 => ?_)
            · refine l_y rfl rfl (y_pick_f rfl rfl) ?_
              refine l_y rfl rfl (y_move rfl) ?_
              repeat refine M2 ?_
              refine l_y rfl rfl (y_pick_t rfl rfl) ?_
              refine l_y rfl rfl (y_move rfl) ?_
              repeat refine M2 ?_
              refine l_y rfl rfl (y_pick_t rfl rfl) ?_
              refine l_y rfl rfl (y_move rfl) ?_
              repeat refine M2 ?_
              refine l_y rfl rfl (y_pick_t rfl rfl) ?_
              refine l_y rfl rfl (y_assign rfl) ?_
              refine K2 (K3 (L8 (K0 (K1 ?_))))
              refine l_y rfl rfl (y_assign rfl) ?_
              refine K2 (K3 (K6 (L0 (K9 (L0 (K9 (K9 (L0 (K9 ?_)))))))))
              have hno : ¬ Loc A K BB LL s.2.2.1.x s.2.2.1.y := by
                intro hl
                first | exact h9_1 (by rw [errN, if_pos hl.ha]) | exact h9_4 (by rw [errN, if_pos hl.hb]) | exact h9_11 (by rw [hn.kind hl.ha, hn2.kind hl.hb]; exact hl.kind) | exact h9_18 (by rw [hn.space hl.ha, hn2.space hl.hb]; exact hl.space) | exact h9_25 (by rw [hn.name hl.ha, hn2.name hl.hb]; exact hl.name) | exact h9_32 (by rw [hn.data hl.ha, hn2.data hl.hb]; exact hl.data) | exact h9_39 (by rw [hn.system hl.ha, hn2.system hl.hb]; exact hl.system)
              exact fin1 rfl rfl ⟨_, ⟨by rw [hI.res, sameN_no t g hno]; simp, rfl⟩, hO.only [.o a, .o bb]⟩
            · refine l_y rfl rfl (y_pick_f rfl rfl) ?_
              refine l_y rfl rfl (y_move rfl) ?_
              refine l_y rfl rfl (y_fldb (o' := 2) rfl) ?_
              refine l_y rfl rfl (D5 hO rfl) ?_
              refine l_y rfl rfl (y_fldb (o' := 2) rfl) ?_
              refine l_y rfl rfl (D5 hO rfl) ?_
              refine Z3 (fun h9_25 => ?_) (fun h9_25 => ?_)
              · refine l_y rfl rfl (y_pick_f rfl rfl) ?_
                refine l_y rfl rfl (y_move rfl) ?_
                repeat refine M2 ?_
                refine l_y rfl rfl (y_pick_t rfl rfl) ?_
                refine l_y rfl rfl (y_move rfl) ?_
                repeat refine M2 ?_
                refine l_y rfl rfl (y_pick_t rfl rfl) ?_
                refine l_y rfl rfl (y_assign rfl) ?_
                refine K2 (K3 (L8 (K0 (K1 ?_))))
                refine l_y rfl rfl (y_assign rfl) ?_
                refine K2 (K3 (K6 (L0 (K9 (L0 (K9 (K9 (L0 (K9 ?_)))))))))
                have hno : ¬ Loc A K BB LL s.2.2.1.x s.2.2.1.y := by
                  intro hl
                  first | exact h9_1 (by rw [errN, if_pos hl.ha]) | exact h9_4 (by rw [errN, if_pos hl.hb]) | exact h9_11 (by rw [hn.kind hl.ha, hn2.kind hl.hb]; exact hl.kind) | exact h9_18 (by rw [hn.space hl.ha, hn2.space hl.hb]; exact hl.space) | exact h9_25 (by rw [hn.name hl.ha, hn2.name hl.hb]; exact hl.name) | exact h9_32 (by rw [hn.data hl.ha, hn2.data hl.hb]; exact hl.data) | exact h9_39 (by rw [hn.system hl.ha, hn2.system hl.hb]; exact hl.system)
                exact fin1 rfl rfl ⟨_, ⟨by rw [hI.res, sameN_no t g hno]; simp, rfl⟩, hO.only [.o a, .o bb]⟩
              · refine l_y rfl rfl (y_pick_f rfl rfl) ?_
                refine l_y rfl rfl (y_move rfl) ?_
                refine l_y rfl rfl (y_fldb (o' := 4) rfl) ?_
                refine l_y rfl rfl (D5 hO rfl) ?_
                refine l_y rfl rfl (y_fldb (o' := 4) rfl) ?_
                refine l_y rfl rfl (D5 hO rfl) ?_
                refine Z3 (fun h9_32 => ?_) (fun h9_32 => ?_)
                · refine l_y rfl rfl (y_pick_f rfl rfl) ?_
                  refine l_y rfl rfl (y_move rfl) ?_
                  repeat refine M2 ?_
                  refine l_y rfl rfl (y_pick_t rfl rfl) ?_
                  refine l_y rfl rfl (y_assign rfl) ?_
                  refine K2 (K3 (L8 (K0 (K1 ?_))))
                  refine l_y rfl rfl (y_assign rfl) ?_
                  refine K2 (K3 (K6 (L0 (K9 (L0 (K9 (K9 (L0 (K9 ?_)))))))))
                  have hno : ¬ Loc A K BB LL s.2.2.1.x s.2.2.1.y := by
                    intro hl
                    first | exact h9_1 (by rw [errN, if_pos hl.ha]) | exact h9_4 (by rw [errN, if_pos hl.hb]) | exact h9_11 (by rw [hn.kind hl.ha, hn2.kind hl.hb]; exact hl.kind) | exact h9_18 (by rw [hn.space hl.ha, hn2.space hl.hb]; exact hl.space) | exact h9_25 (by rw [hn.name hl.ha, hn2.name hl.hb]; exact hl.name) | exact h9_32 (by rw [hn.data hl.ha, hn2.data hl.hb]; exact hl.data) | exact h9_39 (by rw [hn.system hl.ha, hn2.system hl.hb]; exact hl.system)
                  exact fin1 rfl rfl ⟨_, ⟨by rw [hI.res, sameN_no t g hno]; simp, rfl⟩, hO.only [.o a, .o bb]⟩
                · refine l_y rfl rfl (y_pick_f rfl rfl) ?_
                  refine l_y rfl rfl (y_move rfl) ?_
                  refine l_y rfl rfl (y_fldb (o' := 5) rfl) ?_
                  refine l_y rfl rfl (D5 hO rfl) ?_
                  refine l_y rfl rfl (y_fldb (o' := 5) rfl) ?_
                  refine l_y rfl rfl (D5 hO rfl) ?_
                  refine Z3 (fun h9_39 => ?_) (fun h9_39 => ?_)
                  · refine l_y rfl rfl (y_pick_f rfl rfl) ?_
                    refine l_y rfl rfl (y_assign rfl) ?_
                    refine K2 (K3 (L8 (K0 (K1 ?_))))
                    refine l_y rfl rfl (y_assign rfl) ?_
                    refine K2 (K3 (K6 (L0 (K9 (L0 (K9 (K9 (L0 (K9 ?_)))))))))
                    have hno : ¬ Loc A K BB LL s.2.2.1.x s.2.2.1.y := by
                      intro hl
                      first | exact h9_1 (by rw [errN, if_pos hl.ha]) | exact h9_4 (by rw [errN, if_pos hl.hb]) | exact h9_11 (by rw [hn.kind hl.ha, hn2.kind hl.hb]; exact hl.kind) | exact h9_18 (by rw [hn.space hl.ha, hn2.space hl.hb]; exact hl.space) | exact h9_25 (by rw [hn.name hl.ha, hn2.name hl.hb]; exact hl.name) | exact h9_32 (by rw [hn.data hl.ha, hn2.data hl.hb]; exact hl.data) | exact h9_39 (by rw [hn.system hl.ha, hn2.system hl.hb]; exact hl.system)
                    exact fin1 rfl rfl ⟨_, ⟨by rw [hI.res, sameN_no t g hno]; simp, rfl⟩, hO.only [.o a, .o bb]⟩
                  · refine l_y rfl rfl (y_pick_f rfl rfl) ?_
                    refine l_y rfl rfl (y_assign rfl) ?_
                    refine K2 (K3 (L9 (K0 ?_)))
                    have hna : n.Attrs.length ≤ 1024 := by rw [hn.attrs hax]; have h := inA_iff.1 hax; exact t.attrs _ (by have := h.1; have := h.2; omega)
                    have hkx : kidsX A K s.2.2.1.x = K s.2.2.1.x := by rw [kidsX, if_pos hax]
                    have hky : kidsX BB LL s.2.2.1.y = LL s.2.2.1.y := by rw [kidsX, if_pos hbx]
                    have hinn : Loc A K BB LL s.2.2.1.x s.2.2.1.y → (n.Inner = -1 ↔ n2.Inner = -1) := fun h => by rw [hn.inner hax, hn2.inner hbx]; exact h.inner
                    refine K1 ?_
                    refine l_y rfl rfl (y_fldb (o' := 3) rfl) ?_
                    refine l_y rfl rfl (D5 hO rfl) ?_
                    refine l_y rfl rfl (y_fldb (o' := 3) rfl) ?_
                    refine l_y rfl rfl (D5 hO rfl) ?_
                    refine CK [] hO rfl (fun k' hx hr hO' => Equal_spec (sls_roK (p := n.AttrsP) hr (sls_fct hO)) (sls_roK (p := n2.AttrsP) hr (sls_fct hO)) (by omega) hO') ?_
                    rintro _ _ w ⟨rfl, rfl⟩ hO
                    simp only [List.cons_append, List.nil_append] at hO
                    refine l_y rfl rfl (y_not rfl rfl) ?_
                    refine l_y rfl rfl (y_move rfl) ?_
                    refine l_split 104 rfl (fun hg104 => ?_) (fun hg104 => ?_)
                    · simp only [Bool.not_eq_true', Bool.not_eq_false'] at hg104
                      repeat refine M2 ?_
                      refine l_y rfl rfl (y_pick_t rfl rfl) ?_
                      refine l_y rfl rfl (y_move rfl) ?_
                      repeat refine M2 ?_
                      refine l_y rfl rfl (y_pick_t rfl rfl) ?_
                      refine l_y rfl rfl (y_assign rfl) ?_
                      refine K2 (K3 (L8 (K0 (K1 ?_))))
                      refine l_y rfl rfl (y_assign rfl) ?_
                      refine K2 (K3 (K6 (L0 (K9 (L0 (K9 (K9 (L0 (K9 ?_)))))))))
                      have hno : ¬ Loc A K BB LL s.2.2.1.x s.2.2.1.y := by
                        intro hl
                        first | exact (of_decide_eq_false hg104) (by rw [hn.attrs hax, hn2.attrs hbx]; exact hl.attrs) | exact h11_11 (by rw [hkx, hky]; exact congrArg _ hl.kids) | exact h11_19 ((hinn hl).1 h11_16) | exact h11_16 ((hinn hl).2 h11_19)
                      exact fin1 rfl rfl ⟨_, ⟨by rw [hI.res, sameN_no t g hno]; simp, rfl⟩, hO.only [.o a, .o bb]⟩
                    · simp only [Bool.not_eq_true', Bool.not_eq_false'] at hg104
                      refine l_y rfl rfl (y_move rfl) ?_
                      refine l_y rfl rfl (y_lenL rfl) ?_
                      refine l_y rfl rfl (y_move rfl) ?_
                      refine l_y rfl rfl (y_lenL rfl) ?_
                      refine Z1 (fun h11_11 => ?_) (fun h11_11 => ?_)
                      · refine l_y rfl rfl (y_pick_f rfl rfl) ?_
                        refine l_y rfl rfl (y_move rfl) ?_
                        repeat refine M2 ?_
                        refine l_y rfl rfl (y_pick_t rfl rfl) ?_
                        refine l_y rfl rfl (y_assign rfl) ?_
                        refine K2 (K3 (L8 (K0 (K1 ?_))))
                        refine l_y rfl rfl (y_assign rfl) ?_
                        refine K2 (K3 (K6 (L0 (K9 (L0 (K9 (K9 (L0 (K9 ?_)))))))))
                        have hno : ¬ Loc A K BB LL s.2.2.1.x s.2.2.1.y := by
                          intro hl
                          first | exact (of_decide_eq_false hg104) (by rw [hn.attrs hax, hn2.attrs hbx]; exact hl.attrs) | exact h11_11 (by rw [hkx, hky]; exact congrArg _ hl.kids) | exact h11_19 ((hinn hl).1 h11_16) | exact h11_16 ((hinn hl).2 h11_19)
                        exact fin1 rfl rfl ⟨_, ⟨by rw [hI.res, sameN_no t g hno]; simp, rfl⟩, hO.only [.o a, .o bb]⟩
                      · refine l_y rfl rfl (y_pick_f rfl rfl) ?_
                        refine l_y rfl rfl (y_move rfl) ?_
                        refine l_y rfl rfl (y_fldb (o' := 11) rfl) ?_
                        refine l_y rfl rfl (D5 hO rfl) ?_
                        refine Z0 (fun h11_16 => ?_) (fun h11_16 => ?_)
                        · refine l_y rfl rfl (y_fldb (o' := 11) rfl) ?_
                          refine l_y rfl rfl (D5 hO rfl) ?_
                          refine Z0 (fun h11_19 => ?_) (fun h11_19 => ?_)
                          · refine l_y rfl rfl (y_neB rfl rfl rfl) ?_
                            refine l_y rfl rfl (y_pick_f rfl rfl) ?_
                            refine l_y rfl rfl (y_assign rfl) ?_
                            refine K2 (K3 (L9 (K0 ?_)))
                            have hloc : Loc A K BB LL s.2.2.1.x s.2.2.1.y := ⟨hax, hbx, by rw [← hn.kind hax, ← hn2.kind hbx]; exact h9_11, by rw [← hn.space hax, ← hn2.space hbx]; exact h9_18, by rw [← hn.name hax, ← hn2.name hbx]; exact h9_25, by rw [← hn.data hax, ← hn2.data hbx]; exact h9_32, by rw [← hn.system hax, ← hn2.system hbx]; exact h9_39, by rw [← hn.attrs hax, ← hn2.attrs hbx]; exact of_decide_eq_true hg104, by rw [← hkx, ← hky]; omega, by rw [← hn.inner hax, ← hn2.inner hbx]; omega⟩
                            refine K1 ?_
                            refine l_y rfl rfl (y_fldb (o' := 11) rfl) ?_
                            refine l_y rfl rfl (D5 hO rfl) ?_
                            refine Z1 (fun h13_2 => ?_) (fun h13_2 => ?_)
                            · first
                              | (exfalso; omega)
                              | skip
                                refine l_y rfl rfl (y_assign rfl) ?_
                                refine K2 (K3 (L8 (K1 ?_)))
                                refine l_y rfl rfl (y_fldb (o' := 11) rfl) ?_
                                refine l_y rfl rfl (D5 hO rfl) ?_
                                refine l_y rfl rfl (y_fldb (o' := 11) rfl) ?_
                                refine l_y rfl rfl (D5 hO rfl) ?_
                                refine s_build (parts := [(0, .tmp 125), (1, .tmp 127)]) (cs := [.int .i64 n.Inner, .int .i64 n2.Inner]) rfl rfl (fun a ha => partsOf_sound ha _ _ rfl) (by kernel_rfl) ?_
                                refine s_lit (parts := [(0, .tmp 128)]) (enc := Show_twin.cells) [⟨n.Inner, n2.Inner⟩] [.agg [.int .i64 n.Inner, .int .i64 n2.Inner].toArray] hO rfl (fun b129 w hO => ?_)
                                refine CK [.o b9] hO rfl (fun k' hx hr hO' => pushtwin_spec (ys := [⟨n.Inner, n2.Inner⟩]) (sls_roK (p := some ⟨b129, 0, none⟩) hr (sls_fct hO)) (by simp only [List.length_cons, List.length_nil]; omega) (hO := hO')) ?_
                                rintro _ _ w rfl hO
                                simp only [List.cons_append, List.nil_append] at hO
                                have hl1 : s.2.2.2 ++ [⟨n.Inner, n2.Inner⟩] = s.2.2.2 ++ innT1 A BB s.2.2.1.x s.2.2.1.y := by rw [innT1, if_neg (by rw [← hn.inner hax]; omega), hn.inner hax, hn2.inner hbx]
                                refine K2 (K8 ?_)
                                exact q_cut (_) ⟨rfl, rfl, rfl, rfl, rfl, rfl, rfl, trivial⟩ ⟨hO.only [.o a, .o bb, .o b9, .b s.1, .p q1, .p q2], hloc, hl1⟩
                            · first
                              | (exfalso; omega)
                              | skip
                                have hl1 : s.2.2.2 = s.2.2.2 ++ innT1 A BB s.2.2.1.x s.2.2.1.y := by rw [innT1, if_pos (by rw [← hn.inner hax]; omega), List.append_nil]
                                refine l_y rfl rfl (y_assign rfl) ?_
                                refine K2 (K3 (L9 (K5 (K8 ?_))))
                                exact q_cut (_) ⟨rfl, rfl, rfl, rfl, rfl, rfl, rfl, trivial⟩ ⟨hO.only [.o a, .o bb, .o b9, .b s.1, .p q1, .p q2], hloc, hl1⟩
                          · refine l_y rfl rfl (y_neB rfl rfl rfl) ?_
                            refine l_y rfl rfl (y_pick_f rfl rfl) ?_
                            refine l_y rfl rfl (y_assign rfl) ?_
                            refine K2 (K3 (L8 (K0 (K1 ?_))))
                            refine l_y rfl rfl (y_assign rfl) ?_
                            refine K2 (K3 (K6 (L0 (K9 (L0 (K9 (K9 (L0 (K9 ?_)))))))))
                            have hno : ¬ Loc A K BB LL s.2.2.1.x s.2.2.1.y := by
                              intro hl
                              first | exact (of_decide_eq_false hg104) (by rw [hn.attrs hax, hn2.attrs hbx]; exact hl.attrs) | exact h11_11 (by rw [hkx, hky]; exact congrArg _ hl.kids) | exact h11_19 ((hinn hl).1 h11_16) | exact h11_16 ((hinn hl).2 h11_19)
                            exact fin1 rfl rfl ⟨_, ⟨by rw [hI.res, sameN_no t g hno]; simp, rfl⟩, hO.only [.o a, .o bb]⟩
                        · refine l_y rfl rfl (y_fldb (o' := 11) rfl) ?_
                          refine l_y rfl rfl (D5 hO rfl) ?_
                          refine Z0 (fun h11_19 => ?_) (fun h11_19 => ?_)
                          · refine l_y rfl rfl (y_neB rfl rfl rfl) ?_
                            refine l_y rfl rfl (y_pick_f rfl rfl) ?_
                            refine l_y rfl rfl (y_assign rfl) ?_
                            refine K2 (K3 (L8 (K0 (K1 ?_))))
                            refine l_y rfl rfl (y_assign rfl) ?_
                            refine K2 (K3 (K6 (L0 (K9 (L0 (K9 (K9 (L0 (K9 ?_)))))))))
                            have hno : ¬ Loc A K BB LL s.2.2.1.x s.2.2.1.y := by
                              intro hl
                              first | exact (of_decide_eq_false hg104) (by rw [hn.attrs hax, hn2.attrs hbx]; exact hl.attrs) | exact h11_11 (by rw [hkx, hky]; exact congrArg _ hl.kids) | exact h11_19 ((hinn hl).1 h11_16) | exact h11_16 ((hinn hl).2 h11_19)
                            exact fin1 rfl rfl ⟨_, ⟨by rw [hI.res, sameN_no t g hno]; simp, rfl⟩, hO.only [.o a, .o bb]⟩
                          · refine l_y rfl rfl (y_neB rfl rfl rfl) ?_
                            refine l_y rfl rfl (y_pick_f rfl rfl) ?_
                            refine l_y rfl rfl (y_assign rfl) ?_
                            refine K2 (K3 (L9 (K0 ?_)))
                            have hloc : Loc A K BB LL s.2.2.1.x s.2.2.1.y := ⟨hax, hbx, by rw [← hn.kind hax, ← hn2.kind hbx]; exact h9_11, by rw [← hn.space hax, ← hn2.space hbx]; exact h9_18, by rw [← hn.name hax, ← hn2.name hbx]; exact h9_25, by rw [← hn.data hax, ← hn2.data hbx]; exact h9_32, by rw [← hn.system hax, ← hn2.system hbx]; exact h9_39, by rw [← hn.attrs hax, ← hn2.attrs hbx]; exact of_decide_eq_true hg104, by rw [← hkx, ← hky]; omega, by rw [← hn.inner hax, ← hn2.inner hbx]; omega⟩
                            refine K1 ?_
                            refine l_y rfl rfl (y_fldb (o' := 11) rfl) ?_
                            refine l_y rfl rfl (D5 hO rfl) ?_
                            refine Z1 (fun h13_2 => ?_) (fun h13_2 => ?_)
                            · first
                              | (exfalso; omega)
                              | skip
                                refine l_y rfl rfl (y_assign rfl) ?_
                                refine K2 (K3 (L8 (K1 ?_)))
                                refine l_y rfl rfl (y_fldb (o' := 11) rfl) ?_
                                refine l_y rfl rfl (D5 hO rfl) ?_
                                refine l_y rfl rfl (y_fldb (o' := 11) rfl) ?_
                                refine l_y rfl rfl (D5 hO rfl) ?_
                                refine s_build (parts := [(0, .tmp 125), (1, .tmp 127)]) (cs := [.int .i64 n.Inner, .int .i64 n2.Inner]) rfl rfl (fun a ha => partsOf_sound ha _ _ rfl) (by kernel_rfl) ?_
                                refine s_lit (parts := [(0, .tmp 128)]) (enc := Show_twin.cells) [⟨n.Inner, n2.Inner⟩] [.agg [.int .i64 n.Inner, .int .i64 n2.Inner].toArray] hO rfl (fun b129 w hO => ?_)
                                refine CK [.o b9] hO rfl (fun k' hx hr hO' => pushtwin_spec (ys := [⟨n.Inner, n2.Inner⟩]) (sls_roK (p := some ⟨b129, 0, none⟩) hr (sls_fct hO)) (by simp only [List.length_cons, List.length_nil]; omega) (hO := hO')) ?_
                                rintro _ _ w rfl hO
                                simp only [List.cons_append, List.nil_append] at hO
                                have hl1 : s.2.2.2 ++ [⟨n.Inner, n2.Inner⟩] = s.2.2.2 ++ innT1 A BB s.2.2.1.x s.2.2.1.y := by rw [innT1, if_neg (by rw [← hn.inner hax]; omega), hn.inner hax, hn2.inner hbx]
                                refine K2 (K8 ?_)
                                exact q_cut (_) ⟨rfl, rfl, rfl, rfl, rfl, rfl, rfl, trivial⟩ ⟨hO.only [.o a, .o bb, .o b9, .b s.1, .p q1, .p q2], hloc, hl1⟩
                            · first
                              | (exfalso; omega)
                              | skip
                                have hl1 : s.2.2.2 = s.2.2.2 ++ innT1 A BB s.2.2.1.x s.2.2.1.y := by rw [innT1, if_pos (by rw [← hn.inner hax]; omega), List.append_nil]
                                refine l_y rfl rfl (y_assign rfl) ?_
                                refine K2 (K3 (L9 (K5 (K8 ?_))))
                                exact q_cut (_) ⟨rfl, rfl, rfl, rfl, rfl, rfl, rfl, trivial⟩ ⟨hO.only [.o a, .o bb, .o b9, .b s.1, .p q1, .p q2], hloc, hl1⟩
    · rintro l1 w ⟨hO, hloc, hl1⟩
      refine K0 ?_
      have hxi := inA_iff.1 hloc.ha
      have hkx : kidsX A K s.2.2.1.x = K s.2.2.1.x := by rw [kidsX, if_pos hloc.ha]
      have hky : kidsX BB LL s.2.2.1.y = LL s.2.2.1.y := by rw [kidsX, if_pos hloc.hb]
      have hkk := hloc.kids
      have hkl := t.len hxi
      have hll : l1.length ≤ s.2.2.2.length + 1 := by rw [hl1, List.length_append, innT1]; split <;> simp
      have hg1 := (sls_fct (p := q1) hO).2
      have hg2 := (sls_fct (p := q2) hO).2
      rw [hkx, hky] at hO
      rw [hkx] at hg1
      rw [hky] at hg2
      rw [hkx, hky]
      rw [show l1 = l1 ++ ((((K s.2.2.1.x).zip (LL s.2.2.1.y)).map toT).take 0) by simp] at hO
      refine K1 ?_
      refine l_y rfl rfl (y_move rfl) ?_
      refine l_y rfl rfl (y_lenL rfl) ?_
      refine l_y rfl rfl (y_move rfl) ?_
      refine K2 (K3 (K4 ?_))
      refine c_rounds (X := Nat) (fun i => [(0, .pointer (some ⟨a, 0, none⟩)), (2, .pointer (some ⟨bb, 0, none⟩)), (8, .bool false), (9, .pointer (some ⟨b9, 0, none⟩)), (10, .pointer (some ⟨s.1, 0, none⟩)), (16, .slice q1 (K s.2.2.1.x).length d1), (17, .slice q2 (LL s.2.2.1.y).length d2), (132, .int .i64 (((K s.2.2.1.x).length : Nat) : Int)), (133, .int .i64 (i : Int))]) (fun i w => Own k w [arenaL a A, arenaL bb BB, piletwin b9 (l1 ++ ((((K s.2.2.1.x).zip (LL s.2.2.1.y)).map toT).take i)), blk s.1 124 (Show_twin.cells s.2.2.1), sls q1 d1 3 1 (eI .i64) (K s.2.2.1.x), sls q2 d2 3 1 (eI .i64) (LL s.2.2.1.y)] ∧ (i ≤ (K s.2.2.1.x).length)) (fun i => (K s.2.2.1.x).length - i) (0) ⟨rfl, rfl, rfl, rfl, rfl, rfl, rfl, rfl, rfl, trivial⟩ ⟨hO.only [.o a, .o bb, .o b9, .b s.1, .p q1, .p q2], Nat.zero_le _⟩ ?_
      rintro i w m hm ⟨hO, hil⟩
      refine K0 (K1 ?_)
      refine Z0 (fun h16_0 => ?_) (fun h16_0 => ?_)
      · refine K2 (K3 (K0 (L8 (K5 (K3 (K0 (K4 (K0 (K1 ?_)))))))))
        refine l_y rfl rfl (y_move rfl) ?_
        refine l_y rfl rfl (y_assign rfl) ?_
        refine K2 (K3 ?_)
        refine da_region (by intro c a d v w h; cases d <;> exact h) ?_
        have hO := hO.drew
        refine da_phase _ [8] (SO.ks [.p q1, .p q2] hO) ?_
        refine dx_u 0 (by kernel_rfl) rfl rfl rfl (fun w => y_move rfl) ?_
        refine dx_u 1 (by kernel_rfl) rfl rfl rfl (fun w => y_move rfl) ?_
        refine dx_u 2 (by kernel_rfl) rfl rfl rfl (fun w => y_idx rfl rfl) ?_
        refine dx_y 3 (by kernel_rfl) rfl rfl rfl (fun w ⟨m, hw⟩ => y_e1 (x0 := 0) hw rfl) ?_
        refine dx_u 4 (by kernel_rfl) rfl rfl rfl (fun w => y_move rfl) ?_
        refine dx_u 5 (by kernel_rfl) rfl rfl rfl (fun w => y_move rfl) ?_
        refine dx_u 6 (by kernel_rfl) rfl rfl rfl (fun w => y_idx rfl rfl) ?_
        refine dx_y 7 (by kernel_rfl) rfl rfl rfl (fun w ⟨m, hw⟩ => y_e1 (x0 := 0) hw rfl) ?_
        refine dx_close 8 (by kernel_rfl) rfl rfl ?_
        refine s_build (parts := [(0, .tmp 139), (1, .tmp 143)]) (cs := [.int .i64 (at_ (K s.2.2.1.x) ((i : Int) : Int).toNat), .int .i64 (at_ (LL s.2.2.1.y) ((i : Int) : Int).toNat)]) rfl rfl (fun a ha => partsOf_sound ha _ _ rfl) (by kernel_rfl) ?_
        refine o_done ?_
        refine da_only 9 (by kernel_rfl) rfl ?_
        refine s_lit (parts := [(0, .tmp 144)]) (enc := Show_twin.cells) [⟨(at_ (K s.2.2.1.x) ((i : Int) : Int).toNat), (at_ (LL s.2.2.1.y) ((i : Int) : Int).toNat)⟩] [.agg [.int .i64 (at_ (K s.2.2.1.x) ((i : Int) : Int).toNat), .int .i64 (at_ (LL s.2.2.1.y) ((i : Int) : Int).toNat)].toArray] hO rfl (fun b145 w hO => ?_)
        refine o_done ?_
        refine da_only 10 (by kernel_rfl) rfl ?_
        refine CK [.o b9] hO rfl (fun k' hx hr hO' => pushtwin_spec (ys := [⟨at_ (K s.2.2.1.x) i, at_ (LL s.2.2.1.y) i⟩]) (sls_roK (p := some ⟨b145, 0, none⟩) hr (sls_fct hO)) (by simp only [List.length_append, List.length_take, List.length_cons, List.length_nil]; omega) (hO := hO')) ?_
        rintro _ _ w rfl hO
        simp only [List.cons_append, List.nil_append] at hO
        rw [List.append_assoc, ← zip_at (show i < (K s.2.2.1.x).length by omega) hkk] at hO
        refine o_done ?_
        refine da_end (by kernel_rfl) ?_
        refine K8 (K3 (K1 ?_))
        refine l_y rfl rfl (D4) ?_
        refine l_y rfl rfl (y_move rfl) ?_
        refine K2 ?_
        exact q_next (i + 1) ⟨rfl, rfl, rfl, rfl, rfl, rfl, rfl, rfl, rfl, trivial⟩ ⟨hO.only [.o a, .o bb, .o b9, .b s.1, .p q1, .p q2], by omega⟩ (by omega)
      · refine K2 (K3 (K0 (L9 (K7 (L1 (L1 (L2 (K8 (K3 (K0 (K0 ?_)))))))))))
        have ei : i = (K s.2.2.1.x).length := by omega
        rw [ei, List.take_of_length_le (by rw [List.length_map, List.length_zip]; omega), hl1, List.append_assoc, ← belowT] at hO
        refine K1 ?_
        refine l_y rfl rfl (D8 (cs := [.int .i64 s.2.2.1.x, .int .i64 s.2.2.1.y]) hO rfl) ?_
        refine K2 (K3 (K1 ?_))
        refine s_alloc (vs := [.int .i64 0, .int .i64 0]) hO rfl rfl rfl fun b10 w hO => ?_
        refine Y3 hO rfl rfl (fun w hO => ?_)
        refine K2 (K3 (K1 ?_))
        refine CK [.o b9] hO rfl (fun k' hx hr hO' => popT_spec (by rw [belowT]; simp only [List.length_append, List.length_map, List.length_zip] at hll ⊢; rw [hl1] at hll; simp only [List.length_append] at hll; omega) hO') ?_
        rintro _ _ w ⟨c2, ok2, l2, hp2, rfl, rfl⟩ hO
        simp only [List.cons_append, List.nil_append] at hO
        have hJ := hI.next t g hloc hp2
        refine l_y rfl rfl (y_move rfl) ?_
        refine l_y rfl rfl (y_extract rfl rfl) ?_
        refine l_y rfl rfl (y_extract rfl rfl) ?_
        refine Y3 hO rfl rfl (fun w hO => ?_)
        refine l_y rfl rfl (y_assign rfl) ?_
        refine K2 ?_
        exact q_next ((b10, ok2, c2, l2)) ⟨rfl, rfl, rfl, rfl, rfl, rfl, trivial⟩ ⟨hO.only [.o a, .o bb, .o b9, .b b10], hJ.1⟩ (by have h := hJ.2; dsimp only; omega)
  · refine K7 (L1 (L1 (L2 (K3 (K0 (K1 ?_))))))
    refine l_y rfl rfl (y_assign rfl) ?_
    refine K2 (K3 (K6 ?_))
    have hx := hI.res
    rw [hc28, hI.off hc28] at hx
    exact fin1 rfl rfl ⟨_, ⟨by rw [hx]; rfl, rfl⟩, hO.only [.o a, .o bb]⟩
end
end Go.Proofs.Ythkmnohghpdjhaa
end
section
set_option linter.unusedVariables false
set_option linter.unusedSimpArgs false
set_option maxRecDepth 100000
namespace Go.Proofs.Ythkmnohghpdjhaa
open Go Go.Hb Go.RowKit
section
variable {k : Ctx} {w : World}
set_option maxHeartbeats 4000000 in
theorem Same1_spec {a : Nat} {A : List Node_one} {K : Int → List Int} {x y : Int} (t : Tree A K) (g : InnOk A) (h0 : 0 < A.length) (hl : A.length ≤ 1000) (hO : Own k w [arenaL a A]) :
    Tri Try.prog 21 #[.pointer (some ⟨a, 0, none⟩), .int .i64 x, .pointer (some ⟨a, 0, none⟩), .int .i64 y] k w fun v m => v = .bool (sameN A K A K x y) ∧ m = [arenaL a A] := by
  refine enter (args := [.pointer (some ⟨a, 0, none⟩), .int .i64 x, .pointer (some ⟨a, 0, none⟩), .int .i64 y]) Try.func21 rfl rfl ?_
  refine K0 (K1 ?_)
  refine l_y rfl rfl (y_assign rfl) ?_
  refine K2 (K3 (K0 (K1 ?_)))
  refine s_alloc (vs := [.slice none 0 0]) hO rfl rfl rfl fun b9 w hO => ?_
  refine K2 (K3 (K0 ?_))
  have hO := piletwin_shut (xs := []) (hO.ks [.b b9] |> sl_nil 124 2 |> Own.swap)
  refine K1 ?_
  refine l_y rfl rfl (y_move rfl) ?_
  refine l_y rfl rfl (y_move rfl) ?_
  refine s_build (parts := [(0, .tmp 19), (1, .tmp 20)]) (cs := [.int .i64 x, .int .i64 y]) rfl rfl (fun a ha => partsOf_sound ha _ _ rfl) (by kernel_rfl) ?_
  refine s_lit (parts := [(0, .tmp 21)]) (enc := Show_twin.cells) [⟨x, y⟩] [.agg [.int .i64 x, .int .i64 y].toArray] hO rfl (fun b22 w hO => ?_)
  refine CK [.o b9] hO rfl (fun k' hx hr hO' => pushtwin_spec (ys := [⟨x, y⟩]) (sls_roK (p := some ⟨b22, 0, none⟩) hr (sls_fct hO)) (by simp) (hO := hO')) ?_
  rintro _ _ w rfl hO
  simp only [List.cons_append, List.nil_append] at hO
  refine K2 (K3 (K0 (K0 (K1 ?_))))
  refine CK [.o b9] hO rfl (fun k' hx hr hO' => poptwin_spec (xs := []) (x := ⟨x, y⟩) (by simp) (hO := hO')) ?_
  rintro _ _ w ⟨rfl, rfl⟩ hO
  simp only [List.cons_append, List.nil_append] at hO
  refine l_y rfl rfl (y_move rfl) ?_
  refine l_y rfl rfl (y_extract rfl rfl) ?_
  refine l_y rfl rfl (y_extract rfl rfl) ?_
  refine s_alloc (vs := [.int .i64 0, .int .i64 0]) hO rfl rfl rfl fun b10 w hO => ?_
  refine Y3 hO rfl rfl (fun w hO => ?_)
  refine l_y rfl rfl (y_assign rfl) ?_
  refine K2 (K3 (K4 ?_))
  refine c_rounds (X := Nat × Bool × Show_twin × List Show_twin) (fun s => [(0, .pointer (some ⟨a, 0, none⟩)), (2, .pointer (some ⟨a, 0, none⟩)), (8, .bool false), (9, .pointer (some ⟨b9, 0, none⟩)), (10, .pointer (some ⟨s.1, 0, none⟩)), (11, .bool s.2.1)]) (fun s w => Own k w [arenaL a A, piletwin b9 s.2.2.2, blk s.1 124 (Show_twin.cells s.2.2.1)] ∧ (SmI A K A K x y s.2.1 s.2.2.1 s.2.2.2)) (fun s => (if s.2.1 = true then cnt A s.2.2.1.x else 0) + sumT A s.2.2.2) ((b10, true, ⟨x, y⟩, [])) ⟨rfl, rfl, rfl, rfl, rfl, rfl, trivial⟩ ⟨hO.only [.o a, .o b9, .b b10], SmI.start⟩ ?_
  rintro s w m hm ⟨hO, hI⟩
  refine K0 (K0 (K1 ?_))
  refine l_y rfl rfl (y_move rfl) ?_
  refine K2 (K3 ?_)
  refine c_split rfl (fun hc28 => ?_) (fun hc28 => ?_)
  · refine K5 (K3 (K0 (K4 (K0 ?_))))
    have hI := hI
    have hm0 := hm
    rw [hc28, if_pos rfl] at hm0
    rw [hc28] at hI
    have hsl := hI.sum
    rw [if_pos rfl] at hsl
    have hstk := sumT_len hI.all
    refine K1 ?_
    refine l_y rfl rfl (y_move rfl) ?_
    refine l_y rfl rfl (y_fldb (o' := 0) rfl) ?_
    refine l_y rfl rfl (D5 hO rfl) ?_
    refine CK [.o a] hO rfl (fun k' hx hr hO' => NodeX_spec h0 t.attrs hO') ?_
    rintro _ _ w ⟨n, hn, rfl, rfl⟩ hO
    simp only [List.cons_append, List.nil_append] at hO
    refine l_y rfl rfl (y_move rfl) ?_
    refine l_y rfl rfl (y_extract rfl rfl) ?_
    refine l_y rfl rfl (y_extract rfl rfl) ?_
    refine s_alloc (vs := [.int .i64 0, .int .i64 0, .string ⟨#[]⟩, .slice none 0 0, .string ⟨#[]⟩, .string ⟨#[]⟩, .int .i64 0, .int .i64 0, .int .i64 0, .int .i64 0, .int .i64 0, .int .i64 0]) hO rfl rfl rfl fun b12 w hO => ?_
    refine Y3 hO rfl rfl (fun w hO => ?_)
    refine l_y rfl rfl (y_assign rfl) ?_
    refine K2 (K3 (K0 (K1 ?_)))
    refine l_y rfl rfl (y_move rfl) ?_
    refine l_y rfl rfl (y_fldb (o' := 1) rfl) ?_
    refine l_y rfl rfl (D5 hO rfl) ?_
    refine CK [.o a] hO rfl (fun k' hx hr hO' => NodeX_spec h0 t.attrs hO') ?_
    rintro _ _ w ⟨n2, hn2, rfl, rfl⟩ hO
    simp only [List.cons_append, List.nil_append] at hO
    refine l_y rfl rfl (y_move rfl) ?_
    refine l_y rfl rfl (y_extract rfl rfl) ?_
    refine l_y rfl rfl (y_extract rfl rfl) ?_
    refine s_alloc (vs := [.int .i64 0, .int .i64 0, .string ⟨#[]⟩, .slice none 0 0, .string ⟨#[]⟩, .string ⟨#[]⟩, .int .i64 0, .int .i64 0, .int .i64 0, .int .i64 0, .int .i64 0, .int .i64 0]) hO rfl rfl rfl fun b14 w hO => ?_
    refine Y3 hO rfl rfl (fun w hO => ?_)
    refine l_y rfl rfl (y_assign rfl) ?_
    refine K2 (K3 (K0 ?_))
    refine da_region (by intro c a d v w h; cases d <;> exact h) ?_
    have hO := hO.drew
    refine da_phase _ [7] (SO.ks [.b s.1] hO) ?_
    refine dx_u 0 (by kernel_rfl) rfl rfl rfl (fun w => y_move rfl) ?_
    refine dx_u 1 (by kernel_rfl) rfl rfl rfl (fun w => y_fldb (o' := 0) rfl) ?_
    refine dx_y 2 (by kernel_rfl) rfl rfl rfl (fun w ⟨m, hw⟩ => D5 hw rfl) ?_
    refine dx_u 4 (by kernel_rfl) rfl rfl rfl (fun w => y_move rfl) ?_
    refine dx_u 5 (by kernel_rfl) rfl rfl rfl (fun w => y_fldb (o' := 1) rfl) ?_
    refine dx_y 6 (by kernel_rfl) rfl rfl rfl (fun w ⟨m, hw⟩ => D5 hw rfl) ?_
    refine dx_only 3 (by kernel_rfl) rfl rfl ?_
    refine CK [.o a] hO rfl (fun k' hx hr hO' => KidsX_spec t h0 (by omega) hO') ?_
    rintro _ _ w ⟨q1, d1, rfl, rfl⟩ hO
    simp only [List.cons_append, List.nil_append] at hO
    refine o_done ?_
    refine ⟨SO.ks [.b s.1] hO, ?_⟩
    refine dx_close 7 (by kernel_rfl) rfl rfl ?_
    refine CK [.o a] hO rfl (fun k' hx hr hO' => KidsX_spec t h0 (by omega) hO') ?_
    rintro _ _ w ⟨q2, d2, rfl, rfl⟩ hO
    simp only [List.cons_append, List.nil_append] at hO
    refine o_done ?_
    refine da_phase _ [] (SO.ks [] hO) ?_
    refine dx_u 8 (by kernel_rfl) rfl rfl rfl (fun w => y_assign rfl) ?_
    refine dx_u 9 (by kernel_rfl) rfl rfl rfl (fun w => y_assign rfl) ?_
    refine dx_end (by kernel_rfl) ?_
    refine K3 ?_
    refine c_cut (X := List Show_twin) (fun l1 => [(0, .pointer (some ⟨a, 0, none⟩)), (2, .pointer (some ⟨a, 0, none⟩)), (8, .bool false), (9, .pointer (some ⟨b9, 0, none⟩)), (10, .pointer (some ⟨s.1, 0, none⟩)), (16, .slice q1 (kidsX A K s.2.2.1.x).length d1), (17, .slice q2 (kidsX A K s.2.2.1.y).length d2)]) (fun l1 w => Own k w [arenaL a A, piletwin b9 l1, blk s.1 124 (Show_twin.cells s.2.2.1), sls q1 d1 3 1 (eI .i64) (kidsX A K s.2.2.1.x), sls q2 d2 3 1 (eI .i64) (kidsX A K s.2.2.1.y)] ∧ (Loc A K A K s.2.2.1.x s.2.2.1.y) ∧ (l1 = s.2.2.2 ++ innT1 A A s.2.2.1.x s.2.2.1.y)) ?_ ?_
    · refine K4 (K0 (K1 ?_))
      refine l_y rfl rfl (y_move rfl) ?_
      refine Z1 (fun h9_1 => ?_) (fun h9_1 => ?_)
      · refine l_y rfl rfl (y_move rfl) ?_
        repeat refine M2 ?_
        refine l_y rfl rfl (y_pick_t rfl rfl) ?_
        refine l_y rfl rfl (y_move rfl) ?_
        repeat refine M2 ?_
        refine l_y rfl rfl (y_pick_t rfl rfl) ?_
        refine l_y rfl rfl (y_move rfl) ?_
        repeat refine M2 ?_
        refine l_y rfl rfl (y_pick_t rfl rfl) ?_
        refine l_y rfl rfl (y_move rfl) ?_
        repeat refine M2 ?_
        refine l_y rfl rfl (y_pick_t rfl rfl) ?_
        refine l_y rfl rfl (y_move rfl) ?_
        repeat refine M2 ?_
        refine l_y rfl rfl (y_pick_t rfl rfl) ?_
        refine l_y rfl rfl (y_move rfl) ?_
        repeat refine M2 ?_
        refine l_y rfl rfl (y_pick_t rfl rfl) ?_
        refine l_y rfl rfl (y_assign rfl) ?_
        refine K2 (K3 (L8 (K0 (K1 ?_))))
        refine l_y rfl rfl (y_assign rfl) ?_
        refine K2 (K3 (K6 (L0 (K9 (L0 (K9 (K9 (L0 (K9 ?_)))))))))
        have hno : ¬ Loc A K A K s.2.2.1.x s.2.2.1.y := by
          intro hl
          first | exact h9_1 (by rw [errN, if_pos hl.ha]) | exact h9_4 (by rw [errN, if_pos hl.hb]) | exact h9_11 (by rw [hn.kind hl.ha, hn2.kind hl.hb]; exact hl.kind) | exact h9_18 (by rw [hn.space hl.ha, hn2.space hl.hb]; exact hl.space) | exact h9_25 (by rw [hn.name hl.ha, hn2.name hl.hb]; exact hl.name) | exact h9_32 (by rw [hn.data hl.ha, hn2.data hl.hb]; exact hl.data) | exact h9_39 (by rw [hn.system hl.ha, hn2.system hl.hb]; exact hl.system)
        exact fin1 rfl rfl ⟨_, ⟨by rw [hI.res, sameN_no t g hno]; simp, rfl⟩, hO.only [.o a]⟩
      · refine l_y rfl rfl (y_move rfl) ?_
        refine l_y rfl rfl (y_move rfl) ?_
        refine Z1 (fun h9_4 => ?_) (fun h9_4 => ?_)
        · refine l_y rfl rfl (y_pick_f rfl rfl) ?_
          refine l_y rfl rfl (y_move rfl) ?_
          repeat refine M2 ?_
          refine l_y rfl rfl (y_pick_t rfl rfl) ?_
          refine l_y rfl rfl (y_move rfl) ?_
          repeat refine M2 ?_
          refine l_y rfl rfl (y_pick_t rfl rfl) ?_
          refine l_y rfl rfl (y_move rfl) ?_
          repeat refine M2 ?_
          refine l_y rfl rfl (y_pick_t rfl rfl) ?_
          refine l_y rfl rfl (y_move rfl) ?_
          repeat refine M2 ?_
          refine l_y rfl rfl (y_pick_t rfl rfl) ?_
          refine l_y rfl rfl (y_move rfl) ?_
          repeat refine M2 ?_
          refine l_y rfl rfl (y_pick_t rfl rfl) ?_
          refine l_y rfl rfl (y_assign rfl) ?_
          refine K2 (K3 (L8 (K0 (K1 ?_))))
          refine l_y rfl rfl (y_assign rfl) ?_
          refine K2 (K3 (K6 (L0 (K9 (L0 (K9 (K9 (L0 (K9 ?_)))))))))
          have hno : ¬ Loc A K A K s.2.2.1.x s.2.2.1.y := by
            intro hl
            first | exact h9_1 (by rw [errN, if_pos hl.ha]) | exact h9_4 (by rw [errN, if_pos hl.hb]) | exact h9_11 (by rw [hn.kind hl.ha, hn2.kind hl.hb]; exact hl.kind) | exact h9_18 (by rw [hn.space hl.ha, hn2.space hl.hb]; exact hl.space) | exact h9_25 (by rw [hn.name hl.ha, hn2.name hl.hb]; exact hl.name) | exact h9_32 (by rw [hn.data hl.ha, hn2.data hl.hb]; exact hl.data) | exact h9_39 (by rw [hn.system hl.ha, hn2.system hl.hb]; exact hl.system)
          exact fin1 rfl rfl ⟨_, ⟨by rw [hI.res, sameN_no t g hno]; simp, rfl⟩, hO.only [.o a]⟩
        · refine l_y rfl rfl (y_pick_f rfl rfl) ?_
          refine l_y rfl rfl (y_move rfl) ?_
          have hax := errN_zero h9_1
          have hbx := errN_zero h9_4
          refine l_y rfl rfl (y_fldb (o' := 0) rfl) ?_
          refine l_y rfl rfl (D5 hO rfl) ?_
          refine l_y rfl rfl (y_fldb (o' := 0) rfl) ?_
          refine l_y rfl rfl (D5 hO rfl) ?_
          refine Z1 (fun h9_11 => ?_) (fun h9_11 => ?_)
          · refine l_y rfl rfl (y_pick_f rfl rfl) ?_
            refine l_y rfl rfl (y_move rfl) ?_
            repeat refine M2 ?_
            refine l_y rfl rfl (y_pick_t rfl rfl) ?_
            refine l_y rfl rfl (y_move rfl) ?_
            repeat refine M2 ?_
            refine l_y rfl rfl (y_pick_t rfl rfl) ?_
            refine l_y rfl rfl (y_move rfl) ?_
            repeat refine M2 ?_
            refine l_y rfl rfl (y_pick_t rfl rfl) ?_
            refine l_y rfl rfl (y_move rfl) ?_
            repeat refine M2 ?_
            refine l_y rfl rfl (y_pick_t rfl rfl) ?_
            refine l_y rfl rfl (y_assign rfl) ?_
            refine K2 (K3 (L8 (K0 (K1 ?_))))
            refine l_y rfl rfl (y_assign rfl) ?_
            refine K2 (K3 (K6 (L0 (K9 (L0 (K9 (K9 (L0 (K9 ?_)))))))))
            have hno : ¬ Loc A K A K s.2.2.1.x s.2.2.1.y := by
              intro hl
              first | exact h9_1 (by rw [errN, if_pos hl.ha]) | exact h9_4 (by rw [errN, if_pos hl.hb]) | exact h9_11 (by rw [hn.kind hl.ha, hn2.kind hl.hb]; exact hl.kind) | exact h9_18 (by rw [hn.space hl.ha, hn2.space hl.hb]; exact hl.space) | exact h9_25 (by rw [hn.name hl.ha, hn2.name hl.hb]; exact hl.name) | exact h9_32 (by rw [hn.data hl.ha, hn2.data hl.hb]; exact hl.data) | exact h9_39 (by rw [hn.system hl.ha, hn2.system hl.hb]; exact hl.system)
            exact fin1 rfl rfl ⟨_, ⟨by rw [hI.res, sameN_no t g hno]; simp, rfl⟩, hO.only [.o a]⟩
          · refine l_y rfl rfl (y_pick_f rfl rfl) ?_
            refine l_y rfl rfl (y_move rfl) ?_
            refine l_y rfl rfl (y_fldb (o' := 1) rfl) ?_
            refine l_y rfl rfl (D5 hO rfl) ?_
            refine l_y rfl rfl (y_fldb (o' := 1) rfl) ?_
            refine l_y rfl rfl (D5 hO rfl) ?_
            refine Z1 (fun h9_18 => ?_) (fun h9_18 => ?_)
            · refine l_y rfl rfl (y_pick_f rfl rfl) ?_
              refine l_y rfl rfl (y_move rfl) ?_
              repeat refine M2 ?_
              refine l_y rfl rfl (y_pick_t rfl rfl) ?_
              refine l_y rfl rfl (y_move rfl) ?_
              repeat refine M2 ?_
              refine l_y rfl rfl (y_pick_t rfl rfl) ?_
              refine l_y rfl rfl (y_move rfl) ?_
              repeat refine M2 ?_
              refine l_y rfl rfl (y_pick_t rfl rfl) ?_
              refine l_y rfl rfl (y_assign rfl) ?_
              refine K2 (K3 (L8 (K0 (K1 ?_))))
              refine l_y rfl rfl (y_assign rfl) ?_
              refine K2 (K3 (K6 (L0 (K9 (L0 (K9 (K9 (L0 (K9 ?_)))))))))
              have hno : ¬ Loc A K A K s.2.2.1.x s.2.2.1.y := by
                intro hl
                first | exact h9_1 (by rw [errN, if_pos hl.ha]) | exact h9_4 (by rw [errN, if_pos hl.hb]) | exact h9_11 (by rw [hn.kind hl.ha, hn2.kind hl.hb]; exact hl.kind) | exact h9_18 (by rw [hn.space hl.ha, hn2.space hl.hb]; exact hl.space) | exact h9_25 (by rw [hn.name hl.ha, hn2.name hl.hb]; exact hl.name) | exact h9_32 (by rw [hn.data hl.ha, hn2.data hl.hb]; exact hl.data) | exact h9_39 (by rw [hn.system hl.ha, hn2.system hl.hb]; exact hl.system)
              exact fin1 rfl rfl ⟨_, ⟨by rw [hI.res, sameN_no t g hno]; simp, rfl⟩, hO.only [.o a]⟩
            · refine l_y rfl rfl (y_pick_f rfl rfl) ?_
              refine l_y rfl rfl (y_move rfl) ?_
              refine l_y rfl rfl (y_fldb (o' := 2) rfl) ?_
              refine l_y rfl rfl (D5 hO rfl) ?_
              refine l_y rfl rfl (y_fldb (o' := 2) rfl) ?_
              refine l_y rfl rfl (D5 hO rfl) ?_
              refine Z3 (fun h9_25 => ?_) (fun h9_25 => ?_)
              · refine l_y rfl rfl (y_pick_f rfl rfl) ?_
                refine l_y rfl rfl (y_move rfl) ?_
                repeat refine M2 ?_
                refine l_y rfl rfl (y_pick_t rfl rfl) ?_
                refine l_y rfl rfl (y_move rfl) ?_
                repeat refine M2 ?_
                refine l_y rfl rfl (y_pick_t rfl rfl) ?_
                refine l_y rfl rfl (y_assign rfl) ?_
                refine K2 (K3 (L8 (K0 (K1 ?_))))
                refine l_y rfl rfl (y_assign rfl) ?_
                refine K2 (K3 (K6 (L0 (K9 (L0 (K9 (K9 (L0 (K9 ?_)))))))))
                have hno : ¬ Loc A K A K s.2.2.1.x s.2.2.1.y := by
                  intro hl
                  first | exact h9_1 (by rw [errN, if_pos hl.ha]) | exact h9_4 (by rw [errN, if_pos hl.hb]) | exact h9_11 (by rw [hn.kind hl.ha, hn2.kind hl.hb]; exact hl.kind) | exact h9_18 (by rw [hn.space hl.ha, hn2.space hl.hb]; exact hl.space) | exact h9_25 (by rw [hn.name hl.ha, hn2.name hl.hb]; exact hl.name) | exact h9_32 (by rw [hn.data hl.ha, hn2.data hl.hb]; exact hl.data) | exact h9_39 (by rw [hn.system hl.ha, hn2.system hl.hb]; exact hl.system)
                exact fin1 rfl rfl ⟨_, ⟨by rw [hI.res, sameN_no t g hno]; simp, rfl⟩, hO.only [.o a]⟩
              · refine l_y rfl rfl (y_pick_f rfl rfl) ?_
                refine l_y rfl rfl (y_move rfl) ?_
                refine l_y rfl rfl (y_fldb (o' := 4) rfl) ?_
                refine l_y rfl rfl (D5 hO rfl) ?_
                refine l_y rfl rfl (y_fldb (o' := 4) rfl) ?_
                refine l_y rfl rfl (D5 hO rfl) ?_
                refine Z3 (fun h9_32 => ?_) (fun h9_32 => ?_)
                · refine l_y rfl rfl (y_pick_f rfl rfl) ?_
                  refine l_y rfl rfl (y_move rfl) ?_
                  repeat refine M2 ?_
                  refine l_y rfl rfl (y_pick_t rfl rfl) ?_
                  refine l_y rfl rfl (y_assign rfl) ?_
                  refine K2 (K3 (L8 (K0 (K1 ?_))))
                  refine l_y rfl rfl (y_assign rfl) ?_
                  refine K2 (K3 (K6 (L0 (K9 (L0 (K9 (K9 (L0 (K9 ?_)))))))))
                  have hno : ¬ Loc A K A K s.2.2.1.x s.2.2.1.y := by
                    intro hl
                    first | exact h9_1 (by rw [errN, if_pos hl.ha]) | exact h9_4 (by rw [errN, if_pos hl.hb]) | exact h9_11 (by rw [hn.kind hl.ha, hn2.kind hl.hb]; exact hl.kind) | exact h9_18 (by rw [hn.space hl.ha, hn2.space hl.hb]; exact hl.space) | exact h9_25 (by rw [hn.name hl.ha, hn2.name hl.hb]; exact hl.name) | exact h9_32 (by rw [hn.data hl.ha, hn2.data hl.hb]; exact hl.data) | exact h9_39 (by rw [hn.system hl.ha, hn2.system hl.hb]; exact hl.system)
                  exact fin1 rfl rfl ⟨_, ⟨by rw [hI.res, sameN_no t g hno]; simp, rfl⟩, hO.only [.o a]⟩
                · refine l_y rfl rfl (y_pick_f rfl rfl) ?_
                  refine l_y rfl rfl (y_move rfl) ?_
                  refine l_y rfl rfl (y_fldb (o' := 5) rfl) ?_
                  refine l_y rfl rfl (D5 hO rfl) ?_
                  refine l_y rfl rfl (y_fldb (o' := 5) rfl) ?_
                  refine l_y rfl rfl (D5 hO rfl) ?_
                  refine Z3 (fun h9_39 => ?_) (fun h9_39 => ?_)
                  · refine l_y rfl rfl (y_pick_f rfl rfl) ?_
                    refine l_y rfl rfl (y_assign rfl) ?_
                    refine K2 (K3 (L8 (K0 (K1 ?_))))
                    refine l_y rfl rfl (y_assign rfl) ?_
                    refine K2 (K3 (K6 (L0 (K9 (L0 (K9 (K9 (L0 (K9 ?_)))))))))
                    have hno : ¬ Loc A K A K s.2.2.1.x s.2.2.1.y := by
                      intro hl
                      first | exact h9_1 (by rw [errN, if_pos hl.ha]) | exact h9_4 (by rw [errN, if_pos hl.hb]) | exact h9_11 (by rw [hn.kind hl.ha, hn2.kind hl.hb]; exact hl.kind) | exact h9_18 (by rw [hn.space hl.ha, hn2.space hl.hb]; exact hl.space) | exact h9_25 (by rw [hn.name hl.ha, hn2.name hl.hb]; exact hl.name) | exact h9_32 (by rw [hn.data hl.ha, hn2.data hl.hb]; exact hl.data) | exact h9_39 (by rw [hn.system hl.ha, hn2.system hl.hb]; exact hl.system)
                    exact fin1 rfl rfl ⟨_, ⟨by rw [hI.res, sameN_no t g hno]; simp, rfl⟩, hO.only [.o a]⟩
                  · refine l_y rfl rfl (y_pick_f rfl rfl) ?_
                    refine l_y rfl rfl (y_assign rfl) ?_
                    refine K2 (K3 (L9 (K0 ?_)))
                    have hna : n.Attrs.length ≤ 1024 := by rw [hn.attrs hax]; have h := inA_iff.1 hax; exact t.attrs _ (by have := h.1; have := h.2; omega)
                    have hkx : kidsX A K s.2.2.1.x = K s.2.2.1.x := by rw [kidsX, if_pos hax]
                    have hky : kidsX A K s.2.2.1.y = K s.2.2.1.y := by rw [kidsX, if_pos hbx]
                    have hinn : Loc A K A K s.2.2.1.x s.2.2.1.y → (n.Inner = -1 ↔ n2.Inner = -1) := fun h => by rw [hn.inner hax, hn2.inner hbx]; exact h.inner
                    refine K1 ?_
                    refine l_y rfl rfl (y_fldb (o' := 3) rfl) ?_
                    refine l_y rfl rfl (D5 hO rfl) ?_
                    refine l_y rfl rfl (y_fldb (o' := 3) rfl) ?_
                    refine l_y rfl rfl (D5 hO rfl) ?_
                    refine CK [] hO rfl (fun k' hx hr hO' => Equal_spec (sls_roK (p := n.AttrsP) hr (sls_fct hO)) (sls_roK (p := n2.AttrsP) hr (sls_fct hO)) (by omega) hO') ?_
                    rintro _ _ w ⟨rfl, rfl⟩ hO
                    simp only [List.cons_append, List.nil_append] at hO
                    refine l_y rfl rfl (y_not rfl rfl) ?_
                    refine l_y rfl rfl (y_move rfl) ?_
                    refine l_split 104 rfl (fun hg104 => ?_) (fun hg104 => ?_)
                    · simp only [Bool.not_eq_true', Bool.not_eq_false'] at hg104
                      repeat refine M2 ?_
                      refine l_y rfl rfl (y_pick_t rfl rfl) ?_
                      refine l_y rfl rfl (y_move rfl) ?_
                      repeat refine M2 ?_
                      refine l_y rfl rfl (y_pick_t rfl rfl) ?_
                      refine l_y rfl rfl (y_assign rfl) ?_
                      refine K2 (K3 (L8 (K0 (K1 ?_))))
                      refine l_y rfl rfl (y_assign rfl) ?_
                      refine K2 (K3 (K6 (L0 (K9 (L0 (K9 (K9 (L0 (K9 ?_)))))))))
                      have hno : ¬ Loc A K A K s.2.2.1.x s.2.2.1.y := by
                        intro hl
                        first | exact (of_decide_eq_false hg104) (by rw [hn.attrs hax, hn2.attrs hbx]; exact hl.attrs) | exact h11_11 (by rw [hkx, hky]; exact congrArg _ hl.kids) | exact h11_19 ((hinn hl).1 h11_16) | exact h11_16 ((hinn hl).2 h11_19)
                      exact fin1 rfl rfl ⟨_, ⟨by rw [hI.res, sameN_no t g hno]; simp, rfl⟩, hO.only [.o a]⟩
                    · simp only [Bool.not_eq_true', Bool.not_eq_false'] at hg104
                      refine l_y rfl rfl (y_move rfl) ?_
                      refine l_y rfl rfl (y_lenL rfl) ?_
                      refine l_y rfl rfl (y_move rfl) ?_
                      refine l_y rfl rfl (y_lenL rfl) ?_
                      refine Z1 (fun h11_11 => ?_) (fun h11_11 => ?_)
                      · refine l_y rfl rfl (y_pick_f rfl rfl) ?_
                        refine l_y rfl rfl (y_move rfl) ?_
                        repeat refine M2 ?_
                        refine l_y rfl rfl (y_pick_t rfl rfl) ?_
                        refine l_y rfl rfl (y_assign rfl) ?_
                        refine K2 (K3 (L8 (K0 (K1 ?_))))
                        refine l_y rfl rfl (y_assign rfl) ?_
                        refine K2 (K3 (K6 (L0 (K9 (L0 (K9 (K9 (L0 (K9 ?_)))))))))
                        have hno : ¬ Loc A K A K s.2.2.1.x s.2.2.1.y := by
                          intro hl
                          first | exact (of_decide_eq_false hg104) (by rw [hn.attrs hax, hn2.attrs hbx]; exact hl.attrs) | exact h11_11 (by rw [hkx, hky]; exact congrArg _ hl.kids) | exact h11_19 ((hinn hl).1 h11_16) | exact h11_16 ((hinn hl).2 h11_19)
                        exact fin1 rfl rfl ⟨_, ⟨by rw [hI.res, sameN_no t g hno]; simp, rfl⟩, hO.only [.o a]⟩
                      · refine l_y rfl rfl (y_pick_f rfl rfl) ?_
                        refine l_y rfl rfl (y_move rfl) ?_
                        refine l_y rfl rfl (y_fldb (o' := 11) rfl) ?_
                        refine l_y rfl rfl (D5 hO rfl) ?_
                        refine Z0 (fun h11_16 => ?_) (fun h11_16 => ?_)
                        · refine l_y rfl rfl (y_fldb (o' := 11) rfl) ?_
                          refine l_y rfl rfl (D5 hO rfl) ?_
                          refine Z0 (fun h11_19 => ?_) (fun h11_19 => ?_)
                          · refine l_y rfl rfl (y_neB rfl rfl rfl) ?_
                            refine l_y rfl rfl (y_pick_f rfl rfl) ?_
                            refine l_y rfl rfl (y_assign rfl) ?_
                            refine K2 (K3 (L9 (K0 ?_)))
                            have hloc : Loc A K A K s.2.2.1.x s.2.2.1.y := ⟨hax, hbx, by rw [← hn.kind hax, ← hn2.kind hbx]; exact h9_11, by rw [← hn.space hax, ← hn2.space hbx]; exact h9_18, by rw [← hn.name hax, ← hn2.name hbx]; exact h9_25, by rw [← hn.data hax, ← hn2.data hbx]; exact h9_32, by rw [← hn.system hax, ← hn2.system hbx]; exact h9_39, by rw [← hn.attrs hax, ← hn2.attrs hbx]; exact of_decide_eq_true hg104, by rw [← hkx, ← hky]; omega, by rw [← hn.inner hax, ← hn2.inner hbx]; omega⟩
                            refine K1 ?_
                            refine l_y rfl rfl (y_fldb (o' := 11) rfl) ?_
                            refine l_y rfl rfl (D5 hO rfl) ?_
                            refine Z1 (fun h13_2 => ?_) (fun h13_2 => ?_)
                            · first
                              | (exfalso; omega)
                              | skip
                                refine l_y rfl rfl (y_assign rfl) ?_
                                refine K2 (K3 (L8 (K1 ?_)))
                                refine l_y rfl rfl (y_fldb (o' := 11) rfl) ?_
                                refine l_y rfl rfl (D5 hO rfl) ?_
                                refine l_y rfl rfl (y_fldb (o' := 11) rfl) ?_
                                refine l_y rfl rfl (D5 hO rfl) ?_
                                refine s_build (parts := [(0, .tmp 125), (1, .tmp 127)]) (cs := [.int .i64 n.Inner, .int .i64 n2.Inner]) rfl rfl (fun a ha => partsOf_sound ha _ _ rfl) (by kernel_rfl) ?_
                                refine s_lit (parts := [(0, .tmp 128)]) (enc := Show_twin.cells) [⟨n.Inner, n2.Inner⟩] [.agg [.int .i64 n.Inner, .int .i64 n2.Inner].toArray] hO rfl (fun b129 w hO => ?_)
                                refine CK [.o b9] hO rfl (fun k' hx hr hO' => pushtwin_spec (ys := [⟨n.Inner, n2.Inner⟩]) (sls_roK (p := some ⟨b129, 0, none⟩) hr (sls_fct hO)) (by simp only [List.length_cons, List.length_nil]; omega) (hO := hO')) ?_
                                rintro _ _ w rfl hO
                                simp only [List.cons_append, List.nil_append] at hO
                                have hl1 : s.2.2.2 ++ [⟨n.Inner, n2.Inner⟩] = s.2.2.2 ++ innT1 A A s.2.2.1.x s.2.2.1.y := by rw [innT1, if_neg (by rw [← hn.inner hax]; omega), hn.inner hax, hn2.inner hbx]
                                refine K2 (K8 ?_)
                                exact q_cut (_) ⟨rfl, rfl, rfl, rfl, rfl, rfl, rfl, trivial⟩ ⟨hO.only [.o a, .o b9, .b s.1, .p q1, .p q2], hloc, hl1⟩
                            · first
                              | (exfalso; omega)
                              | skip
                                have hl1 : s.2.2.2 = s.2.2.2 ++ innT1 A A s.2.2.1.x s.2.2.1.y := by rw [innT1, if_pos (by rw [← hn.inner hax]; omega), List.append_nil]
                                refine l_y rfl rfl (y_assign rfl) ?_
                                refine K2 (K3 (L9 (K5 (K8 ?_))))
                                exact q_cut (_) ⟨rfl, rfl, rfl, rfl, rfl, rfl, rfl, trivial⟩ ⟨hO.only [.o a, .o b9, .b s.1, .p q1, .p q2], hloc, hl1⟩
                          · refine l_y rfl rfl (y_neB rfl rfl rfl) ?_
                            refine l_y rfl rfl (y_pick_f rfl rfl) ?_
                            refine l_y rfl rfl (y_assign rfl) ?_
                            refine K2 (K3 (L8 (K0 (K1 ?_))))
                            refine l_y rfl rfl (y_assign rfl) ?_
                            refine K2 (K3 (K6 (L0 (K9 (L0 (K9 (K9 (L0 (K9 ?_)))))))))
                            have hno : ¬ Loc A K A K s.2.2.1.x s.2.2.1.y := by
                              intro hl
                              first | exact (of_decide_eq_false hg104) (by rw [hn.attrs hax, hn2.attrs hbx]; exact hl.attrs) | exact h11_11 (by rw [hkx, hky]; exact congrArg _ hl.kids) | exact h11_19 ((hinn hl).1 h11_16) | exact h11_16 ((hinn hl).2 h11_19)
                            exact fin1 rfl rfl ⟨_, ⟨by rw [hI.res, sameN_no t g hno]; simp, rfl⟩, hO.only [.o a]⟩
                        · refine l_y rfl rfl (y_fldb (o' := 11) rfl) ?_
                          refine l_y rfl rfl (D5 hO rfl) ?_
                          refine Z0 (fun h11_19 => ?_) (fun h11_19 => ?_)
                          · refine l_y rfl rfl (y_neB rfl rfl rfl) ?_
                            refine l_y rfl rfl (y_pick_f rfl rfl) ?_
                            refine l_y rfl rfl (y_assign rfl) ?_
                            refine K2 (K3 (L8 (K0 (K1 ?_))))
                            refine l_y rfl rfl (y_assign rfl) ?_
                            refine K2 (K3 (K6 (L0 (K9 (L0 (K9 (K9 (L0 (K9 ?_)))))))))
                            have hno : ¬ Loc A K A K s.2.2.1.x s.2.2.1.y := by
                              intro hl
                              first | exact (of_decide_eq_false hg104) (by rw [hn.attrs hax, hn2.attrs hbx]; exact hl.attrs) | exact h11_11 (by rw [hkx, hky]; exact congrArg _ hl.kids) | exact h11_19 ((hinn hl).1 h11_16) | exact h11_16 ((hinn hl).2 h11_19)
                            exact fin1 rfl rfl ⟨_, ⟨by rw [hI.res, sameN_no t g hno]; simp, rfl⟩, hO.only [.o a]⟩
                          · refine l_y rfl rfl (y_neB rfl rfl rfl) ?_
                            refine l_y rfl rfl (y_pick_f rfl rfl) ?_
                            refine l_y rfl rfl (y_assign rfl) ?_
                            refine K2 (K3 (L9 (K0 ?_)))
                            have hloc : Loc A K A K s.2.2.1.x s.2.2.1.y := ⟨hax, hbx, by rw [← hn.kind hax, ← hn2.kind hbx]; exact h9_11, by rw [← hn.space hax, ← hn2.space hbx]; exact h9_18, by rw [← hn.name hax, ← hn2.name hbx]; exact h9_25, by rw [← hn.data hax, ← hn2.data hbx]; exact h9_32, by rw [← hn.system hax, ← hn2.system hbx]; exact h9_39, by rw [← hn.attrs hax, ← hn2.attrs hbx]; exact of_decide_eq_true hg104, by rw [← hkx, ← hky]; omega, by rw [← hn.inner hax, ← hn2.inner hbx]; omega⟩
                            refine K1 ?_
                            refine l_y rfl rfl (y_fldb (o' := 11) rfl) ?_
                            refine l_y rfl rfl (D5 hO rfl) ?_
                            refine Z1 (fun h13_2 => ?_) (fun h13_2 => ?_)
                            · first
                              | (exfalso; omega)
                              | skip
                                refine l_y rfl rfl (y_assign rfl) ?_
                                refine K2 (K3 (L8 (K1 ?_)))
                                refine l_y rfl rfl (y_fldb (o' := 11) rfl) ?_
                                refine l_y rfl rfl (D5 hO rfl) ?_
                                refine l_y rfl rfl (y_fldb (o' := 11) rfl) ?_
                                refine l_y rfl rfl (D5 hO rfl) ?_
                                refine s_build (parts := [(0, .tmp 125), (1, .tmp 127)]) (cs := [.int .i64 n.Inner, .int .i64 n2.Inner]) rfl rfl (fun a ha => partsOf_sound ha _ _ rfl) (by kernel_rfl) ?_
                                refine s_lit (parts := [(0, .tmp 128)]) (enc := Show_twin.cells) [⟨n.Inner, n2.Inner⟩] [.agg [.int .i64 n.Inner, .int .i64 n2.Inner].toArray] hO rfl (fun b129 w hO => ?_)
                                refine CK [.o b9] hO rfl (fun k' hx hr hO' => pushtwin_spec (ys := [⟨n.Inner, n2.Inner⟩]) (sls_roK (p := some ⟨b129, 0, none⟩) hr (sls_fct hO)) (by simp only [List.length_cons, List.length_nil]; omega) (hO := hO')) ?_
                                rintro _ _ w rfl hO
                                simp only [List.cons_append, List.nil_append] at hO
                                have hl1 : s.2.2.2 ++ [⟨n.Inner, n2.Inner⟩] = s.2.2.2 ++ innT1 A A s.2.2.1.x s.2.2.1.y := by rw [innT1, if_neg (by rw [← hn.inner hax]; omega), hn.inner hax, hn2.inner hbx]
                                refine K2 (K8 ?_)
                                exact q_cut (_) ⟨rfl, rfl, rfl, rfl, rfl, rfl, rfl, trivial⟩ ⟨hO.only [.o a, .o b9, .b s.1, .p q1, .p q2], hloc, hl1⟩
                            · first
                              | (exfalso; omega)
                              | skip
                                have hl1 : s.2.2.2 = s.2.2.2 ++ innT1 A A s.2.2.1.x s.2.2.1.y := by rw [innT1, if_pos (by rw [← hn.inner hax]; omega), List.append_nil]
                                refine l_y rfl rfl (y_assign rfl) ?_
                                refine K2 (K3 (L9 (K5 (K8 ?_))))
                                exact q_cut (_) ⟨rfl, rfl, rfl, rfl, rfl, rfl, rfl, trivial⟩ ⟨hO.only [.o a, .o b9, .b s.1, .p q1, .p q2], hloc, hl1⟩
    · rintro l1 w ⟨hO, hloc, hl1⟩
      refine K0 ?_
      have hxi := inA_iff.1 hloc.ha
      have hkx : kidsX A K s.2.2.1.x = K s.2.2.1.x := by rw [kidsX, if_pos hloc.ha]
      have hky : kidsX A K s.2.2.1.y = K s.2.2.1.y := by rw [kidsX, if_pos hloc.hb]
      have hkk := hloc.kids
      have hkl := t.len hxi
      have hll : l1.length ≤ s.2.2.2.length + 1 := by rw [hl1, List.length_append, innT1]; split <;> simp
      have hg1 := (sls_fct (p := q1) hO).2
      have hg2 := (sls_fct (p := q2) hO).2
      rw [hkx, hky] at hO
      rw [hkx] at hg1
      rw [hky] at hg2
      rw [hkx, hky]
      rw [show l1 = l1 ++ ((((K s.2.2.1.x).zip (K s.2.2.1.y)).map toT).take 0) by simp] at hO
      refine K1 ?_
      refine l_y rfl rfl (y_move rfl) ?_
      refine l_y rfl rfl (y_lenL rfl) ?_
      refine l_y rfl rfl (y_move rfl) ?_
      refine K2 (K3 (K4 ?_))
      refine c_rounds (X := Nat) (fun i => [(0, .pointer (some ⟨a, 0, none⟩)), (2, .pointer (some ⟨a, 0, none⟩)), (8, .bool false), (9, .pointer (some ⟨b9, 0, none⟩)), (10, .pointer (some ⟨s.1, 0, none⟩)), (16, .slice q1 (K s.2.2.1.x).length d1), (17, .slice q2 (K s.2.2.1.y).length d2), (132, .int .i64 (((K s.2.2.1.x).length : Nat) : Int)), (133, .int .i64 (i : Int))]) (fun i w => Own k w [arenaL a A, piletwin b9 (l1 ++ ((((K s.2.2.1.x).zip (K s.2.2.1.y)).map toT).take i)), blk s.1 124 (Show_twin.cells s.2.2.1), sls q1 d1 3 1 (eI .i64) (K s.2.2.1.x), sls q2 d2 3 1 (eI .i64) (K s.2.2.1.y)] ∧ (i ≤ (K s.2.2.1.x).length)) (fun i => (K s.2.2.1.x).length - i) (0) ⟨rfl, rfl, rfl, rfl, rfl, rfl, rfl, rfl, rfl, trivial⟩ ⟨hO.only [.o a, .o b9, .b s.1, .p q1, .p q2], Nat.zero_le _⟩ ?_
      rintro i w m hm ⟨hO, hil⟩
      refine K0 (K1 ?_)
      refine Z0 (fun h16_0 => ?_) (fun h16_0 => ?_)
      · refine K2 (K3 (K0 (L8 (K5 (K3 (K0 (K4 (K0 (K1 ?_)))))))))
        refine l_y rfl rfl (y_move rfl) ?_
        refine l_y rfl rfl (y_assign rfl) ?_
        refine K2 (K3 ?_)
        refine da_region (by intro c a d v w h; cases d <;> exact h) ?_
        have hO := hO.drew
        refine da_phase _ [8] (SO.ks [.p q1, .p q2] hO) ?_
        refine dx_u 0 (by kernel_rfl) rfl rfl rfl (fun w => y_move rfl) ?_
        refine dx_u 1 (by kernel_rfl) rfl rfl rfl (fun w => y_move rfl) ?_
        refine dx_u 2 (by kernel_rfl) rfl rfl rfl (fun w => y_idx rfl rfl) ?_
        refine dx_y 3 (by kernel_rfl) rfl rfl rfl (fun w ⟨m, hw⟩ => y_e1 (x0 := 0) hw rfl) ?_
        refine dx_u 4 (by kernel_rfl) rfl rfl rfl (fun w => y_move rfl) ?_
        refine dx_u 5 (by kernel_rfl) rfl rfl rfl (fun w => y_move rfl) ?_
        refine dx_u 6 (by kernel_rfl) rfl rfl rfl (fun w => y_idx rfl rfl) ?_
        refine dx_y 7 (by kernel_rfl) rfl rfl rfl (fun w ⟨m, hw⟩ => y_e1 (x0 := 0) hw rfl) ?_
        refine dx_close 8 (by kernel_rfl) rfl rfl ?_
        refine s_build (parts := [(0, .tmp 139), (1, .tmp 143)]) (cs := [.int .i64 (at_ (K s.2.2.1.x) ((i : Int) : Int).toNat), .int .i64 (at_ (K s.2.2.1.y) ((i : Int) : Int).toNat)]) rfl rfl (fun a ha => partsOf_sound ha _ _ rfl) (by kernel_rfl) ?_
        refine o_done ?_
        refine da_only 9 (by kernel_rfl) rfl ?_
        refine s_lit (parts := [(0, .tmp 144)]) (enc := Show_twin.cells) [⟨(at_ (K s.2.2.1.x) ((i : Int) : Int).toNat), (at_ (K s.2.2.1.y) ((i : Int) : Int).toNat)⟩] [.agg [.int .i64 (at_ (K s.2.2.1.x) ((i : Int) : Int).toNat), .int .i64 (at_ (K s.2.2.1.y) ((i : Int) : Int).toNat)].toArray] hO rfl (fun b145 w hO => ?_)
        refine o_done ?_
        refine da_only 10 (by kernel_rfl) rfl ?_
        refine CK [.o b9] hO rfl (fun k' hx hr hO' => pushtwin_spec (ys := [⟨at_ (K s.2.2.1.x) i, at_ (K s.2.2.1.y) i⟩]) (sls_roK (p := some ⟨b145, 0, none⟩) hr (sls_fct hO)) (by simp only [List.length_append, List.length_take, List.length_cons, List.length_nil]; omega) (hO := hO')) ?_
        rintro _ _ w rfl hO
        simp only [List.cons_append, List.nil_append] at hO
        rw [List.append_assoc, ← zip_at (show i < (K s.2.2.1.x).length by omega) hkk] at hO
        refine o_done ?_
        refine da_end (by kernel_rfl) ?_
        refine K8 (K3 (K1 ?_))
        refine l_y rfl rfl (D4) ?_
        refine l_y rfl rfl (y_move rfl) ?_
        refine K2 ?_
        exact q_next (i + 1) ⟨rfl, rfl, rfl, rfl, rfl, rfl, rfl, rfl, rfl, trivial⟩ ⟨hO.only [.o a, .o b9, .b s.1, .p q1, .p q2], by omega⟩ (by omega)
      · refine K2 (K3 (K0 (L9 (K7 (L1 (L1 (L2 (K8 (K3 (K0 (K0 ?_)))))))))))
        have ei : i = (K s.2.2.1.x).length := by omega
        rw [ei, List.take_of_length_le (by rw [List.length_map, List.length_zip]; omega), hl1, List.append_assoc, ← belowT] at hO
        refine K1 ?_
        refine l_y rfl rfl (D8 (cs := [.int .i64 s.2.2.1.x, .int .i64 s.2.2.1.y]) hO rfl) ?_
        refine K2 (K3 (K1 ?_))
        refine s_alloc (vs := [.int .i64 0, .int .i64 0]) hO rfl rfl rfl fun b10 w hO => ?_
        refine Y3 hO rfl rfl (fun w hO => ?_)
        refine K2 (K3 (K1 ?_))
        refine CK [.o b9] hO rfl (fun k' hx hr hO' => popT_spec (by rw [belowT]; simp only [List.length_append, List.length_map, List.length_zip] at hll ⊢; rw [hl1] at hll; simp only [List.length_append] at hll; omega) hO') ?_
        rintro _ _ w ⟨c2, ok2, l2, hp2, rfl, rfl⟩ hO
        simp only [List.cons_append, List.nil_append] at hO
        have hJ := hI.next t g hloc hp2
        refine l_y rfl rfl (y_move rfl) ?_
        refine l_y rfl rfl (y_extract rfl rfl) ?_
        refine l_y rfl rfl (y_extract rfl rfl) ?_
        refine Y3 hO rfl rfl (fun w hO => ?_)
        refine l_y rfl rfl (y_assign rfl) ?_
        refine K2 ?_
        exact q_next ((b10, ok2, c2, l2)) ⟨rfl, rfl, rfl, rfl, rfl, rfl, trivial⟩ ⟨hO.only [.o a, .o b9, .b b10], hJ.1⟩ (by have h := hJ.2; dsimp only; omega)
  · refine K7 (L1 (L1 (L2 (K3 (K0 (K1 ?_))))))
    refine l_y rfl rfl (y_assign rfl) ?_
    refine K2 (K3 (K6 ?_))
    have hx := hI.res
    rw [hc28, hI.off hc28] at hx
    exact fin1 rfl rfl ⟨_, ⟨by rw [hx]; rfl, rfl⟩, hO.only [.o a]⟩
end
end Go.Proofs.Ythkmnohghpdjhaa
end
