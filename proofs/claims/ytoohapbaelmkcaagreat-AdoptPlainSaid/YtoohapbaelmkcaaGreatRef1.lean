/- The walks of the answer's arena: what it owns, one more node, what is told of one; no condition. -/
import Derived.Test.YtoohapbaelmkcaaGreatNode9
set_option linter.unusedVariables false
set_option linter.unusedSimpArgs false
set_option maxRecDepth 100000
namespace Go.Proofs.YtoohapbaelmkcaaGreat
open Go Go.Hb Go.RowKit
abbrev rB (r : Nat) (p : Option Addr) (n c : Nat) : HP := blk r 87 [.slice p n c]
abbrev rS (p : Option Addr) (c : Nat) (R : List Ref01_one) : HP := sls p c 127 10 Ref01_one.cells R
structure RF1 (F : Pl) (o : Ref01_one) : Prop where
  attrs : Sli (PH F) (.slice o.AttrsP o.Attrs.length o.AttrsC) (o.Attrs.map Api_attr.cells)
  kids : Sli (PH F) (.slice o.KidsP o.Kids.length o.KidsC) (o.Kids.map (eI .i64))
def RF (F : Pl) (R : List Ref01_one) : Prop := ∀ o ∈ R, RF1 F o
theorem RF.atR {F : Pl} {R : List Ref01_one} (h : RF F R) {i : Nat} (hi : i < R.length) : RF1 F (at_ R i) := h _ (at_mem hi)
theorem RF1.le {F G : Pl} {o : Ref01_one} (h : RF1 F o) (hl : PLe F G) : RF1 G o := ⟨h.attrs.le hl, h.kids.le hl⟩
theorem RF.le {F G : Pl} {R : List Ref01_one} (h : RF F R) (hl : PLe F G) : RF G R := fun o ho => (h o ho).le hl
theorem RF.set {F : Pl} {R : List Ref01_one} (h : RF F R) {i : Nat} {o : Ref01_one} (ho : RF1 F o) : RF F (R.set i o) := fun x hx => by
  rcases List.mem_or_eq_of_mem_set hx with hx | rfl
  · exact h x hx
  · exact ho
theorem RF.app {F : Pl} {R : List Ref01_one} (h : RF F R) {o : Ref01_one} (ho : RF1 F o) : RF F (R ++ [o]) := fun x hx => by
  rcases List.mem_append.1 hx with hx | hx
  · exact h x hx
  · rw [List.mem_singleton.1 hx]; exact ho
/-- the answer's arena -/
def rarL (r : Nat) (R : List Ref01_one) : HP := fun h => ∃ x : {x : Option Addr × Nat × Pl // RF x.2.2 R}, sep [blk r 87 [.slice x.1.1 R.length x.1.2.1], sls x.1.1 x.1.2.1 127 10 Ref01_one.cells R, pool x.1.2.2] h
theorem rarL_open {k : Ctx} {w : World} {l : List HP} {r : Nat} {R : List Ref01_one} (hO : Own k w (rarL r R :: l)) : ∃ p c F, Gs p R.length ∧ RF F R ∧ Own k w (rB r p R.length c :: rS p c R :: pool F :: l) := by
  obtain ⟨⟨⟨p, c, F⟩, hF⟩, hO⟩ := Own.ex (A := fun (x : {x : Option Addr × Nat × Pl // RF x.2.2 R}) => sep [blk r 87 [.slice x.1.1 R.length x.1.2.1], sls x.1.1 x.1.2.1 127 10 Ref01_one.cells R, pool x.1.2.2]) hO
  have hO := Own.open hO
  simp only [List.cons_append, List.nil_append] at hO
  exact ⟨p, c, F, (sls_fct (p := p) hO).2, hF, hO⟩
theorem rarL_shut {k : Ctx} {w : World} {l : List HP} {r n : Nat} {R : List Ref01_one} {p : Option Addr} {c : Nat} {F : Pl} (hF : RF F R) (hO : Own k w (rB r p n c :: rS p c R :: pool F :: l)) (hn : n = R.length := by first | rfl | simp) : Own k w (rarL r R :: l) := by
  subst hn
  exact (Own.shut (l := [blk r 87 [.slice p R.length c], sls p c 127 10 Ref01_one.cells R, pool F]) hO).tell fun h hA => ⟨⟨(p, c, F), hF⟩, hA⟩
instance (l : List HP) (r : Nat) (R : List Ref01_one) : AtK (rarL r R :: l) (.o r) (rarL r R) l := ⟨.hd _ _⟩
def hasR (R : List Ref01_one) (id : Int) : Bool := decide (0 ≤ id ∧ id < R.length)
theorem hasR_true {R : List Ref01_one} {id : Int} (h : hasR R id = true) : 0 ≤ id ∧ id < R.length := of_decide_eq_true h
theorem hasR_not {R : List Ref01_one} {id : Int} (h : hasR R id = false) : ¬ (0 ≤ id ∧ id < R.length) := of_decide_eq_false h
theorem Is_spec {k : Ctx} {w : World} {r : Nat} {R : List Ref01_one} {p : Option Addr} {c : Nat} {id : Int} (hO : Own k w [rB r p R.length c, rS p c R]) :
    Tri Tryz.prog 65 #[.pointer (some ⟨r, 0, none⟩), .int .i64 id] k w fun v m => v = .bool (hasR R id) ∧ m = [rB r p R.length c, rS p c R] := by
  refine enter (args := [.pointer (some ⟨r, 0, none⟩), .int .i64 id]) Tryz.func65 rfl rfl ?_
  refine K0 (K1 ?_)
  refine l_y rfl rfl (y_assign rfl) ?_
  refine K2 (K3 (K0 (K1 ?_)))
  refine l_y rfl rfl (y_move rfl) ?_
  refine Z0 (fun h1_1 => ?_) (fun h1_1 => ?_)
  · refine l_y rfl rfl (y_move rfl) ?_
    refine l_y rfl rfl (y_move rfl) ?_
    refine l_y rfl rfl (y_move rfl) ?_
    refine l_y rfl rfl (y_nilCheck rfl rfl) ?_
    refine l_y rfl rfl (y_fldb (o' := 0) rfl) ?_
    refine l_y rfl rfl (D5 hO rfl) ?_
    refine l_y rfl rfl (y_lenL rfl) ?_
    refine Z0 (fun h1_9 => ?_) (fun h1_9 => ?_)
    · refine l_y rfl rfl (y_pick_t rfl rfl) ?_
      refine l_y rfl rfl (y_assign rfl) ?_
      refine K2 (K3 (K6 ?_))
      exact fin1 rfl rfl ⟨_, ⟨by simp [hasR, *], rfl⟩, hO⟩
    · refine l_y rfl rfl (y_pick_t rfl rfl) ?_
      refine l_y rfl rfl (y_assign rfl) ?_
      refine K2 (K3 (K6 ?_))
      exact fin1 rfl rfl ⟨_, ⟨by simp [hasR, *], rfl⟩, hO⟩
  · refine l_y rfl rfl (y_move rfl) ?_
    repeat refine M2 ?_
    refine l_y rfl rfl (y_pick_f rfl rfl) ?_
    refine l_y rfl rfl (y_assign rfl) ?_
    refine K2 (K3 (K6 ?_))
    exact fin1 rfl rfl ⟨_, ⟨by simp [hasR, *], rfl⟩, hO⟩
theorem rlong_spec {k : Ctx} {w : World} {ts : List ByteArray} {tp : Option Addr} {tc : Nat} (ht : Sli (Ro k) (.slice tp ts.length tc) (ts.map eS)) (hl : ts.length ≤ 1000000) (hO : Own k w []) :
    Tri Tryz.prog 62 #[.slice tp ts.length tc] k w fun v m => v = .bool (longB ts) ∧ m = [] := by
  refine enter (args := [.slice tp ts.length tc]) Tryz.func62 rfl rfl ?_
  have hgs := sli_gs ht
  refine K0 (K1 ?_)
  refine l_y rfl rfl (y_assign rfl) ?_
  refine K2 (K3 (K0 (K0 (K1 ?_))))
  refine l_y rfl rfl (y_assign rfl) ?_
  refine K2 (K3 (K4 ?_))
  refine c_rounds (X := Nat) (fun i => [(0, .slice tp ts.length tc), (2, .bool false), (3, .int .i64 (i : Int))]) (fun i w => Own k w [] ∧ (i ≤ ts.length ∧ longB (ts.take i) = false)) (fun i => ts.length - i) (0) ⟨rfl, rfl, rfl, trivial⟩ ⟨hO.only [], ⟨Nat.zero_le _, rfl⟩⟩ ?_
  rintro i w m hm ⟨hO, hi⟩
  refine K0 (K0 (K1 ?_))
  refine l_y rfl rfl (y_move rfl) ?_
  refine l_y rfl rfl (y_move rfl) ?_
  refine l_y rfl rfl (y_lenL rfl) ?_
  refine Z0 (fun h2_3 => ?_) (fun h2_3 => ?_)
  · refine K2 (K3 (L8 (K5 (K3 (K0 (K4 (K0 (K1 ?_))))))))
    refine l_y rfl rfl (y_move rfl) ?_
    refine l_y rfl rfl (y_move rfl) ?_
    refine l_y rfl rfl (y_idx rfl rfl) ?_
    refine l_y rfl rfl (y_r1 (x0 := 0) (enc := eS) (xs := ts) hO rfl) ?_
    refine l_y rfl rfl (y_lenS rfl) ?_
    refine Z0 (fun h4_5 => ?_) (fun h4_5 => ?_)
    · refine K2 (K3 (L8 (K0 (K1 ?_))))
      refine l_y rfl rfl (y_assign rfl) ?_
      refine K2 (K3 (K6 (L0 (K9 (K9 (L0 (K9 ?_)))))))
      have hlt : longB ts = true := List.any_eq_true.2 ⟨at_ ts i, at_mem (by omega), decide_eq_true (by have h45 : (1048576 : Int) < ((at_ ts i).size : Int) := h4_5; omega)⟩
      exact fin1 rfl rfl ⟨_, ⟨by rw [hlt], rfl⟩, hO⟩
    · refine K2 (K3 (L9 (K5 (K8 (K3 (K1 ?_))))))
      refine l_y rfl rfl (y_move rfl) ?_
      refine l_y rfl rfl (D4) ?_
      refine l_y rfl rfl (y_assign rfl) ?_
      refine K2 ?_
      exact q_next (i + 1) ⟨rfl, rfl, rfl, trivial⟩ ⟨hO.only [], ⟨by omega, by rw [take_succ_at (by omega)]; simp only [longB, List.any_append, List.any_cons, List.any_nil, Bool.or_false, Bool.or_eq_false_iff]; exact ⟨hi.2, decide_eq_false (by have h45 : ¬ (1048576 : Int) < ((at_ ts i).size : Int) := h4_5; omega)⟩⟩⟩ (by omega)
  · refine K2 (K3 (L9 (K7 (L1 (L1 (L2 (K3 (K0 (K1 ?_)))))))))
    refine l_y rfl rfl (y_assign rfl) ?_
    refine K2 (K3 (K6 ?_))
    have hlf : longB ts = false := by rw [show ts = ts.take i by rw [List.take_of_length_le (by omega)]]; exact hi.2
    exact fin1 rfl rfl ⟨_, ⟨by rw [hlf], rfl⟩, hO⟩
def blankR (o : Ref01_one) : Ref01_one := { o with Inner := -1, Host := -1, Up := -1 }
set_option maxHeartbeats 1000000 in
theorem radd_spec {k : Ctx} {w : World} {r : Nat} {R : List Ref01_one} {p : Option Addr} {c : Nat} {o : Ref01_one} (hc : R.length ≤ 32768) (hO : Own k w [rB r p R.length c, rS p c R]) :
    Tri Tryz.prog 63 #[.pointer (some ⟨r, 0, none⟩), .agg (Ref01_one.cells o).toArray] k w fun v m =>
      (32768 ≤ R.length ∧ v = .tuple #[.int .i64 0, .int .i64 9] ∧ m = [rB r p R.length c, rS p c R]) ∨ (R.length < 32768 ∧ v = .tuple #[.int .i64 (R.length : Int), .int .i64 0] ∧ ∃ p' c', m = [rB r p' (R ++ [blankR o]).length c', rS p' c' (R ++ [blankR o])]) := by
  refine enter (args := [.pointer (some ⟨r, 0, none⟩), .agg (Ref01_one.cells o).toArray]) Tryz.func63 rfl rfl ?_
  have hg := (sls_fct (p := p) hO).2
  refine K0 (K1 ?_)
  refine s_box (vs := [.int .i64 o.Kind, .int .i64 o.Space, .string o.Name, .slice o.AttrsP o.Attrs.length o.AttrsC, .string o.Data, .string o.System, .int .i64 o.Inner, .int .i64 o.Host, .int .i64 o.Up, .slice o.KidsP o.Kids.length o.KidsC]) hO rfl rfl rfl (by rfl) fun b3 w hO => ?_
  refine l_y rfl rfl (y_assign rfl) ?_
  refine l_y rfl rfl (y_assign rfl) ?_
  refine K2 (K3 (K0 (K0 (K1 ?_))))
  refine l_y rfl rfl (y_move rfl) ?_
  refine l_y rfl rfl (y_nilCheck rfl rfl) ?_
  refine l_y rfl rfl (y_fldb (o' := 0) rfl) ?_
  refine l_y rfl rfl (D5 hO rfl) ?_
  refine l_y rfl rfl (y_lenL rfl) ?_
  refine Z0 (fun h1_5 => ?_) (fun h1_5 => ?_)
  · refine K2 (K3 (L8 (K0 (K1 ?_))))
    refine l_y rfl rfl (y_assign rfl) ?_
    refine l_y rfl rfl (y_assign rfl) ?_
    refine K2 (K3 (K6 (K9 ?_)))
    exact fin2 rfl rfl rfl ⟨_, .inl ⟨by omega, rfl, rfl⟩, hO.only [.b r, .p p]⟩
  · refine K2 (K3 (L9 (K5 (K3 (K0 (K1 ?_))))))
    refine l_y rfl rfl (y_fldb (o' := 6) rfl) ?_
    refine Y1 hO rfl rfl (fun w hO => ?_)
    simp only [List.set_cons_zero, List.set_cons_succ] at hO
    refine K2 (K3 (K0 (K1 ?_)))
    refine l_y rfl rfl (y_fldb (o' := 7) rfl) ?_
    refine Y1 hO rfl rfl (fun w hO => ?_)
    simp only [List.set_cons_zero, List.set_cons_succ] at hO
    refine K2 (K3 (K0 (K1 ?_)))
    refine l_y rfl rfl (y_fldb (o' := 8) rfl) ?_
    refine Y1 hO rfl rfl (fun w hO => ?_)
    simp only [List.set_cons_zero, List.set_cons_succ] at hO
    refine K2 (K3 (K0 ?_))
    refine da_region (by intro c a d v w h; cases d <;> exact h) ?_
    have hO := hO.drew
    refine da_phase _ [7] (SO.ks [.b r, .b b3] hO) ?_
    refine dx_u 0 (by kernel_rfl) rfl rfl rfl (fun w => y_move rfl) ?_
    refine dx_u 1 (by kernel_rfl) rfl rfl rfl (fun w => y_move rfl) ?_
    refine dx_u 2 (by kernel_rfl) rfl rfl rfl (fun w => y_nilCheck rfl rfl) ?_
    refine dx_u 3 (by kernel_rfl) rfl rfl rfl (fun w => y_fldb (o' := 0) rfl) ?_
    refine dx_y 4 (by kernel_rfl) rfl rfl rfl (fun w ⟨m, hw⟩ => D5 hw rfl) ?_
    refine dx_y 5 (by kernel_rfl) rfl rfl rfl (fun w ⟨m, hw⟩ => D8 (cs := [.int .i64 o.Kind, .int .i64 o.Space, .string o.Name, .slice o.AttrsP o.Attrs.length o.AttrsC, .string o.Data, .string o.System, .int .i64 (-1), .int .i64 (-1), .int .i64 (-1), .slice o.KidsP o.Kids.length o.KidsC]) hw rfl) ?_
    refine dx_only 6 (by kernel_rfl) rfl rfl ?_
    refine s_lit (parts := [(0, .tmp 20)]) (enc := Ref01_one.cells) [⟨o.Kind, o.Space, o.Name, o.AttrsP, o.Attrs, o.AttrsC, o.Data, o.System, (-1), (-1), (-1), o.KidsP, o.Kids, o.KidsC⟩] [.agg [.int .i64 o.Kind, .int .i64 o.Space, .string o.Name, .slice o.AttrsP o.Attrs.length o.AttrsC, .string o.Data, .string o.System, .int .i64 (-1), .int .i64 (-1), .int .i64 (-1), .slice o.KidsP o.Kids.length o.KidsC].toArray] hO rfl (fun b21 w hO => ?_)
    refine o_done ?_
    refine ⟨SO.ks [.b r, .b b3] hO, ?_⟩
    refine dx_close 7 (by kernel_rfl) rfl rfl ?_
    refine s_app hO rfl rfl (src_own hO) (fun p22 c22 w hO gs22 => ?_)
    refine o_done ?_
    refine da_phase _ [10] (SO.ks [] hO) ?_
    refine dx_u 8 (by kernel_rfl) rfl rfl rfl (fun w => y_nilCheck rfl rfl) ?_
    refine dx_u 9 (by kernel_rfl) rfl rfl rfl (fun w => y_fldb (o' := 0) rfl) ?_
    refine dx_close 10 (by kernel_rfl) rfl rfl ?_
    refine Y1 hO rfl rfl (fun w hO => ?_)
    simp only [List.set_cons_zero, List.set_cons_succ] at hO
    refine o_done ?_
    refine da_end (by kernel_rfl) ?_
    refine K3 (K0 (K1 ?_))
    refine l_y rfl rfl (y_move rfl) ?_
    refine l_y rfl rfl (y_nilCheck rfl rfl) ?_
    refine l_y rfl rfl (y_fldb (o' := 0) rfl) ?_
    refine l_y rfl rfl (D5 hO rfl) ?_
    refine l_y rfl rfl (y_lenL rfl) ?_
    refine l_y rfl rfl (D4 (h1 := by simp <;> omega) (h2 := by simp <;> omega)) ?_
    refine l_y rfl rfl (y_assign rfl) ?_
    refine l_y rfl rfl (y_assign rfl) ?_
    refine K2 (K3 (K6 ?_))
    refine fin2 rfl rfl rfl ⟨_, .inr ⟨by omega, ?_, p22, c22, rfl⟩, hO.only [.b r, .p p22]⟩
    simp
end Go.Proofs.YtoohapbaelmkcaaGreat
