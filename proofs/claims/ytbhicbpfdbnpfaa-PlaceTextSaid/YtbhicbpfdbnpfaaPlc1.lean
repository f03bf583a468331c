/- The walks of the places for nodes; no condition. -/
import Derived.Test.YtbhicbpfdbnpfaaStk5
set_option linter.unusedVariables false
set_option linter.unusedSimpArgs false
set_option maxRecDepth 100000
namespace Go.Proofs.Ytbhicbpfdbnpfaa
open Go Go.Hb Go.RowKit
theorem NodeD0_spec {k : Ctx} {w : World} {a : Nat} {A : List Node_one} {id : Int} (hn : 0 < A.length) (ha : AttrsOk A) (hO : Own k w [arenaL a A]) :
    Tri Try.prog 26 #[.pointer (some ⟨a, 0, none⟩), .int .i64 id] k w fun v m => ∃ n, NV A id n ∧ v = .tuple #[.agg (Api_node.cells n).toArray, .int .i64 (errN A id)] ∧ m = [arenaL a A] := NodeD_spec hn ha hO
/-- where the last of a kind stands -/
def lastV (p : Int → Bool) (l : List Int) : Int := match popR p l.reverse with
  | some r => (r.length : Int)
  | none => -1
theorem lastV_some {p : Int → Bool} {l r : List Int} (h : popR p l.reverse = some r) : lastV p l = (r.length : Int) := by rw [lastV, h]
theorem lastV_none {p : Int → Bool} {l : List Int} (h : popR p l.reverse = none) : lastV p l = -1 := by rw [lastV, h]
theorem popR_at {p : Int → Bool} {l r : List Int} (h : popR p l.reverse = some r) : ∃ i, i < l.length ∧ r = (l.take i).reverse ∧ p (at_ l i) = true := by
  have key : ∀ n, n ≤ l.length → popR p (l.take n).reverse = some r → ∃ i, i < l.length ∧ r = (l.take i).reverse ∧ p (at_ l i) = true := by
    intro n
    induction n with
    | zero => intro _ h; cases h
    | succ n ih =>
      intro hn h
      rw [take_succ_at (by omega), popR_snoc] at h
      split at h
      · next h1 => cases h; exact ⟨n, by omega, rfl, h1⟩
      · exact ih (by omega) h
  exact key l.length (Nat.le_refl _) (by rw [List.take_length]; exact h)
theorem lastV_cases (p : Int → Bool) (l : List Int) : lastV p l = -1 ∨ ∃ i : Nat, lastV p l = i ∧ i < l.length ∧ p (at_ l i) = true := by
  cases h : popR p l.reverse with
  | none => exact .inl (lastV_none h)
  | some r =>
    obtain ⟨i, h1, rfl, h2⟩ := popR_at h
    exact .inr ⟨i, by rw [lastV_some h]; simp; omega, h1, h2⟩
def tableL : List ByteArray := [⟨#[116, 97, 98, 108, 101]⟩]
def templL : List ByteArray := [⟨#[116, 101, 109, 112, 108, 97, 116, 101]⟩]
def tpartL : List ByteArray := [⟨#[116, 97, 98, 108, 101]⟩, ⟨#[116, 98, 111, 100, 121]⟩, ⟨#[116, 102, 111, 111, 116]⟩, ⟨#[116, 104, 101, 97, 100]⟩, ⟨#[116, 114]⟩]
def plB (kd sp : Int) (nm : ByteArray) (ts : List ByteArray) : Bool := decide (kd = 1) && namB sp nm ts
theorem NV.pl {A : List Node_one} {x : Int} {n : Api_node} {ts : List ByteArray} (h : NV A x n) (hb : hasB A x = true) : plB n.Kind n.Space n.Name ts = (elB A x && namA A ts x) := by
  rw [plB, elB, hb, h.kind hb, h.space hb, h.name hb]; rfl
section
variable {k : Ctx} {w : World} {a s c : Nat} {p : Option Addr} {A : List Node_one} {l : List Int}
theorem nowhere_spec (hO : Own k w []) : Tri Try.prog 129 #[] k w fun v m => v = .agg (Api_spot.cells ⟨-1, -1⟩).toArray ∧ m = [] := by
  refine enter (args := []) Try.func129 rfl rfl ?_
  refine K0 (K1 ?_)
  refine s_alloc (vs := [.int .i64 0, .int .i64 0]) hO rfl rfl rfl fun b0 w hO => ?_
  refine K2 (K3 (K0 (K1 ?_)))
  refine s_build (parts := [(0, .const (.int .i64 (-1))), (1, .const (.int .i64 (-1)))]) (cs := [.int .i64 (-1), .int .i64 (-1)]) rfl rfl (fun a ha => partsOf_sound ha _ _ rfl) (by kernel_rfl) ?_
  refine Y3 hO rfl rfl (fun w hO => ?_)
  refine K2 (K3 (K6 ?_))
  exact finC hO rfl rfl ⟨_, ⟨rfl, rfl⟩, hO.none⟩
theorem end_spec {x : Int} (hO : Own k w []) : Tri Try.prog 126 #[.int .i64 x] k w fun v m => v = .agg (Api_spot.cells ⟨x, -1⟩).toArray ∧ m = [] := by
  refine enter (args := [.int .i64 x]) Try.func126 rfl rfl ?_
  refine K0 (K1 ?_)
  refine s_alloc (vs := [.int .i64 0, .int .i64 0]) hO rfl rfl rfl fun b2 w hO => ?_
  refine K2 (K3 (K0 (K1 ?_)))
  refine l_y rfl rfl (y_move rfl) ?_
  refine s_build (parts := [(0, .tmp 3), (1, .const (.int .i64 (-1)))]) (cs := [.int .i64 x, .int .i64 (-1)]) rfl rfl (fun a ha => partsOf_sound ha _ _ rfl) (by kernel_rfl) ?_
  refine Y3 hO rfl rfl (fun w hO => ?_)
  refine K2 (K3 (K6 ?_))
  exact finC hO rfl rfl ⟨_, ⟨rfl, rfl⟩, hO.none⟩
theorem pis_spec {n : Api_node} {ts : List ByteArray} {tp : Option Addr} {tn tc : Nat} (hs : Sli (Ro k) (.slice tp tn tc) (ts.map eS)) (hl : ts.length ≤ 1000000) (hO : Own k w []) :
    Tri Try.prog 127 #[.agg (Api_node.cells n).toArray, .slice tp tn tc] k w fun v m => v = .bool (plB n.Kind n.Space n.Name ts) ∧ m = [] := by
  obtain rfl : tn = ts.length := by have := hs.fits.1; simpa using this
  refine enter (args := [.agg (Api_node.cells n).toArray, .slice tp ts.length tc]) Try.func127 rfl rfl ?_
  have hgs := sli_gs hs
  refine K0 (K1 ?_)
  refine s_box (vs := [.int .i64 n.Kind, .int .i64 n.Space, .string n.Name, .slice n.AttrsP n.Attrs.length n.AttrsC, .string n.Data, .string n.System, .int .i64 n.Parent, .int .i64 n.First, .int .i64 n.Last, .int .i64 n.Prev, .int .i64 n.Next, .int .i64 n.Inner]) hO rfl rfl rfl (by rfl) fun b2 w hO => ?_
  refine l_y rfl rfl (y_assign rfl) ?_
  refine K2 (K3 (K0 (K0 (K1 ?_))))
  refine l_y rfl rfl (y_move rfl) ?_
  refine l_y rfl rfl (y_lenL rfl) ?_
  refine l_y rfl rfl (y_move rfl) ?_
  refine K2 (K3 (K4 ?_))
  refine c_rounds (X := Nat) (fun i => [(2, .pointer (some ⟨b2, 0, none⟩)), (4, .bool false), (7, .slice tp ts.length tc), (8, .int .i64 ((ts.length : Nat) : Int)), (9, .int .i64 (i : Int))]) (fun i w => Own k w [blk b2 41 (Api_node.cells n)] ∧ (i ≤ ts.length ∧ plB n.Kind n.Space n.Name (ts.take i) = false)) (fun i => ts.length - i) (0) ⟨rfl, rfl, rfl, rfl, rfl, trivial⟩ ⟨hO.only [.b b2], ⟨Nat.zero_le _, by simp [plB, namB, inB]⟩⟩ ?_
  rintro i w m hm ⟨hO, hi⟩
  refine K0 (K1 ?_)
  refine Z0 (fun h2_0 => ?_) (fun h2_0 => ?_)
  · refine K2 (K3 (K0 (L8 (K5 (K3 (K0 (K4 (K0 (K1 ?_)))))))))
    refine l_y rfl rfl (y_idx rfl rfl) ?_
    refine l_y rfl rfl (y_r1 (x0 := 0) (enc := eS) (xs := ts) hO rfl) ?_
    refine l_y rfl rfl (y_assign rfl) ?_
    refine K2 (K3 (K0 (K1 ?_)))
    refine l_y rfl rfl (y_fldb (o' := 0) rfl) ?_
    refine l_y rfl rfl (D5 hO rfl) ?_
    refine Z0 (fun h4_2 => ?_) (fun h4_2 => ?_)
    · refine l_y rfl rfl (y_move rfl) ?_
      refine l_y rfl rfl (y_fldb (o' := 1) rfl) ?_
      refine l_y rfl rfl (D5 hO rfl) ?_
      refine Z0 (fun h4_6 => ?_) (fun h4_6 => ?_)
      · refine l_y rfl rfl (y_pick_t rfl rfl) ?_
        refine l_y rfl rfl (y_move rfl) ?_
        refine l_y rfl rfl (y_fldb (o' := 2) rfl) ?_
        refine l_y rfl rfl (D5 hO rfl) ?_
        refine l_y rfl rfl (y_move rfl) ?_
        refine Z2 (fun h4_12 => ?_) (fun h4_12 => ?_)
        · refine l_y rfl rfl (y_pick_t rfl rfl) ?_
          refine K2 (K3 (L8 (K0 (K1 ?_))))
          refine l_y rfl rfl (y_assign rfl) ?_
          refine K2 (K3 (K6 (L0 (K9 (K9 (L0 (K9 ?_)))))))
          have hlt : plB n.Kind n.Space n.Name ts = true := by
            rw [plB, namB, decide_eq_true h4_2, decide_eq_true h4_6, Bool.true_and, Bool.true_and]
            exact List.any_eq_true.2 ⟨at_ ts i, at_mem (by omega), decide_eq_true h4_12⟩
          exact fin1 rfl rfl ⟨_, ⟨by rw [hlt], rfl⟩, hO.none⟩
        · refine l_y rfl rfl (y_pick_t rfl rfl) ?_
          refine K2 (K3 (L9 (K5 (K8 (K3 (K1 ?_))))))
          refine l_y rfl rfl (D4) ?_
          refine l_y rfl rfl (y_move rfl) ?_
          refine K2 ?_
          have h9 := hi.2
          have h8 : plB n.Kind n.Space n.Name (ts.take (i + 1)) = false := by
            rw [take_succ_at (by omega)]
            simp only [plB, namB, inB, List.any_append, List.any_cons, List.any_nil, Bool.or_false] at h9 ⊢
            first | (simp [h4_2]; done) | (simp [h4_6]; done) | (rw [decide_eq_true h4_2, decide_eq_true h4_6, Bool.true_and, Bool.true_and] at h9 ⊢; rw [h9, Bool.false_or]; exact decide_eq_false h4_12)
          exact q_next (i + 1) ⟨rfl, rfl, rfl, rfl, rfl, trivial⟩ ⟨hO.only [.b b2], ⟨by omega, h8⟩⟩ (by omega)
      · refine l_y rfl rfl (y_pick_t rfl rfl) ?_
        refine l_y rfl rfl (y_move rfl) ?_
        repeat refine M2 ?_
        refine l_y rfl rfl (y_pick_f rfl rfl) ?_
        refine K2 (K3 (L9 (K5 (K8 (K3 (K1 ?_))))))
        refine l_y rfl rfl (D4) ?_
        refine l_y rfl rfl (y_move rfl) ?_
        refine K2 ?_
        have h9 := hi.2
        have h8 : plB n.Kind n.Space n.Name (ts.take (i + 1)) = false := by
          rw [take_succ_at (by omega)]
          simp only [plB, namB, inB, List.any_append, List.any_cons, List.any_nil, Bool.or_false] at h9 ⊢
          first | (simp [h4_2]; done) | (simp [h4_6]; done) | (rw [decide_eq_true h4_2, decide_eq_true h4_6, Bool.true_and, Bool.true_and] at h9 ⊢; rw [h9, Bool.false_or]; exact decide_eq_false h4_12)
        exact q_next (i + 1) ⟨rfl, rfl, rfl, rfl, rfl, trivial⟩ ⟨hO.only [.b b2], ⟨by omega, h8⟩⟩ (by omega)
    · refine l_y rfl rfl (y_move rfl) ?_
      repeat refine M2 ?_
      refine l_y rfl rfl (y_pick_f rfl rfl) ?_
      refine l_y rfl rfl (y_move rfl) ?_
      repeat refine M2 ?_
      refine l_y rfl rfl (y_pick_f rfl rfl) ?_
      refine K2 (K3 (L9 (K5 (K8 (K3 (K1 ?_))))))
      refine l_y rfl rfl (D4) ?_
      refine l_y rfl rfl (y_move rfl) ?_
      refine K2 ?_
      have h9 := hi.2
      have h8 : plB n.Kind n.Space n.Name (ts.take (i + 1)) = false := by
        rw [take_succ_at (by omega)]
        simp only [plB, namB, inB, List.any_append, List.any_cons, List.any_nil, Bool.or_false] at h9 ⊢
        first | (simp [h4_2]; done) | (simp [h4_6]; done) | (rw [decide_eq_true h4_2, decide_eq_true h4_6, Bool.true_and, Bool.true_and] at h9 ⊢; rw [h9, Bool.false_or]; exact decide_eq_false h4_12)
      exact q_next (i + 1) ⟨rfl, rfl, rfl, rfl, rfl, trivial⟩ ⟨hO.only [.b b2], ⟨by omega, h8⟩⟩ (by omega)
  · refine K2 (K3 (K0 (L9 (K7 (L1 (L1 (L2 (K3 (K0 (K1 ?_))))))))))
    refine l_y rfl rfl (y_assign rfl) ?_
    refine K2 (K3 (K6 ?_))
    have hlf : plB n.Kind n.Space n.Name ts = false := by rw [show ts = ts.take i by rw [List.take_of_length_le (by omega)]]; exact hi.2
    exact fin1 rfl rfl ⟨_, ⟨by rw [hlf], rfl⟩, hO.none⟩
theorem atI_in {i : Int} (h0 : 0 ≤ i) (h1 : i < l.length) : atI l i = at_ l i.toNat := by rw [atI, if_neg (by omega)]
set_option maxHeartbeats 1000000 in
theorem plast_spec {name : ByteArray} (hn : 0 < A.length) (ha : AttrsOk A) (hel : AllEl A l) (hg : Gs p l.length) (hl : l.length ≤ 1000000) (hO : Own k w [arenaL a A, sB s a p l.length c, sI p c l]) :
    Tri Try.prog 171 #[.pointer (some ⟨a, 0, none⟩), .pointer (some ⟨s, 0, none⟩), .string name] k w fun v m => v = .int .i64 (lastV (namA A [name]) l) ∧ m = [arenaL a A, sB s a p l.length c, sI p c l] := by
  refine enter (args := [.pointer (some ⟨a, 0, none⟩), .pointer (some ⟨s, 0, none⟩), .string name]) Try.func171 rfl rfl ?_
  refine K0 (K1 ?_)
  refine l_y rfl rfl (y_assign rfl) ?_
  refine K2 (K3 (K0 (K1 ?_)))
  refine l_y rfl rfl (y_move rfl) ?_
  refine CK [.b s] hO rfl (fun k' hx hr hO' => sLen_spec (hO := hO')) ?_
  rintro _ _ w ⟨rfl, rfl⟩ hO
  simp only [List.cons_append, List.nil_append] at hO
  refine l_y rfl rfl (D4) ?_
  refine l_y rfl rfl (y_assign rfl) ?_
  refine K2 (K3 (K0 (K4 ?_)))
  refine c_rounds (X := Int) (fun i => [(0, .pointer (some ⟨a, 0, none⟩)), (1, .pointer (some ⟨s, 0, none⟩)), (2, .string name), (6, .int .i64 0), (7, .int .i64 i)]) (fun i w => Own k w [arenaL a A, sB s a p l.length c, sI p c l] ∧ (-1 ≤ i ∧ i < l.length) ∧ (popR (namA A [name]) l.reverse = popR (namA A [name]) (l.take (i + 1).toNat).reverse)) (fun i => (i + 1).toNat) ((l.length : Int) - 1) ⟨rfl, rfl, rfl, rfl, rfl, trivial⟩ ⟨hO.only [.o a, .b s, .p p], ⟨by omega, by omega⟩, by rw [List.take_of_length_le (by omega)]⟩ ?_
  rintro i w m hm ⟨hO, hi, hs⟩
  refine K0 (K0 (K1 ?_))
  refine l_y rfl rfl (y_move rfl) ?_
  refine Z0 (fun h2_1 => ?_) (fun h2_1 => ?_)
  · refine K2 (K3 (L8 (K5 (K3 (K0 (K4 (K0 ?_)))))))
    have hxe : elB A (at_ l i.toNat) = true := hel _ (at_mem (by omega))
    have hs2 := hs
    rw [show (i + 1).toNat = i.toNat + 1 by omega, take_succ_at (by omega), popR_snoc] at hs2
    refine K1 ?_
    refine l_y rfl rfl (y_move rfl) ?_
    refine l_y rfl rfl (y_move rfl) ?_
    refine l_y rfl rfl (y_move rfl) ?_
    refine CK [.b s, .p p] hO rfl (fun k' hx hr hO' => sAt_spec hg (hO := hO')) ?_
    rintro _ _ w ⟨rfl, rfl⟩ hO
    simp only [List.cons_append, List.nil_append] at hO
    refine CK [.o a] hO rfl (fun k' hx hr hO' => NodeD_spec hn ha (hO := hO')) ?_
    rintro _ _ w ⟨x4_4, hx4_4, rfl, rfl⟩ hO
    simp only [List.cons_append, List.nil_append] at hO
    refine l_y rfl rfl (y_move rfl) ?_
    refine l_y rfl rfl (y_extract rfl rfl) ?_
    refine l_y rfl rfl (y_extract rfl rfl) ?_
    refine s_alloc (vs := [.int .i64 0, .int .i64 0, .string ⟨#[]⟩, .slice none 0 0, .string ⟨#[]⟩, .string ⟨#[]⟩, .int .i64 0, .int .i64 0, .int .i64 0, .int .i64 0, .int .i64 0, .int .i64 0]) hO rfl rfl rfl fun b8 w hO => ?_
    refine Y3 hO rfl rfl (fun w hO => ?_)
    refine l_y rfl rfl (y_assign rfl) ?_
    refine K2 (K3 (K0 ?_))
    have hx2 : NV A (at_ l i.toNat) x4_4 := by rw [← atI_in (by omega) hi.2]; exact hx4_4
    refine K1 ?_
    refine l_y rfl rfl (D8 (cs := [.int .i64 x4_4.Kind, .int .i64 x4_4.Space, .string x4_4.Name, .slice x4_4.AttrsP x4_4.Attrs.length x4_4.AttrsC, .string x4_4.Data, .string x4_4.System, .int .i64 x4_4.Parent, .int .i64 x4_4.First, .int .i64 x4_4.Last, .int .i64 x4_4.Prev, .int .i64 x4_4.Next, .int .i64 x4_4.Inner]) hO rfl) ?_
    refine l_y rfl rfl (y_move rfl) ?_
    refine s_lit (parts := [(0, .tmp 26)]) (enc := eS) [name] [.string name] hO rfl (fun b27 w hO => ?_)
    refine CK [] hO rfl (fun k' hx hr hO' => pis_spec (n := x4_4) (ts := [name]) (sls_roK (p := (some ⟨b27, 0, none⟩)) hr (sls_fct hO)) (by simp) (hO := hO')) ?_
    rintro _ _ w ⟨rfl, rfl⟩ hO
    rw [hx2.pl (elB_has hxe), hxe, Bool.true_and]
    simp only [List.nil_append] at hO
    refine K2 (K3 ?_)
    refine c_split rfl (fun hc28 => ?_) (fun hc28 => ?_)
    · refine K7 (L7 (L1 (L1 (L2 (K3 (K0 (K1 ?_)))))))
      refine l_y rfl rfl (y_move rfl) ?_
      refine l_y rfl rfl (y_assign rfl) ?_
      refine K2 (K3 (K6 ?_))
      first
      | (rw [lastV_some (r := (l.take i.toNat).reverse) (by rw [hs2, if_pos hc28]), show ((l.take i.toNat).reverse.length : Int) = i by simp; omega]
         exact fin1 rfl rfl ⟨_, ⟨rfl, rfl⟩, hO.only [.o a, .b s, .p p]⟩)
      | (rw [lastV_none (by rw [hs, show (i + 1).toNat = 0 by omega]; rfl), show (-1 : Int) = i by omega]
         exact fin1 rfl rfl ⟨_, ⟨rfl, rfl⟩, hO.only [.o a, .b s, .p p]⟩)
    · refine K5 (K8 (K3 (K1 ?_)))
      refine l_y rfl rfl (y_move rfl) ?_
      refine l_y rfl rfl (D4) ?_
      refine l_y rfl rfl (y_assign rfl) ?_
      refine K2 ?_
      exact q_next (i - 1) ⟨rfl, rfl, rfl, rfl, rfl, trivial⟩ ⟨hO.only [.o a, .b s, .p p], ⟨by omega, by omega⟩, by rw [hs2, if_neg (by rw [hc28]; simp), show (i - 1 + 1).toNat = i.toNat by omega]⟩ (by omega)
  · refine K2 (K3 (L9 (K7 (L1 (L1 (L2 (K3 (K0 (K1 ?_)))))))))
    refine l_y rfl rfl (y_move rfl) ?_
    refine l_y rfl rfl (y_assign rfl) ?_
    refine K2 (K3 (K6 ?_))
    first
    | (rw [lastV_some (r := (l.take i.toNat).reverse) (by rw [hs2, if_pos hc28]), show ((l.take i.toNat).reverse.length : Int) = i by simp; omega]
       exact fin1 rfl rfl ⟨_, ⟨rfl, rfl⟩, hO.only [.o a, .b s, .p p]⟩)
    | (rw [lastV_none (by rw [hs, show (i + 1).toNat = 0 by omega]; rfl), show (-1 : Int) = i by omega]
       exact fin1 rfl rfl ⟨_, ⟨rfl, rfl⟩, hO.only [.o a, .b s, .p p]⟩)
def nd (A : List Node_one) (x : Int) : Api_node := (at_ A x.toNat).Node
def fosterV (A : List Node_one) (l : List Int) : Api_spot :=
  if lastV (namA A tableL) l < lastV (namA A templL) l then ⟨(nd A (at_ l (lastV (namA A templL) l).toNat)).Inner, -1⟩
  else if lastV (namA A tableL) l < 0 then (if 0 < l.length then ⟨at_ l 0, -1⟩ else ⟨-1, -1⟩)
  else if (nd A (at_ l (lastV (namA A tableL) l).toNat)).Parent ≠ -1 then ⟨(nd A (at_ l (lastV (namA A tableL) l).toNat)).Parent, at_ l (lastV (namA A tableL) l).toNat⟩
  else if 0 < lastV (namA A tableL) l then ⟨at_ l (lastV (namA A tableL) l - 1).toNat, -1⟩ else ⟨-1, -1⟩
theorem NV.inner {x : Int} {n : Api_node} (h : NV A x n) (hb : hasB A x = true) : n.Inner = (nd A x).Inner := by
  rcases h with ⟨h, _⟩ | ⟨_, q, d, rfl⟩
  · rw [hb] at h; cases h
  · rfl
theorem NV.parent {x : Int} {n : Api_node} (h : NV A x n) (hb : hasB A x = true) : n.Parent = (nd A x).Parent := by
  rcases h with ⟨h, _⟩ | ⟨_, q, d, rfl⟩
  · rw [hb] at h; cases h
  · rfl
set_option maxHeartbeats 2000000 in
theorem foster_spec (hn : 0 < A.length) (ha : AttrsOk A) (hel : AllEl A l) (hg : Gs p l.length) (hl : l.length ≤ 1000000) (hO : Own k w [arenaL a A, sB s a p l.length c, sI p c l]) :
    Tri Try.prog 128 #[.pointer (some ⟨a, 0, none⟩), .pointer (some ⟨s, 0, none⟩)] k w fun v m => v = .agg (Api_spot.cells (fosterV A l)).toArray ∧ m = [arenaL a A, sB s a p l.length c, sI p c l] := by
  refine enter (args := [.pointer (some ⟨a, 0, none⟩), .pointer (some ⟨s, 0, none⟩)]) Try.func128 rfl rfl ?_
  obtain ⟨tb, htb⟩ : ∃ tb, tb = lastV (namA A tableL) l := ⟨_, rfl⟩
  obtain ⟨tp, htp⟩ : ∃ tp, tp = lastV (namA A templL) l := ⟨_, rfl⟩
  have hb1 : -1 ≤ tb ∧ tb < l.length := by rcases lastV_cases (namA A tableL) l with h | ⟨i, h, h2, _⟩ <;> omega
  have hp1 : -1 ≤ tp ∧ tp < l.length := by rcases lastV_cases (namA A templL) l with h | ⟨i, h, h2, _⟩ <;> omega
  have hf : fosterV A l = if tb < tp then ⟨(nd A (at_ l tp.toNat)).Inner, -1⟩ else if tb < 0 then (if 0 < l.length then ⟨at_ l 0, -1⟩ else ⟨-1, -1⟩) else if (nd A (at_ l tb.toNat)).Parent ≠ -1 then ⟨(nd A (at_ l tb.toNat)).Parent, at_ l tb.toNat⟩ else if 0 < tb then ⟨at_ l (tb - 1).toNat, -1⟩ else ⟨-1, -1⟩ := by rw [htb, htp]; rfl
  have hhas : ∀ i : Int, 0 ≤ i → i < l.length → hasB A (at_ l i.toNat) = true := fun i h0 h1 => elB_has (hel _ (at_mem (by omega)))
  refine K0 (K1 ?_)
  refine s_alloc (vs := [.int .i64 0, .int .i64 0]) hO rfl rfl rfl fun b4 w hO => ?_
  refine K2 (K3 ?_)
  refine c_scopeJ (X := Nat) (fun b5 => [(4, .pointer (some ⟨b4, 0, none⟩)), (5, .pointer (some ⟨b5, 0, none⟩))]) (fun b5 w => Own k w [arenaL a A, sB s a p l.length c, sI p c l, blk b4 89 [.int .i64 0, .int .i64 0], blk b5 89 (Api_spot.cells (fosterV A l))] ∧ True) 0 rfl ?_ ?_
  · refine K0 (K1 ?_)
    refine CK [] hO rfl (fun k' hx hr hO' => nowhere_spec (hO := hO')) ?_
    rintro _ _ w ⟨rfl, rfl⟩ hO
    simp only [List.cons_append, List.nil_append] at hO
    refine s_alloc (vs := [.int .i64 0, .int .i64 0]) hO rfl rfl rfl fun b5 w hO => ?_
    refine Y3 hO rfl rfl (fun w hO => ?_)
    refine K2 (K3 (K0 (K1 ?_)))
    refine s_alloc (vs := [.int .i64 0, .int .i64 0, .string ⟨#[]⟩, .slice none 0 0, .string ⟨#[]⟩, .string ⟨#[]⟩, .int .i64 0, .int .i64 0, .int .i64 0, .int .i64 0, .int .i64 0, .int .i64 0]) hO rfl rfl rfl fun b6 w hO => ?_
    refine K2 (K3 (K0 (K1 ?_)))
    refine l_y rfl rfl (y_move rfl) ?_
    refine l_y rfl rfl (y_move rfl) ?_
    refine CK [.o a, .b s, .p p] hO rfl (fun k' hx hr hO' => plast_spec hn ha hel hg hl (hO := hO')) ?_
    rintro _ _ w ⟨rfl, rfl⟩ hO
    simp only [List.cons_append, List.nil_append] at hO
    rw [show lastV (namA A [⟨#[116, 97, 98, 108, 101]⟩]) l = tb from htb.symm]
    refine l_y rfl rfl (y_assign rfl) ?_
    refine K2 (K3 (K0 (K1 ?_)))
    refine l_y rfl rfl (y_move rfl) ?_
    refine l_y rfl rfl (y_move rfl) ?_
    refine CK [.o a, .b s, .p p] hO rfl (fun k' hx hr hO' => plast_spec hn ha hel hg hl (hO := hO')) ?_
    rintro _ _ w ⟨rfl, rfl⟩ hO
    simp only [List.cons_append, List.nil_append] at hO
    rw [show lastV (namA A [⟨#[116, 101, 109, 112, 108, 97, 116, 101]⟩]) l = tp from htp.symm]
    refine l_y rfl rfl (y_assign rfl) ?_
    refine K2 (K3 (K0 (K0 (K1 ?_))))
    refine l_y rfl rfl (y_move rfl) ?_
    refine l_y rfl rfl (y_move rfl) ?_
    refine Z0 (fun h5_2 => ?_) (fun h5_2 => ?_)
    · refine K2 (K3 (L8 (K0 (K1 ?_))))
      refine l_y rfl rfl (y_move rfl) ?_
      refine l_y rfl rfl (y_move rfl) ?_
      refine l_y rfl rfl (y_move rfl) ?_
      refine CK [.b s, .p p] hO rfl (fun k' hx hr hO' => sAt_spec hg (hO := hO')) ?_
      rintro _ _ w ⟨rfl, rfl⟩ hO
      simp only [List.cons_append, List.nil_append] at hO
      refine CK [.o a] hO rfl (fun k' hx hr hO' => NodeD_spec hn ha (hO := hO')) ?_
      rintro _ _ w ⟨x6_4, hx6_4, rfl, rfl⟩ hO
      simp only [List.cons_append, List.nil_append] at hO
      refine l_y rfl rfl (y_move rfl) ?_
      refine l_y rfl rfl (y_extract rfl rfl) ?_
      refine l_y rfl rfl (y_extract rfl rfl) ?_
      refine Y3 hO rfl rfl (fun w hO => ?_)
      refine K2 (K3 (K0 ?_))
      have e1 := NV.inner (by rw [← atI_in (by omega) (by omega)]; exact hx6_4) (hhas tp (by omega) (by omega))
      refine K1 ?_
      refine l_y rfl rfl (y_fldb (o' := 11) rfl) ?_
      refine l_y rfl rfl (D5 hO rfl) ?_
      refine CK [] hO rfl (fun k' hx hr hO' => end_spec (hO := hO')) ?_
      rintro _ _ w ⟨rfl, rfl⟩ hO
      simp only [List.cons_append, List.nil_append] at hO
      refine Y3 hO rfl rfl (fun w hO => ?_)
      refine K2 (K3 (c_goto (GT1 ?_)))
      have hO : Own k w [blk b5 89 (Api_spot.cells (fosterV A l)), arenaL a A, sB s a p l.length c, sI p c l, blk b4 89 [.int .i64 0, .int .i64 0]] := by
        first
        | exact hO.only [.b b5, .o a, .b s, .p p, .b b4]
        | skip
          obtain ⟨u, v, h8, hO⟩ : ∃ u v, fosterV A l = ⟨u, v⟩ ∧ Own k w [blk b5 89 [.int .i64 u, .int .i64 v], arenaL a A, sB s a p l.length c, sI p c l, blk b4 89 [.int .i64 0, .int .i64 0]] := by
            refine ⟨_, _, ?_, hO.only [.b b5, .o a, .b s, .p p, .b b4]⟩
            rw [hf]
            first
            | rw [if_pos h5_2, e1]
            | rw [if_neg h5_2, if_pos h8_1, if_pos (show 0 < l.length by omega), ez]
            | rw [if_neg h5_2, if_pos h8_1, if_neg (show ¬ 0 < l.length by omega)]
            | rw [if_neg h5_2, if_neg h8_1, if_pos h13, e2, ez]
            | rw [if_neg h5_2, if_neg h8_1, if_neg h14, if_pos h14_1, ez]
            | rw [if_neg h5_2, if_neg h8_1, if_neg h14, if_neg h14_1]
          rw [h8]; exact hO
      exact q_goto (b5) ⟨rfl, rfl, trivial⟩ ⟨hO.only [.o a, .b s, .p p, .b b4, .b b5], trivial⟩
    · refine K2 (K3 (L9 (K5 (K3 (K0 (K0 (K1 ?_)))))))
      refine l_y rfl rfl (y_move rfl) ?_
      refine Z0 (fun h8_1 => ?_) (fun h8_1 => ?_)
      · refine K2 (K3 (L8 (K0 (K0 (K1 ?_)))))
        refine l_y rfl rfl (y_move rfl) ?_
        refine CK [.b s] hO rfl (fun k' hx hr hO' => sLen_spec (hO := hO')) ?_
        rintro _ _ w ⟨rfl, rfl⟩ hO
        simp only [List.cons_append, List.nil_append] at hO
        refine Z0 (fun h9_2 => ?_) (fun h9_2 => ?_)
        · refine K2 (K3 (L8 ?_))
          have ez : atI l 0 = at_ l 0 := atI_in (by omega) (by omega)
          refine K1 ?_
          refine l_y rfl rfl (y_move rfl) ?_
          refine CK [.b s, .p p] hO rfl (fun k' hx hr hO' => sAt_spec hg (hO := hO')) ?_
          rintro _ _ w ⟨rfl, rfl⟩ hO
          simp only [List.cons_append, List.nil_append] at hO
          refine CK [] hO rfl (fun k' hx hr hO' => end_spec (hO := hO')) ?_
          rintro _ _ w ⟨rfl, rfl⟩ hO
          simp only [List.cons_append, List.nil_append] at hO
          refine Y3 hO rfl rfl (fun w hO => ?_)
          refine K2 (K3 (c_goto (GT1 ?_)))
          have hO : Own k w [blk b5 89 (Api_spot.cells (fosterV A l)), arenaL a A, sB s a p l.length c, sI p c l, blk b4 89 [.int .i64 0, .int .i64 0]] := by
            first
            | exact hO.only [.b b5, .o a, .b s, .p p, .b b4]
            | skip
              obtain ⟨u, v, h8, hO⟩ : ∃ u v, fosterV A l = ⟨u, v⟩ ∧ Own k w [blk b5 89 [.int .i64 u, .int .i64 v], arenaL a A, sB s a p l.length c, sI p c l, blk b4 89 [.int .i64 0, .int .i64 0]] := by
                refine ⟨_, _, ?_, hO.only [.b b5, .o a, .b s, .p p, .b b4]⟩
                rw [hf]
                first
                | rw [if_pos h5_2, e1]
                | rw [if_neg h5_2, if_pos h8_1, if_pos (show 0 < l.length by omega), ez]
                | rw [if_neg h5_2, if_pos h8_1, if_neg (show ¬ 0 < l.length by omega)]
                | rw [if_neg h5_2, if_neg h8_1, if_pos h13, e2, ez]
                | rw [if_neg h5_2, if_neg h8_1, if_neg h14, if_pos h14_1, ez]
                | rw [if_neg h5_2, if_neg h8_1, if_neg h14, if_neg h14_1]
              rw [h8]; exact hO
          exact q_goto (b5) ⟨rfl, rfl, trivial⟩ ⟨hO.only [.o a, .b s, .p p, .b b4, .b b5], trivial⟩
        · refine K2 (K3 (L9 (K5 (K3 (c_goto (GT1 ?_))))))
          have hO : Own k w [blk b5 89 (Api_spot.cells (fosterV A l)), arenaL a A, sB s a p l.length c, sI p c l, blk b4 89 [.int .i64 0, .int .i64 0]] := by
            first
            | exact hO.only [.b b5, .o a, .b s, .p p, .b b4]
            | skip
              obtain ⟨u, v, h8, hO⟩ : ∃ u v, fosterV A l = ⟨u, v⟩ ∧ Own k w [blk b5 89 [.int .i64 u, .int .i64 v], arenaL a A, sB s a p l.length c, sI p c l, blk b4 89 [.int .i64 0, .int .i64 0]] := by
                refine ⟨_, _, ?_, hO.only [.b b5, .o a, .b s, .p p, .b b4]⟩
                rw [hf]
                first
                | rw [if_pos h5_2, e1]
                | rw [if_neg h5_2, if_pos h8_1, if_pos (show 0 < l.length by omega), ez]
                | rw [if_neg h5_2, if_pos h8_1, if_neg (show ¬ 0 < l.length by omega)]
                | rw [if_neg h5_2, if_neg h8_1, if_pos h13, e2, ez]
                | rw [if_neg h5_2, if_neg h8_1, if_neg h14, if_pos h14_1, ez]
                | rw [if_neg h5_2, if_neg h8_1, if_neg h14, if_neg h14_1]
              rw [h8]; exact hO
          exact q_goto (b5) ⟨rfl, rfl, trivial⟩ ⟨hO.only [.o a, .b s, .p p, .b b4, .b b5], trivial⟩
      · refine K2 (K3 (L9 (K5 (K3 (K0 (K0 (K1 ?_)))))))
        refine l_y rfl rfl (y_move rfl) ?_
        refine l_y rfl rfl (y_move rfl) ?_
        refine l_y rfl rfl (y_move rfl) ?_
        refine CK [.b s, .p p] hO rfl (fun k' hx hr hO' => sAt_spec hg (hO := hO')) ?_
        rintro _ _ w ⟨rfl, rfl⟩ hO
        simp only [List.cons_append, List.nil_append] at hO
        refine CK [.o a] hO rfl (fun k' hx hr hO' => NodeD_spec hn ha (hO := hO')) ?_
        rintro _ _ w ⟨x11_4, hx11_4, rfl, rfl⟩ hO
        simp only [List.cons_append, List.nil_append] at hO
        refine l_y rfl rfl (y_move rfl) ?_
        refine l_y rfl rfl (y_extract rfl rfl) ?_
        refine l_y rfl rfl (y_extract rfl rfl) ?_
        refine Y3 hO rfl rfl (fun w hO => ?_)
        refine K2 (K3 (K0 ?_))
        have e2 := NV.parent (by rw [← atI_in (by omega) (by omega)]; exact hx11_4) (hhas tb (by omega) (by omega))
        refine K1 ?_
        refine l_y rfl rfl (y_fldb (o' := 6) rfl) ?_
        refine l_y rfl rfl (D5 hO rfl) ?_
        refine Z1 (fun h12_2 => ?_) (fun h12_2 => ?_)
        · refine K2 (K3 (L8 (K0 ?_)))
          have h13 : (nd A (at_ l tb.toNat)).Parent ≠ -1 := by rw [← e2]; exact h12_2
          have ez : atI l tb = at_ l tb.toNat := atI_in (by omega) (by omega)
          refine da_region (by intro c a d v w h; cases d <;> exact h) ?_
          have hO := hO.drew
          refine da_phase _ [5] (SO.ks [.b b6] hO) ?_
          refine dx_u 0 (by kernel_rfl) rfl rfl rfl (fun w => y_fldb (o' := 6) rfl) ?_
          refine dx_y 1 (by kernel_rfl) rfl rfl rfl (fun w ⟨m, hw⟩ => D5 hw rfl) ?_
          refine dx_u 2 (by kernel_rfl) rfl rfl rfl (fun w => y_move rfl) ?_
          refine dx_u 3 (by kernel_rfl) rfl rfl rfl (fun w => y_move rfl) ?_
          refine dx_only 4 (by kernel_rfl) rfl rfl ?_
          refine CK [.b s, .p p] hO rfl (fun k' hx hr hO' => sAt_spec hg (hO := hO')) ?_
          rintro _ _ w ⟨rfl, rfl⟩ hO
          simp only [List.cons_append, List.nil_append] at hO
          refine o_done ?_
          refine ⟨SO.ks [.b b6] hO, ?_⟩
          refine dx_close 5 (by kernel_rfl) rfl rfl ?_
          refine s_build (parts := [(0, .tmp 50), (1, .tmp 53)]) (cs := [.int .i64 x11_4.Parent, .int .i64 (atI l (tb))]) rfl rfl (fun a ha => partsOf_sound ha _ _ rfl) (by kernel_rfl) ?_
          refine o_done ?_
          refine da_only 6 (by kernel_rfl) rfl ?_
          refine Y3 hO rfl rfl (fun w hO => ?_)
          refine o_done ?_
          refine da_end (by kernel_rfl) ?_
          refine K3 (c_goto (GT1 ?_))
          have hO : Own k w [blk b5 89 (Api_spot.cells (fosterV A l)), arenaL a A, sB s a p l.length c, sI p c l, blk b4 89 [.int .i64 0, .int .i64 0]] := by
            first
            | exact hO.only [.b b5, .o a, .b s, .p p, .b b4]
            | skip
              obtain ⟨u, v, h8, hO⟩ : ∃ u v, fosterV A l = ⟨u, v⟩ ∧ Own k w [blk b5 89 [.int .i64 u, .int .i64 v], arenaL a A, sB s a p l.length c, sI p c l, blk b4 89 [.int .i64 0, .int .i64 0]] := by
                refine ⟨_, _, ?_, hO.only [.b b5, .o a, .b s, .p p, .b b4]⟩
                rw [hf]
                first
                | rw [if_pos h5_2, e1]
                | rw [if_neg h5_2, if_pos h8_1, if_pos (show 0 < l.length by omega), ez]
                | rw [if_neg h5_2, if_pos h8_1, if_neg (show ¬ 0 < l.length by omega)]
                | rw [if_neg h5_2, if_neg h8_1, if_pos h13, e2, ez]
                | rw [if_neg h5_2, if_neg h8_1, if_neg h14, if_pos h14_1, ez]
                | rw [if_neg h5_2, if_neg h8_1, if_neg h14, if_neg h14_1]
              rw [h8]; exact hO
          exact q_goto (b5) ⟨rfl, rfl, trivial⟩ ⟨hO.only [.o a, .b s, .p p, .b b4, .b b5], trivial⟩
        · refine K2 (K3 (L9 (K5 (K3 (K0 (K0 ?_))))))
          have h14 : ¬ (nd A (at_ l tb.toNat)).Parent ≠ -1 := by rw [← e2]; exact fun h => h h12_2
          refine K1 ?_
          refine l_y rfl rfl (y_move rfl) ?_
          refine Z0 (fun h14_1 => ?_) (fun h14_1 => ?_)
          · refine K2 (K3 (L8 ?_))
            have ez : atI l (tb - 1) = at_ l (tb - 1).toNat := atI_in (by omega) (by omega)
            refine K1 ?_
            refine l_y rfl rfl (y_move rfl) ?_
            refine l_y rfl rfl (y_move rfl) ?_
            refine l_y rfl rfl (D4) ?_
            refine CK [.b s, .p p] hO rfl (fun k' hx hr hO' => sAt_spec hg (hO := hO')) ?_
            rintro _ _ w ⟨rfl, rfl⟩ hO
            simp only [List.cons_append, List.nil_append] at hO
            refine CK [] hO rfl (fun k' hx hr hO' => end_spec (hO := hO')) ?_
            rintro _ _ w ⟨rfl, rfl⟩ hO
            simp only [List.cons_append, List.nil_append] at hO
            refine Y3 hO rfl rfl (fun w hO => ?_)
            refine K2 (K3 (K0 (L5 (K3 (K0 ?_)))))
            have hO : Own k w [blk b5 89 (Api_spot.cells (fosterV A l)), arenaL a A, sB s a p l.length c, sI p c l, blk b4 89 [.int .i64 0, .int .i64 0]] := by
              first
              | exact hO.only [.b b5, .o a, .b s, .p p, .b b4]
              | skip
                obtain ⟨u, v, h8, hO⟩ : ∃ u v, fosterV A l = ⟨u, v⟩ ∧ Own k w [blk b5 89 [.int .i64 u, .int .i64 v], arenaL a A, sB s a p l.length c, sI p c l, blk b4 89 [.int .i64 0, .int .i64 0]] := by
                  refine ⟨_, _, ?_, hO.only [.b b5, .o a, .b s, .p p, .b b4]⟩
                  rw [hf]
                  first
                  | rw [if_pos h5_2, e1]
                  | rw [if_neg h5_2, if_pos h8_1, if_pos (show 0 < l.length by omega), ez]
                  | rw [if_neg h5_2, if_pos h8_1, if_neg (show ¬ 0 < l.length by omega)]
                  | rw [if_neg h5_2, if_neg h8_1, if_pos h13, e2, ez]
                  | rw [if_neg h5_2, if_neg h8_1, if_neg h14, if_pos h14_1, ez]
                  | rw [if_neg h5_2, if_neg h8_1, if_neg h14, if_neg h14_1]
                rw [h8]; exact hO
            refine K1 ?_
            refine l_y rfl rfl (D8 (cs := [.int .i64 (fosterV A l).Parent, .int .i64 (fosterV A l).Before]) hO rfl) ?_
            refine Y3 hO rfl rfl (fun w hO => ?_)
            refine K2 (K3 (K6 (J4 ?_)))
            exact finC hO rfl rfl ⟨_, ⟨rfl, rfl⟩, hO.only [.o a, .b s, .p p]⟩
          · refine K2 (K3 (L9 (K5 (K3 (K0 (L5 (K3 (K0 ?_))))))))
            have hO : Own k w [blk b5 89 (Api_spot.cells (fosterV A l)), arenaL a A, sB s a p l.length c, sI p c l, blk b4 89 [.int .i64 0, .int .i64 0]] := by
              first
              | exact hO.only [.b b5, .o a, .b s, .p p, .b b4]
              | skip
                obtain ⟨u, v, h8, hO⟩ : ∃ u v, fosterV A l = ⟨u, v⟩ ∧ Own k w [blk b5 89 [.int .i64 u, .int .i64 v], arenaL a A, sB s a p l.length c, sI p c l, blk b4 89 [.int .i64 0, .int .i64 0]] := by
                  refine ⟨_, _, ?_, hO.only [.b b5, .o a, .b s, .p p, .b b4]⟩
                  rw [hf]
                  first
                  | rw [if_pos h5_2, e1]
                  | rw [if_neg h5_2, if_pos h8_1, if_pos (show 0 < l.length by omega), ez]
                  | rw [if_neg h5_2, if_pos h8_1, if_neg (show ¬ 0 < l.length by omega)]
                  | rw [if_neg h5_2, if_neg h8_1, if_pos h13, e2, ez]
                  | rw [if_neg h5_2, if_neg h8_1, if_neg h14, if_pos h14_1, ez]
                  | rw [if_neg h5_2, if_neg h8_1, if_neg h14, if_neg h14_1]
                rw [h8]; exact hO
            refine K1 ?_
            refine l_y rfl rfl (D8 (cs := [.int .i64 (fosterV A l).Parent, .int .i64 (fosterV A l).Before]) hO rfl) ?_
            refine Y3 hO rfl rfl (fun w hO => ?_)
            refine K2 (K3 (K6 (J4 ?_)))
            exact finC hO rfl rfl ⟨_, ⟨rfl, rfl⟩, hO.only [.o a, .b s, .p p]⟩
  · rintro b5 w ⟨hO, _⟩
    refine K0 (K5 (K3 (K0 ?_)))
    have hO : Own k w [blk b5 89 (Api_spot.cells (fosterV A l)), arenaL a A, sB s a p l.length c, sI p c l, blk b4 89 [.int .i64 0, .int .i64 0]] := by
      first
      | exact hO.only [.b b5, .o a, .b s, .p p, .b b4]
      | skip
        obtain ⟨u, v, h8, hO⟩ : ∃ u v, fosterV A l = ⟨u, v⟩ ∧ Own k w [blk b5 89 [.int .i64 u, .int .i64 v], arenaL a A, sB s a p l.length c, sI p c l, blk b4 89 [.int .i64 0, .int .i64 0]] := by
          refine ⟨_, _, ?_, hO.only [.b b5, .o a, .b s, .p p, .b b4]⟩
          rw [hf]
          first
          | rw [if_pos h5_2, e1]
          | rw [if_neg h5_2, if_pos h8_1, if_pos (show 0 < l.length by omega), ez]
          | rw [if_neg h5_2, if_pos h8_1, if_neg (show ¬ 0 < l.length by omega)]
          | rw [if_neg h5_2, if_neg h8_1, if_pos h13, e2, ez]
          | rw [if_neg h5_2, if_neg h8_1, if_neg h14, if_pos h14_1, ez]
          | rw [if_neg h5_2, if_neg h8_1, if_neg h14, if_neg h14_1]
        rw [h8]; exact hO
    refine K1 ?_
    refine l_y rfl rfl (D8 (cs := [.int .i64 (fosterV A l).Parent, .int .i64 (fosterV A l).Before]) hO rfl) ?_
    refine Y3 hO rfl rfl (fun w hO => ?_)
    refine K2 (K3 (K6 (L4 ?_)))
    exact finC hO rfl rfl ⟨_, ⟨rfl, rfl⟩, hO.only [.o a, .b s, .p p]⟩
end
end Go.Proofs.Ytbhicbpfdbnpfaa
