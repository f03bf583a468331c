/- What the row of this folder leans on, part 2: the walks of the functions and the laws of what they compute; no condition. -/
import Derived.Test.YtoohapbaelmkcaaGreatRns1
set_option linter.unusedVariables false
set_option linter.unusedSimpArgs false
section
set_option maxRecDepth 100000
namespace Go.Proofs.YtoohapbaelmkcaaGreat
open Go Go.Hb Go.RowKit
/-- where the last of a kind stands -/
def lastV (p : Int → Bool) (l : List Int) : Int := match popR p l.reverse with
 | some r => (r.length : Int)
 | none => -1
theorem lastV_some {p : Int → Bool} {l r : List Int} (h : popR p l.reverse = some r) : lastV p l = (r.length : Int) := by rw [lastV, h]
theorem lastV_none {p : Int → Bool} {l : List Int} (h : popR p l.reverse = none) : lastV p l = -1 := by rw [lastV, h]
theorem popR_at {p : Int → Bool} {l r : List Int} (h : popR p l.reverse = some r) : ∃ i, i < l.length ∧ r = (l.take i).reverse ∧ p (at_ l i) = true := by
  have key : ∀ n, n ≤ l.length → popR p (l.take n).reverse = some r → ∃ i, i < l.length ∧ r = (l.take i).reverse ∧ p (at_ l i) = true := by
    intro n
    induction n with
    | zero => intro _ h; cases h
    | succ n ih =>
      intro hn h
      rw [take_succ_at (by omega), popR_snoc] at h
      split at h
      · next h1 => cases h; exact ⟨n, by omega, rfl, h1⟩
      · exact ih (by omega) h
  exact key l.length (Nat.le_refl _) (by rw [List.take_length]; exact h)
theorem lastV_cases (p : Int → Bool) (l : List Int) : lastV p l = -1 ∨ ∃ i : Nat, lastV p l = i ∧ i < l.length ∧ p (at_ l i) = true := by
  cases h : popR p l.reverse with
  | none => exact .inl (lastV_none h)
  | some r =>
    obtain ⟨i, h1, rfl, h2⟩ := popR_at h
    exact .inr ⟨i, by rw [lastV_some h]; simp; omega, h1, h2⟩
def tableL : List ByteArray := [⟨#[116, 97, 98, 108, 101]⟩]
def templL : List ByteArray := [⟨#[116, 101, 109, 112, 108, 97, 116, 101]⟩]
def tpartL : List ByteArray := [⟨#[116, 97, 98, 108, 101]⟩, ⟨#[116, 98, 111, 100, 121]⟩, ⟨#[116, 102, 111, 111, 116]⟩, ⟨#[116, 104, 101, 97, 100]⟩, ⟨#[116, 114]⟩]
def plB (kd sp : Int) (nm : ByteArray) (ts : List ByteArray) : Bool := decide (kd = 1) && namB sp nm ts
theorem NV.pl {A : List Node_one} {x : Int} {n : Api_node} {ts : List ByteArray} (h : NV A x n) (hb : hasB A x = true) : plB n.Kind n.Space n.Name ts = (elB A x && namA A ts x) := by
 rw [plB, elB, hb, h.kind hb, h.space hb, h.name hb]; rfl
section
variable {k : Ctx} {w : World} {a s c : Nat} {p : Option Addr} {A : List Node_one} {l : List Int}
theorem nowhere_spec (hO : Own k w []) : Tri Tryz.prog 128 #[] k w fun v m => v = .agg (Api_spot.cells ⟨-1, -1⟩).toArray ∧ m = [] := by
 refine enter (args := []) Tryz.func128 rfl rfl (K0 (K1 (s_alloc (vs := [.int .i64 0, .int .i64 0]) hO rfl rfl rfl fun b0 w hO => ?_)))
 refine K2 (K3 (K0 (K1 (s_build (parts := [(0, .const (.int .i64 (-1))), (1, .const (.int .i64 (-1)))]) (cs := [.int .i64 (-1), .int .i64 (-1)]) rfl rfl (fun a ha => partsOf_sound ha _ _ rfl) (by kernel_rfl) (Y3 hO rfl rfl (fun w hO => ?_))))))
 refine K2 (K3 (K6 ?_))
 exact finC hO rfl rfl ⟨_, ⟨rfl, rfl⟩, hO.none⟩
theorem end_spec {x : Int} (hO : Own k w []) : Tri Tryz.prog 125 #[.int .i64 x] k w fun v m => v = .agg (Api_spot.cells ⟨x, -1⟩).toArray ∧ m = [] := by
 refine enter (args := [.int .i64 x]) Tryz.func125 rfl rfl (K0 (K1 (s_alloc (vs := [.int .i64 0, .int .i64 0]) hO rfl rfl rfl fun b2 w hO => ?_)))
 refine K2 (K3 (K0 (K1 (V1 rfl rfl rfl (s_build (parts := [(0, .tmp 3), (1, .const (.int .i64 (-1)))]) (cs := [.int .i64 x, .int .i64 (-1)]) rfl rfl (fun a ha => partsOf_sound ha _ _ rfl) (by kernel_rfl) (Y3 hO rfl rfl (fun w hO => ?_)))))))
 refine K2 (K3 (K6 ?_))
 exact finC hO rfl rfl ⟨_, ⟨rfl, rfl⟩, hO.none⟩
theorem pis_spec {n : Api_node} {ts : List ByteArray} {tp : Option Addr} {tn tc : Nat} (hs : Sli (Ro k) (.slice tp tn tc) (ts.map eS)) (hl : ts.length ≤ 1000000) (hO : Own k w []) :
  Tri Tryz.prog 126 #[.agg (Api_node.cells n).toArray, .slice tp tn tc] k w fun v m => v = .bool (plB n.Kind n.Space n.Name ts) ∧ m = [] := by
 obtain rfl : tn = ts.length := by have := hs.fits.1; simpa using this
 refine enter (args := [.agg (Api_node.cells n).toArray, .slice tp ts.length tc]) Tryz.func126 rfl rfl ?_
 have hgs := sli_gs hs
 refine K0 (K1 (s_box (vs := [.int .i64 n.Kind, .int .i64 n.Space, .string n.Name, .slice n.AttrsP n.Attrs.length n.AttrsC, .string n.Data, .string n.System, .int .i64 n.Parent, .int .i64 n.First, .int .i64 n.Last, .int .i64 n.Prev, .int .i64 n.Next, .int .i64 n.Inner]) hO rfl rfl rfl (by rfl) fun b2 w hO => ?_))
 refine V2 rfl rfl rfl (K2 (K3 (K0 (K0 (K1 (V1 rfl rfl rfl (l_y rfl rfl (y_lenL rfl) (V1 rfl rfl rfl (K2 (K3 (K4 (c_rounds (X := Nat) (fun i => [(2, .pointer (some ⟨b2, 0, none⟩)), (4, .bool false), (7, .slice tp ts.length tc), (8, .int .i64 ((ts.length : Nat) : Int)), (9, .int .i64 (i : Int))]) (fun i w => Own k w [blk b2 48 (Api_node.cells n)] ∧ (i ≤ ts.length ∧ plB n.Kind n.Space n.Name (ts.take i) = false)) (fun i => ts.length - i) (0) ⟨rfl, rfl, rfl, rfl, rfl, trivial⟩ ⟨hO.only [.b b2], ⟨Nat.zero_le _, by simp [plB, namB, inB]⟩⟩ ?_))))))))))))
 rintro i w m hm ⟨hO, hi⟩
 refine K0 (K1 ?_)
 refine Z0 (fun h2_0 => ?_) (fun h2_0 => ?_)
 ·refine K2 (K3 (K0 (L8 (K5 (K3 (K0 (K4 (K0 (K1 (l_y rfl rfl (y_idx rfl rfl) ?_))))))))))
  refine l_y rfl rfl (y_r1 (x0 := 0) (enc := eS) (xs := ts) hO rfl) ?_
  refine V2 rfl rfl rfl (K2 (K3 (K0 (K1 (l_y rfl rfl (y_fldb (o' := 0) rfl) (l_y rfl rfl (D5 hO rfl) ?_))))))
  refine Z0 (fun h4_2 => ?_) (fun h4_2 => ?_)
  ·refine V1 rfl rfl rfl (l_y rfl rfl (y_fldb (o' := 1) rfl) (l_y rfl rfl (D5 hO rfl) ?_))
   refine Z0 (fun h4_6 => ?_) (fun h4_6 => ?_)
   ·refine l_y rfl rfl (y_pick_t rfl rfl) (V1 rfl rfl rfl (l_y rfl rfl (y_fldb (o' := 2) rfl) (l_y rfl rfl (D5 hO rfl) ?_)))
    refine V1 rfl rfl rfl ?_
    refine Z2 (fun h4_12 => ?_) (fun h4_12 => ?_)
    ·refine l_y rfl rfl (y_pick_t rfl rfl) (K2 (K3 (L8 (K0 (K1 (V2 rfl rfl rfl (K2 (K3 (K6 (L0 (K9 (K9 (L0 (K9 ?_))))))))))))))
     have hlt : plB n.Kind n.Space n.Name ts = true := by
      rw [plB, namB, decide_eq_true h4_2, decide_eq_true h4_6, Bool.true_and, Bool.true_and]
      exact List.any_eq_true.2 ⟨at_ ts i, at_mem (by omega), decide_eq_true h4_12⟩
     exact fin1 rfl rfl ⟨_, ⟨by rw [hlt], rfl⟩, hO.none⟩
    ·refine l_y rfl rfl (y_pick_t rfl rfl) (K2 (K3 (L9 (K5 (K8 (K3 (K1 (l_y rfl rfl (D4) ?_))))))))
     refine V1 rfl rfl rfl (K2 ?_)
     have h9 := hi.2
     have h8 : plB n.Kind n.Space n.Name (ts.take (i + 1)) = false := by
      rw [take_succ_at (by omega)]
      simp only [plB, namB, inB, List.any_append, List.any_cons, List.any_nil, Bool.or_false] at h9 ⊢
      first | (simp [h4_2]; done) | (simp [h4_6]; done) | (rw [decide_eq_true h4_2, decide_eq_true h4_6, Bool.true_and, Bool.true_and] at h9 ⊢; rw [h9, Bool.false_or]; exact decide_eq_false h4_12)
     exact q_next (i + 1) ⟨rfl, rfl, rfl, rfl, rfl, trivial⟩ ⟨hO.only [.b b2], ⟨by omega, h8⟩⟩ (by omega)
   ·refine l_y rfl rfl (y_pick_t rfl rfl) (V1 rfl rfl rfl ?_)
    repeat refine M2 ?_
    refine l_y rfl rfl (y_pick_f rfl rfl) (K2 (K3 (L9 (K5 (K8 (K3 (K1 (l_y rfl rfl (D4) ?_))))))))
    refine V1 rfl rfl rfl (K2 ?_)
    have h9 := hi.2
    have h8 : plB n.Kind n.Space n.Name (ts.take (i + 1)) = false := by
     rw [take_succ_at (by omega)]
     simp only [plB, namB, inB, List.any_append, List.any_cons, List.any_nil, Bool.or_false] at h9 ⊢
     first | (simp [h4_2]; done) | (simp [h4_6]; done) | (rw [decide_eq_true h4_2, decide_eq_true h4_6, Bool.true_and, Bool.true_and] at h9 ⊢; rw [h9, Bool.false_or]; exact decide_eq_false h4_12)
    exact q_next (i + 1) ⟨rfl, rfl, rfl, rfl, rfl, trivial⟩ ⟨hO.only [.b b2], ⟨by omega, h8⟩⟩ (by omega)
  ·refine V1 rfl rfl rfl ?_
   repeat refine M2 ?_
   refine l_y rfl rfl (y_pick_f rfl rfl) (V1 rfl rfl rfl ?_)
   repeat refine M2 ?_
   refine l_y rfl rfl (y_pick_f rfl rfl) (K2 (K3 (L9 (K5 (K8 (K3 (K1 (l_y rfl rfl (D4) ?_))))))))
   refine V1 rfl rfl rfl (K2 ?_)
   have h9 := hi.2
   have h8 : plB n.Kind n.Space n.Name (ts.take (i + 1)) = false := by
    rw [take_succ_at (by omega)]
    simp only [plB, namB, inB, List.any_append, List.any_cons, List.any_nil, Bool.or_false] at h9 ⊢
    first | (simp [h4_2]; done) | (simp [h4_6]; done) | (rw [decide_eq_true h4_2, decide_eq_true h4_6, Bool.true_and, Bool.true_and] at h9 ⊢; rw [h9, Bool.false_or]; exact decide_eq_false h4_12)
   exact q_next (i + 1) ⟨rfl, rfl, rfl, rfl, rfl, trivial⟩ ⟨hO.only [.b b2], ⟨by omega, h8⟩⟩ (by omega)
 ·refine K2 (K3 (K0 (L9 (K7 (L1 (L1 (L2 (K3 (K0 (K1 (V2 rfl rfl rfl (K2 (K3 (K6 ?_))))))))))))))
  have hlf : plB n.Kind n.Space n.Name ts = false := by rw [show ts = ts.take i by rw [List.take_of_length_le (by omega)]]; exact hi.2
  exact fin1 rfl rfl ⟨_, ⟨by rw [hlf], rfl⟩, hO.none⟩
theorem atI_in {i : Int} (h0 : 0 ≤ i) (h1 : i < l.length) : atI l i = at_ l i.toNat := by rw [atI, if_neg (by omega)]
set_option maxHeartbeats 1000000 in
theorem plast_spec {name : ByteArray} (hn : 0 < A.length) (ha : AttrsOk A) (hel : AllEl A l) (hg : Gs p l.length) (hl : l.length ≤ 1000000) (hO : Own k w [arenaL a A, sB s a p l.length c, sI p c l]) :
    Tri Tryz.prog 140 #[.pointer (some ⟨a, 0, none⟩), .pointer (some ⟨s, 0, none⟩), .string name] k w fun v m => v = .int .i64 (lastV (namA A [name]) l) ∧ m = [arenaL a A, sB s a p l.length c, sI p c l] := by
  refine enter (args := [.pointer (some ⟨a, 0, none⟩), .pointer (some ⟨s, 0, none⟩), .string name]) Tryz.func140 rfl rfl (K0 (K1 (V2 rfl rfl rfl (K2 (K3 (K0 (K1 (V1 rfl rfl rfl (CK [.b s] hO rfl (fun k' hx hr hO' => sLen_spec (hO := hO')) ?_)))))))))
  rintro _ _ w ⟨rfl, rfl⟩ hO
  simp only [List.cons_append, List.nil_append] at hO
  refine l_y rfl rfl (D4) ?_
  refine V2 rfl rfl rfl (K2 (K3 (K0 (K4 (c_rounds (X := Int) (fun i => [(0, .pointer (some ⟨a, 0, none⟩)), (1, .pointer (some ⟨s, 0, none⟩)), (2, .string name), (6, .int .i64 0), (7, .int .i64 i)]) (fun i w => Own k w [arenaL a A, sB s a p l.length c, sI p c l] ∧ (-1 ≤ i ∧ i < l.length) ∧ (popR (namA A [name]) l.reverse = popR (namA A [name]) (l.take (i + 1).toNat).reverse)) (fun i => (i + 1).toNat) ((l.length : Int) - 1) ⟨rfl, rfl, rfl, rfl, rfl, trivial⟩ ⟨hO.only [.o a, .b s, .p p], ⟨by omega, by omega⟩, by rw [List.take_of_length_le (by omega)]⟩ ?_)))))
  rintro i w m hm ⟨hO, hi, hs⟩
  refine K0 (K0 (K1 (V1 rfl rfl rfl ?_)))
  refine Z0 (fun h2_1 => ?_) (fun h2_1 => ?_)
  · refine K2 (K3 (L8 (K5 (K3 (K0 (K4 (K0 ?_)))))))
    have hxe : elB A (at_ l i.toNat) = true := hel _ (at_mem (by omega))
    have hs2 := hs
    rw [show (i + 1).toNat = i.toNat + 1 by omega, take_succ_at (by omega), popR_snoc] at hs2
    refine K1 (V1 rfl rfl rfl (V1 rfl rfl rfl (V1 rfl rfl rfl (CK [.b s, .p p] hO rfl (fun k' hx hr hO' => sAt_spec hg (hO := hO')) ?_))))
    rintro _ _ w ⟨rfl, rfl⟩ hO
    simp only [List.cons_append, List.nil_append] at hO
    refine CK [.o a] hO rfl (fun k' hx hr hO' => NodeD_spec hn ha (hO := hO')) ?_
    rintro _ _ w ⟨x4_4, hx4_4, rfl, rfl⟩ hO
    simp only [List.cons_append, List.nil_append] at hO
    refine V1 rfl rfl rfl (l_y rfl rfl (y_extract rfl rfl) (l_y rfl rfl (y_extract rfl rfl) (s_alloc (vs := [.int .i64 0, .int .i64 0, .string ⟨#[]⟩, .slice none 0 0, .string ⟨#[]⟩, .string ⟨#[]⟩, .int .i64 0, .int .i64 0, .int .i64 0, .int .i64 0, .int .i64 0, .int .i64 0]) hO rfl rfl rfl fun b8 w hO => ?_)))
    refine Y3 hO rfl rfl (fun w hO => ?_)
    refine V2 rfl rfl rfl (K2 (K3 (K0 ?_)))
    have hx2 : NV A (at_ l i.toNat) x4_4 := by rw [← atI_in (by omega) hi.2]; exact hx4_4
    refine K1 (l_y rfl rfl (D8 (cs := [.int .i64 x4_4.Kind, .int .i64 x4_4.Space, .string x4_4.Name, .slice x4_4.AttrsP x4_4.Attrs.length x4_4.AttrsC, .string x4_4.Data, .string x4_4.System, .int .i64 x4_4.Parent, .int .i64 x4_4.First, .int .i64 x4_4.Last, .int .i64 x4_4.Prev, .int .i64 x4_4.Next, .int .i64 x4_4.Inner]) hO rfl) ?_)
    refine V1 rfl rfl rfl (s_lit (parts := [(0, .tmp 26)]) (enc := eS) [name] [.string name] hO rfl (fun b27 w hO => ?_))
    refine CK [] hO rfl (fun k' hx hr hO' => pis_spec (n := x4_4) (ts := [name]) (sls_roK (p := (some ⟨b27, 0, none⟩)) hr (sls_fct hO)) (by simp) (hO := hO')) ?_
    rintro _ _ w ⟨rfl, rfl⟩ hO
    rw [hx2.pl (elB_has hxe), hxe, Bool.true_and]
    simp only [List.nil_append] at hO
    refine K2 (K3 ?_)
    refine c_split rfl (fun hc28 => ?_) (fun hc28 => ?_)
    · refine K7 (L7 (L1 (L1 (L2 (K3 (K0 (K1 (V1 rfl rfl rfl (V2 rfl rfl rfl (K2 (K3 (K6 ?_))))))))))))
      first
      | (rw [lastV_some (r := (l.take i.toNat).reverse) (by rw [hs2, if_pos hc28]), show ((l.take i.toNat).reverse.length : Int) = i by simp; omega]
         exact fin1 rfl rfl ⟨_, ⟨rfl, rfl⟩, hO.only [.o a, .b s, .p p]⟩)
      | (rw [lastV_none (by rw [hs, show (i + 1).toNat = 0 by omega]; rfl), show (-1 : Int) = i by omega]
         exact fin1 rfl rfl ⟨_, ⟨rfl, rfl⟩, hO.only [.o a, .b s, .p p]⟩)
    · refine K5 (K8 (K3 (K1 (V1 rfl rfl rfl (l_y rfl rfl (D4) ?_)))))
      refine V2 rfl rfl rfl (K2 ?_)
      exact q_next (i - 1) ⟨rfl, rfl, rfl, rfl, rfl, trivial⟩ ⟨hO.only [.o a, .b s, .p p], ⟨by omega, by omega⟩, by rw [hs2, if_neg (by rw [hc28]; simp), show (i - 1 + 1).toNat = i.toNat by omega]⟩ (by omega)
  · refine K2 (K3 (L9 (K7 (L1 (L1 (L2 (K3 (K0 (K1 (V1 rfl rfl rfl (V2 rfl rfl rfl (K2 (K3 (K6 ?_))))))))))))))
    first
    | (rw [lastV_some (r := (l.take i.toNat).reverse) (by rw [hs2, if_pos hc28]), show ((l.take i.toNat).reverse.length : Int) = i by simp; omega]
       exact fin1 rfl rfl ⟨_, ⟨rfl, rfl⟩, hO.only [.o a, .b s, .p p]⟩)
    | (rw [lastV_none (by rw [hs, show (i + 1).toNat = 0 by omega]; rfl), show (-1 : Int) = i by omega]
       exact fin1 rfl rfl ⟨_, ⟨rfl, rfl⟩, hO.only [.o a, .b s, .p p]⟩)
def nd (A : List Node_one) (x : Int) : Api_node := (at_ A x.toNat).Node
def fosterV (A : List Node_one) (l : List Int) : Api_spot :=
 if lastV (namA A tableL) l < lastV (namA A templL) l then ⟨(nd A (at_ l (lastV (namA A templL) l).toNat)).Inner, -1⟩
 else if lastV (namA A tableL) l < 0 then (if 0 < l.length then ⟨at_ l 0, -1⟩ else ⟨-1, -1⟩)
 else if (nd A (at_ l (lastV (namA A tableL) l).toNat)).Parent ≠ -1 then ⟨(nd A (at_ l (lastV (namA A tableL) l).toNat)).Parent, at_ l (lastV (namA A tableL) l).toNat⟩
 else if 0 < lastV (namA A tableL) l then ⟨at_ l (lastV (namA A tableL) l - 1).toNat, -1⟩ else ⟨-1, -1⟩
theorem NV.inner {x : Int} {n : Api_node} (h : NV A x n) (hb : hasB A x = true) : n.Inner = (nd A x).Inner := by
 rcases h with ⟨h, _⟩ | ⟨_, q, d, rfl⟩
 ·rw [hb] at h; cases h
 ·rfl
theorem NV.parent {x : Int} {n : Api_node} (h : NV A x n) (hb : hasB A x = true) : n.Parent = (nd A x).Parent := by
 rcases h with ⟨h, _⟩ | ⟨_, q, d, rfl⟩
 ·rw [hb] at h; cases h
 ·rfl
set_option maxHeartbeats 2000000 in
theorem foster_spec (hn : 0 < A.length) (ha : AttrsOk A) (hel : AllEl A l) (hg : Gs p l.length) (hl : l.length ≤ 1000000) (hO : Own k w [arenaL a A, sB s a p l.length c, sI p c l]) :
    Tri Tryz.prog 127 #[.pointer (some ⟨a, 0, none⟩), .pointer (some ⟨s, 0, none⟩)] k w fun v m => v = .agg (Api_spot.cells (fosterV A l)).toArray ∧ m = [arenaL a A, sB s a p l.length c, sI p c l] := by
  refine enter (args := [.pointer (some ⟨a, 0, none⟩), .pointer (some ⟨s, 0, none⟩)]) Tryz.func127 rfl rfl ?_
  obtain ⟨tb, htb⟩ : ∃ tb, tb = lastV (namA A tableL) l := ⟨_, rfl⟩
  obtain ⟨tp, htp⟩ : ∃ tp, tp = lastV (namA A templL) l := ⟨_, rfl⟩
  have hb1 : -1 ≤ tb ∧ tb < l.length := by rcases lastV_cases (namA A tableL) l with h | ⟨i, h, h2, _⟩ <;> omega
  have hp1 : -1 ≤ tp ∧ tp < l.length := by rcases lastV_cases (namA A templL) l with h | ⟨i, h, h2, _⟩ <;> omega
  have hf : fosterV A l = if tb < tp then ⟨(nd A (at_ l tp.toNat)).Inner, -1⟩ else if tb < 0 then (if 0 < l.length then ⟨at_ l 0, -1⟩ else ⟨-1, -1⟩) else if (nd A (at_ l tb.toNat)).Parent ≠ -1 then ⟨(nd A (at_ l tb.toNat)).Parent, at_ l tb.toNat⟩ else if 0 < tb then ⟨at_ l (tb - 1).toNat, -1⟩ else ⟨-1, -1⟩ := by rw [htb, htp]; rfl
  have hhas : ∀ i : Int, 0 ≤ i → i < l.length → hasB A (at_ l i.toNat) = true := fun i h0 h1 => elB_has (hel _ (at_mem (by omega)))
  refine K0 (K1 (s_alloc (vs := [.int .i64 0, .int .i64 0]) hO rfl rfl rfl fun b4 w hO => ?_))
  refine K2 (K3 ?_)
  refine c_scopeJ (X := Nat) (fun b5 => [(4, .pointer (some ⟨b4, 0, none⟩)), (5, .pointer (some ⟨b5, 0, none⟩))]) (fun b5 w => Own k w [arenaL a A, sB s a p l.length c, sI p c l, blk b4 135 [.int .i64 0, .int .i64 0], blk b5 135 (Api_spot.cells (fosterV A l))] ∧ True) 0 rfl ?_ ?_
  · refine K0 (K1 (CK [] hO rfl (fun k' hx hr hO' => nowhere_spec (hO := hO')) ?_))
    rintro _ _ w ⟨rfl, rfl⟩ hO
    simp only [List.cons_append, List.nil_append] at hO
    refine s_alloc (vs := [.int .i64 0, .int .i64 0]) hO rfl rfl rfl fun b5 w hO => ?_
    refine Y3 hO rfl rfl (fun w hO => ?_)
    refine K2 (K3 (K0 (K1 (s_alloc (vs := [.int .i64 0, .int .i64 0, .string ⟨#[]⟩, .slice none 0 0, .string ⟨#[]⟩, .string ⟨#[]⟩, .int .i64 0, .int .i64 0, .int .i64 0, .int .i64 0, .int .i64 0, .int .i64 0]) hO rfl rfl rfl fun b6 w hO => ?_))))
    refine K2 (K3 (K0 (K1 (V1 rfl rfl rfl (V1 rfl rfl rfl (CK [.o a, .b s, .p p] hO rfl (fun k' hx hr hO' => plast_spec hn ha hel hg hl (hO := hO')) ?_))))))
    rintro _ _ w ⟨rfl, rfl⟩ hO
    simp only [List.cons_append, List.nil_append] at hO
    rw [show lastV (namA A [⟨#[116, 97, 98, 108, 101]⟩]) l = tb from htb.symm]
    refine V2 rfl rfl rfl (K2 (K3 (K0 (K1 (V1 rfl rfl rfl (V1 rfl rfl rfl (CK [.o a, .b s, .p p] hO rfl (fun k' hx hr hO' => plast_spec hn ha hel hg hl (hO := hO')) ?_)))))))
    rintro _ _ w ⟨rfl, rfl⟩ hO
    simp only [List.cons_append, List.nil_append] at hO
    rw [show lastV (namA A [⟨#[116, 101, 109, 112, 108, 97, 116, 101]⟩]) l = tp from htp.symm]
    refine V2 rfl rfl rfl (K2 (K3 (K0 (K0 (K1 (V1 rfl rfl rfl (V1 rfl rfl rfl ?_)))))))
    refine Z0 (fun h5_2 => ?_) (fun h5_2 => ?_)
    · refine K2 (K3 (L8 (K0 (K1 (V1 rfl rfl rfl (V1 rfl rfl rfl (V1 rfl rfl rfl (CK [.b s, .p p] hO rfl (fun k' hx hr hO' => sAt_spec hg (hO := hO')) ?_))))))))
      rintro _ _ w ⟨rfl, rfl⟩ hO
      simp only [List.cons_append, List.nil_append] at hO
      refine CK [.o a] hO rfl (fun k' hx hr hO' => NodeD_spec hn ha (hO := hO')) ?_
      rintro _ _ w ⟨x6_4, hx6_4, rfl, rfl⟩ hO
      simp only [List.cons_append, List.nil_append] at hO
      refine V1 rfl rfl rfl (l_y rfl rfl (y_extract rfl rfl) (l_y rfl rfl (y_extract rfl rfl) (Y3 hO rfl rfl (fun w hO => ?_))))
      refine K2 (K3 (K0 ?_))
      have e1 := NV.inner (by rw [← atI_in (by omega) (by omega)]; exact hx6_4) (hhas tp (by omega) (by omega))
      refine K1 (l_y rfl rfl (y_fldb (o' := 11) rfl) (l_y rfl rfl (D5 hO rfl) ?_))
      refine CK [] hO rfl (fun k' hx hr hO' => end_spec (hO := hO')) ?_
      rintro _ _ w ⟨rfl, rfl⟩ hO
      simp only [List.cons_append, List.nil_append] at hO
      refine Y3 hO rfl rfl (fun w hO => ?_)
      refine K2 (K3 (c_goto (GT1 ?_)))
      have hO : Own k w [blk b5 135 (Api_spot.cells (fosterV A l)), arenaL a A, sB s a p l.length c, sI p c l, blk b4 135 [.int .i64 0, .int .i64 0]] := by
        first
        | exact hO.only [.b b5, .o a, .b s, .p p, .b b4]
        | skip
          obtain ⟨u, v, h8, hO⟩ : ∃ u v, fosterV A l = ⟨u, v⟩ ∧ Own k w [blk b5 135 [.int .i64 u, .int .i64 v], arenaL a A, sB s a p l.length c, sI p c l, blk b4 135 [.int .i64 0, .int .i64 0]] := by
            refine ⟨_, _, ?_, hO.only [.b b5, .o a, .b s, .p p, .b b4]⟩
            rw [hf]
            first
            | rw [if_pos h5_2, e1]
            | rw [if_neg h5_2, if_pos h8_1, if_pos (show 0 < l.length by omega), ez]
            | rw [if_neg h5_2, if_pos h8_1, if_neg (show ¬ 0 < l.length by omega)]
            | rw [if_neg h5_2, if_neg h8_1, if_pos h13, e2, ez]
            | rw [if_neg h5_2, if_neg h8_1, if_neg h14, if_pos h14_1, ez]
            | rw [if_neg h5_2, if_neg h8_1, if_neg h14, if_neg h14_1]
          rw [h8]; exact hO
      exact q_goto (b5) ⟨rfl, rfl, trivial⟩ ⟨hO.only [.o a, .b s, .p p, .b b4, .b b5], trivial⟩
    · refine K2 (K3 (L9 (K5 (K3 (K0 (K0 (K1 (V1 rfl rfl rfl ?_))))))))
      refine Z0 (fun h8_1 => ?_) (fun h8_1 => ?_)
      · refine K2 (K3 (L8 (K0 (K0 (K1 (V1 rfl rfl rfl (CK [.b s] hO rfl (fun k' hx hr hO' => sLen_spec (hO := hO')) ?_)))))))
        rintro _ _ w ⟨rfl, rfl⟩ hO
        simp only [List.cons_append, List.nil_append] at hO
        refine Z0 (fun h9_2 => ?_) (fun h9_2 => ?_)
        · refine K2 (K3 (L8 ?_))
          have ez : atI l 0 = at_ l 0 := atI_in (by omega) (by omega)
          refine K1 (V1 rfl rfl rfl (CK [.b s, .p p] hO rfl (fun k' hx hr hO' => sAt_spec hg (hO := hO')) ?_))
          rintro _ _ w ⟨rfl, rfl⟩ hO
          simp only [List.cons_append, List.nil_append] at hO
          refine CK [] hO rfl (fun k' hx hr hO' => end_spec (hO := hO')) ?_
          rintro _ _ w ⟨rfl, rfl⟩ hO
          simp only [List.cons_append, List.nil_append] at hO
          refine Y3 hO rfl rfl (fun w hO => ?_)
          refine K2 (K3 (c_goto (GT1 ?_)))
          have hO : Own k w [blk b5 135 (Api_spot.cells (fosterV A l)), arenaL a A, sB s a p l.length c, sI p c l, blk b4 135 [.int .i64 0, .int .i64 0]] := by
            first
            | exact hO.only [.b b5, .o a, .b s, .p p, .b b4]
            | skip
              obtain ⟨u, v, h8, hO⟩ : ∃ u v, fosterV A l = ⟨u, v⟩ ∧ Own k w [blk b5 135 [.int .i64 u, .int .i64 v], arenaL a A, sB s a p l.length c, sI p c l, blk b4 135 [.int .i64 0, .int .i64 0]] := by
                refine ⟨_, _, ?_, hO.only [.b b5, .o a, .b s, .p p, .b b4]⟩
                rw [hf]
                first
                | rw [if_pos h5_2, e1]
                | rw [if_neg h5_2, if_pos h8_1, if_pos (show 0 < l.length by omega), ez]
                | rw [if_neg h5_2, if_pos h8_1, if_neg (show ¬ 0 < l.length by omega)]
                | rw [if_neg h5_2, if_neg h8_1, if_pos h13, e2, ez]
                | rw [if_neg h5_2, if_neg h8_1, if_neg h14, if_pos h14_1, ez]
                | rw [if_neg h5_2, if_neg h8_1, if_neg h14, if_neg h14_1]
              rw [h8]; exact hO
          exact q_goto (b5) ⟨rfl, rfl, trivial⟩ ⟨hO.only [.o a, .b s, .p p, .b b4, .b b5], trivial⟩
        · refine K2 (K3 (L9 (K5 (K3 (c_goto (GT1 ?_))))))
          have hO : Own k w [blk b5 135 (Api_spot.cells (fosterV A l)), arenaL a A, sB s a p l.length c, sI p c l, blk b4 135 [.int .i64 0, .int .i64 0]] := by
            first
            | exact hO.only [.b b5, .o a, .b s, .p p, .b b4]
            | skip
              obtain ⟨u, v, h8, hO⟩ : ∃ u v, fosterV A l = ⟨u, v⟩ ∧ Own k w [blk b5 135 [.int .i64 u, .int .i64 v], arenaL a A, sB s a p l.length c, sI p c l, blk b4 135 [.int .i64 0, .int .i64 0]] := by
                refine ⟨_, _, ?_, hO.only [.b b5, .o a, .b s, .p p, .b b4]⟩
                rw [hf]
                first
                | rw [if_pos h5_2, e1]
                | rw [if_neg h5_2, if_pos h8_1, if_pos (show 0 < l.length by omega), ez]
                | rw [if_neg h5_2, if_pos h8_1, if_neg (show ¬ 0 < l.length by omega)]
                | rw [if_neg h5_2, if_neg h8_1, if_pos h13, e2, ez]
                | rw [if_neg h5_2, if_neg h8_1, if_neg h14, if_pos h14_1, ez]
                | rw [if_neg h5_2, if_neg h8_1, if_neg h14, if_neg h14_1]
              rw [h8]; exact hO
          exact q_goto (b5) ⟨rfl, rfl, trivial⟩ ⟨hO.only [.o a, .b s, .p p, .b b4, .b b5], trivial⟩
      · refine K2 (K3 (L9 (K5 (K3 (K0 (K0 (K1 (V1 rfl rfl rfl (V1 rfl rfl rfl (V1 rfl rfl rfl (CK [.b s, .p p] hO rfl (fun k' hx hr hO' => sAt_spec hg (hO := hO')) ?_)))))))))))
        rintro _ _ w ⟨rfl, rfl⟩ hO
        simp only [List.cons_append, List.nil_append] at hO
        refine CK [.o a] hO rfl (fun k' hx hr hO' => NodeD_spec hn ha (hO := hO')) ?_
        rintro _ _ w ⟨x11_4, hx11_4, rfl, rfl⟩ hO
        simp only [List.cons_append, List.nil_append] at hO
        refine V1 rfl rfl rfl (l_y rfl rfl (y_extract rfl rfl) (l_y rfl rfl (y_extract rfl rfl) (Y3 hO rfl rfl (fun w hO => ?_))))
        refine K2 (K3 (K0 ?_))
        have e2 := NV.parent (by rw [← atI_in (by omega) (by omega)]; exact hx11_4) (hhas tb (by omega) (by omega))
        refine K1 (l_y rfl rfl (y_fldb (o' := 6) rfl) (l_y rfl rfl (D5 hO rfl) ?_))
        refine Z1 (fun h12_2 => ?_) (fun h12_2 => ?_)
        · refine K2 (K3 (L8 (K0 ?_)))
          have h13 : (nd A (at_ l tb.toNat)).Parent ≠ -1 := by rw [← e2]; exact h12_2
          have ez : atI l tb = at_ l tb.toNat := atI_in (by omega) (by omega)
          refine da_region (by intro c a d v w h; cases d <;> exact h) ?_
          have hO := hO.drew
          refine da_phase _ [5] (SO.ks [.b b6] hO) ?_
          refine dx_u 0 (by kernel_rfl) rfl rfl rfl (fun w => y_fldb (o' := 6) rfl) ?_
          refine dx_y 1 (by kernel_rfl) rfl rfl rfl (fun w ⟨m, hw⟩ => D5 hw rfl) ?_
          refine dx_u 2 (by kernel_rfl) rfl rfl rfl (fun w => y_move rfl) ?_
          refine dx_u 3 (by kernel_rfl) rfl rfl rfl (fun w => y_move rfl) ?_
          refine dx_only 4 (by kernel_rfl) rfl rfl ?_
          refine CK [.b s, .p p] hO rfl (fun k' hx hr hO' => sAt_spec hg (hO := hO')) ?_
          rintro _ _ w ⟨rfl, rfl⟩ hO
          simp only [List.cons_append, List.nil_append] at hO
          refine o_done (⟨SO.ks [.b b6] hO, ?_⟩)
          refine dx_close 5 (by kernel_rfl) rfl rfl ?_
          refine s_build (parts := [(0, .tmp 50), (1, .tmp 53)]) (cs := [.int .i64 x11_4.Parent, .int .i64 (atI l (tb))]) rfl rfl (fun a ha => partsOf_sound ha _ _ rfl) (by kernel_rfl) (o_done (da_only 6 (by kernel_rfl) rfl ?_))
          refine Y3 hO rfl rfl (fun w hO => ?_)
          refine o_done (da_end (by kernel_rfl) ?_)
          refine K3 (c_goto (GT1 ?_))
          have hO : Own k w [blk b5 135 (Api_spot.cells (fosterV A l)), arenaL a A, sB s a p l.length c, sI p c l, blk b4 135 [.int .i64 0, .int .i64 0]] := by
            first
            | exact hO.only [.b b5, .o a, .b s, .p p, .b b4]
            | skip
              obtain ⟨u, v, h8, hO⟩ : ∃ u v, fosterV A l = ⟨u, v⟩ ∧ Own k w [blk b5 135 [.int .i64 u, .int .i64 v], arenaL a A, sB s a p l.length c, sI p c l, blk b4 135 [.int .i64 0, .int .i64 0]] := by
                refine ⟨_, _, ?_, hO.only [.b b5, .o a, .b s, .p p, .b b4]⟩
                rw [hf]
                first
                | rw [if_pos h5_2, e1]
                | rw [if_neg h5_2, if_pos h8_1, if_pos (show 0 < l.length by omega), ez]
                | rw [if_neg h5_2, if_pos h8_1, if_neg (show ¬ 0 < l.length by omega)]
                | rw [if_neg h5_2, if_neg h8_1, if_pos h13, e2, ez]
                | rw [if_neg h5_2, if_neg h8_1, if_neg h14, if_pos h14_1, ez]
                | rw [if_neg h5_2, if_neg h8_1, if_neg h14, if_neg h14_1]
              rw [h8]; exact hO
          exact q_goto (b5) ⟨rfl, rfl, trivial⟩ ⟨hO.only [.o a, .b s, .p p, .b b4, .b b5], trivial⟩
        · refine K2 (K3 (L9 (K5 (K3 (K0 (K0 ?_))))))
          have h14 : ¬ (nd A (at_ l tb.toNat)).Parent ≠ -1 := by rw [← e2]; exact fun h => h h12_2
          refine K1 (V1 rfl rfl rfl ?_)
          refine Z0 (fun h14_1 => ?_) (fun h14_1 => ?_)
          · refine K2 (K3 (L8 ?_))
            have ez : atI l (tb - 1) = at_ l (tb - 1).toNat := atI_in (by omega) (by omega)
            refine K1 (V1 rfl rfl rfl (V1 rfl rfl rfl (l_y rfl rfl (D4) ?_)))
            refine CK [.b s, .p p] hO rfl (fun k' hx hr hO' => sAt_spec hg (hO := hO')) ?_
            rintro _ _ w ⟨rfl, rfl⟩ hO
            simp only [List.cons_append, List.nil_append] at hO
            refine CK [] hO rfl (fun k' hx hr hO' => end_spec (hO := hO')) ?_
            rintro _ _ w ⟨rfl, rfl⟩ hO
            simp only [List.cons_append, List.nil_append] at hO
            refine Y3 hO rfl rfl (fun w hO => ?_)
            refine K2 (K3 (K0 (L5 (K3 (K0 ?_)))))
            have hO : Own k w [blk b5 135 (Api_spot.cells (fosterV A l)), arenaL a A, sB s a p l.length c, sI p c l, blk b4 135 [.int .i64 0, .int .i64 0]] := by
              first
              | exact hO.only [.b b5, .o a, .b s, .p p, .b b4]
              | skip
                obtain ⟨u, v, h8, hO⟩ : ∃ u v, fosterV A l = ⟨u, v⟩ ∧ Own k w [blk b5 135 [.int .i64 u, .int .i64 v], arenaL a A, sB s a p l.length c, sI p c l, blk b4 135 [.int .i64 0, .int .i64 0]] := by
                  refine ⟨_, _, ?_, hO.only [.b b5, .o a, .b s, .p p, .b b4]⟩
                  rw [hf]
                  first
                  | rw [if_pos h5_2, e1]
                  | rw [if_neg h5_2, if_pos h8_1, if_pos (show 0 < l.length by omega), ez]
                  | rw [if_neg h5_2, if_pos h8_1, if_neg (show ¬ 0 < l.length by omega)]
                  | rw [if_neg h5_2, if_neg h8_1, if_pos h13, e2, ez]
                  | rw [if_neg h5_2, if_neg h8_1, if_neg h14, if_pos h14_1, ez]
                  | rw [if_neg h5_2, if_neg h8_1, if_neg h14, if_neg h14_1]
                rw [h8]; exact hO
            refine K1 (l_y rfl rfl (D8 (cs := [.int .i64 (fosterV A l).Parent, .int .i64 (fosterV A l).Before]) hO rfl) ?_)
            refine Y3 hO rfl rfl (fun w hO => ?_)
            refine K2 (K3 (K6 (J4 ?_)))
            exact finC hO rfl rfl ⟨_, ⟨rfl, rfl⟩, hO.only [.o a, .b s, .p p]⟩
          · refine K2 (K3 (L9 (K5 (K3 (K0 (L5 (K3 (K0 ?_))))))))
            have hO : Own k w [blk b5 135 (Api_spot.cells (fosterV A l)), arenaL a A, sB s a p l.length c, sI p c l, blk b4 135 [.int .i64 0, .int .i64 0]] := by
              first
              | exact hO.only [.b b5, .o a, .b s, .p p, .b b4]
              | skip
                obtain ⟨u, v, h8, hO⟩ : ∃ u v, fosterV A l = ⟨u, v⟩ ∧ Own k w [blk b5 135 [.int .i64 u, .int .i64 v], arenaL a A, sB s a p l.length c, sI p c l, blk b4 135 [.int .i64 0, .int .i64 0]] := by
                  refine ⟨_, _, ?_, hO.only [.b b5, .o a, .b s, .p p, .b b4]⟩
                  rw [hf]
                  first
                  | rw [if_pos h5_2, e1]
                  | rw [if_neg h5_2, if_pos h8_1, if_pos (show 0 < l.length by omega), ez]
                  | rw [if_neg h5_2, if_pos h8_1, if_neg (show ¬ 0 < l.length by omega)]
                  | rw [if_neg h5_2, if_neg h8_1, if_pos h13, e2, ez]
                  | rw [if_neg h5_2, if_neg h8_1, if_neg h14, if_pos h14_1, ez]
                  | rw [if_neg h5_2, if_neg h8_1, if_neg h14, if_neg h14_1]
                rw [h8]; exact hO
            refine K1 (l_y rfl rfl (D8 (cs := [.int .i64 (fosterV A l).Parent, .int .i64 (fosterV A l).Before]) hO rfl) ?_)
            refine Y3 hO rfl rfl (fun w hO => ?_)
            refine K2 (K3 (K6 (J4 ?_)))
            exact finC hO rfl rfl ⟨_, ⟨rfl, rfl⟩, hO.only [.o a, .b s, .p p]⟩
  · rintro b5 w ⟨hO, _⟩
    refine K0 (K5 (K3 (K0 ?_)))
    have hO : Own k w [blk b5 135 (Api_spot.cells (fosterV A l)), arenaL a A, sB s a p l.length c, sI p c l, blk b4 135 [.int .i64 0, .int .i64 0]] := by
      first
      | exact hO.only [.b b5, .o a, .b s, .p p, .b b4]
      | skip
        obtain ⟨u, v, h8, hO⟩ : ∃ u v, fosterV A l = ⟨u, v⟩ ∧ Own k w [blk b5 135 [.int .i64 u, .int .i64 v], arenaL a A, sB s a p l.length c, sI p c l, blk b4 135 [.int .i64 0, .int .i64 0]] := by
          refine ⟨_, _, ?_, hO.only [.b b5, .o a, .b s, .p p, .b b4]⟩
          rw [hf]
          first
          | rw [if_pos h5_2, e1]
          | rw [if_neg h5_2, if_pos h8_1, if_pos (show 0 < l.length by omega), ez]
          | rw [if_neg h5_2, if_pos h8_1, if_neg (show ¬ 0 < l.length by omega)]
          | rw [if_neg h5_2, if_neg h8_1, if_pos h13, e2, ez]
          | rw [if_neg h5_2, if_neg h8_1, if_neg h14, if_pos h14_1, ez]
          | rw [if_neg h5_2, if_neg h8_1, if_neg h14, if_neg h14_1]
        rw [h8]; exact hO
    refine K1 (l_y rfl rfl (D8 (cs := [.int .i64 (fosterV A l).Parent, .int .i64 (fosterV A l).Before]) hO rfl) ?_)
    refine Y3 hO rfl rfl (fun w hO => ?_)
    refine K2 (K3 (K6 (L4 ?_)))
    exact finC hO rfl rfl ⟨_, ⟨rfl, rfl⟩, hO.only [.o a, .b s, .p p]⟩
end
end Go.Proofs.YtoohapbaelmkcaaGreat
end
section
set_option maxRecDepth 100000
namespace Go.Proofs.YtoohapbaelmkcaaGreat
open Go Go.Hb Go.RowKit
instance : DecidableEq Api_spot := fun a b => decidable_of_iff (a.Parent = b.Parent ∧ a.Before = b.Before) ⟨fun ⟨h1, h2⟩ => Api_spot.ext h1 h2, fun h => by subst h; exact ⟨rfl, rfl⟩⟩
instance : EqT Tryz.prog 135 Api_spot.cells := ⟨by kernel_rfl, fun x y w => by
  have u3 := Tryz.underlying3
  have hS : Tryz.prog.underlying 135 = some (.struct (Tryz.prog.fieldsOf 135)) := by kernel_rfl
  have hp : Tryz.prog.stoodInHeld 135 = false := by kernel_rfl
  rw [show (10000 : Nat) = 9999 + 1 from rfl, run_equalIn_agg w 9999 135 _ _ hS hp]
  simp only [Program.fieldsOf, Tryz.underlying135, Api_spot.cells]
  go_simp
  have e : (x = y) ↔ x.Parent = y.Parent ∧ x.Before = y.Before := Api_spot.ext_iff
  by_cases h1 : x.Parent = y.Parent <;> by_cases h2 : x.Before = y.Before <;> simp [e, h1, h2]⟩
def atV (A : List Node_one) (l : List Int) (target : Int) (f : Bool) : Api_spot := if f = true ∧ (elB A target && namA A tpartL target) = true ∧ fosterV A l ≠ ⟨-1, -1⟩ then fosterV A l else ⟨target, -1⟩
def innV (A : List Node_one) (at0 : Api_spot) : Api_spot := if (nd A at0.Parent).Inner ≠ -1 then ⟨(nd A at0.Parent).Inner, -1⟩ else at0
def spotV (A : List Node_one) (l : List Int) (target : Int) (f : Bool) : Api_spot × Int := if hasB A target = false then (⟨0, 0⟩, 6) else (innV A (atV A l target f), 0)
def FosOk (A : List Node_one) (l : List Int) : Prop := fosterV A l ≠ ⟨-1, -1⟩ → hasB A (fosterV A l).Parent = true
theorem atV_has {A : List Node_one} {l : List Int} {target : Int} {f : Bool} (hf : FosOk A l) (hb : hasB A target = true) : hasB A (atV A l target f).Parent = true := by
 unfold atV
 split
 ·next h => exact hf h.2.2
 ·exact hb
section
variable {k : Ctx} {w : World} {a s r z c : Nat} {p : Option Addr} {A : List Node_one} {K : Int → List Int} {R : List Ref01_one} {l : List Int}
theorem fosterC_spec (hn : 0 < A.length) (ha : AttrsOk A) (hel : AllEl A l) (hl : l.length ≤ 1000000) (hO : Own k w [arenaL a A, stkL s a l]) :
  Tri Tryz.prog 127 #[.pointer (some ⟨a, 0, none⟩), .pointer (some ⟨s, 0, none⟩)] k w fun v m => v = .agg (Api_spot.cells (fosterV A l)).toArray ∧ m = [arenaL a A, stkL s a l] := by
 obtain ⟨p, c, hg, hlc, hO⟩ := stkL_open (hO.ks [.o s])
 refine Ret.mono (foster_spec hn ha hel hg hl (hO.ks [.o a, .b s, .p p])) ?_
 rintro v w' ⟨m, ⟨rfl, rfl⟩, hO⟩
 exact ⟨_, ⟨rfl, rfl⟩, ((stkL_shut (hO.ks [.b s, .p p])).ks [.o a, .o s]).two⟩
set_option maxHeartbeats 2000000 in
theorem Spot_spec {target : Int} {f : Bool} (hn : 0 < A.length) (ha : AttrsOk A) (hel : AllEl A l) (hl : l.length ≤ 1000000) (hfo : FosOk A l) (hO : Own k w [arenaL a A, stkL s a l]) :
    Tri Tryz.prog 101 #[.pointer (some ⟨a, 0, none⟩), .pointer (some ⟨s, 0, none⟩), .int .i64 target, .bool f] k w fun v m => v = .tuple #[.agg (Api_spot.cells (spotV A l target f).1).toArray, .int .i64 (spotV A l target f).2] ∧ m = [arenaL a A, stkL s a l] := by
  refine enter (args := [.pointer (some ⟨a, 0, none⟩), .pointer (some ⟨s, 0, none⟩), .int .i64 target, .bool f]) Tryz.func101 rfl rfl ?_
  have hfr : freshE A l (-1) = 6 := by rw [freshE, show elB A (-1) = false from by rw [elB, show hasB A (-1) = false from by simp [hasB]]; rfl, if_pos rfl]
  obtain ⟨t0, ht0⟩ : ∃ t0, t0 = atV A l target f := ⟨_, rfl⟩
  refine K0 (K1 (s_alloc (vs := [.int .i64 0, .int .i64 0]) hO rfl rfl rfl fun b8 w hO => ?_))
  refine V2 rfl rfl rfl (K2 (K3 (K0 (K0 (K1 (V1 rfl rfl rfl (CK [.o a] hO rfl (fun k' hx hr hO' => LenC_spec hn (hO := hO')) ?_)))))))
  rintro _ _ w ⟨rfl, rfl⟩ hO
  simp only [List.cons_append, List.nil_append] at hO
  refine N3 (V1 rfl rfl rfl (V1 rfl rfl rfl (CK [.o a, .o s] hO rfl (fun k' hx hr hO' => sPush_spec hn ha hl (hO := hO')) ?_)))
  rintro _ _ w ⟨rfl, rfl⟩ hO
  simp only [List.cons_append, List.nil_append] at hO
  rw [hfr, if_neg (by decide)] at hO
  rw [hfr]
  refine N3 (l_y rfl rfl (y_pick_f rfl rfl) (K2 (K3 (L9 (K5 (K3 (K0 (K1 (V1 rfl rfl rfl (V1 rfl rfl rfl (CK [.o a] hO rfl (fun k' hx hr hO' => NodeD_spec hn ha (hO := hO')) ?_)))))))))))
  rintro _ _ w ⟨x3_2, hx3_2, rfl, rfl⟩ hO
  simp only [List.cons_append, List.nil_append] at hO
  refine V1 rfl rfl rfl (l_y rfl rfl (y_extract rfl rfl) (l_y rfl rfl (y_extract rfl rfl) (s_alloc (vs := [.int .i64 0, .int .i64 0, .string ⟨#[]⟩, .slice none 0 0, .string ⟨#[]⟩, .string ⟨#[]⟩, .int .i64 0, .int .i64 0, .int .i64 0, .int .i64 0, .int .i64 0, .int .i64 0]) hO rfl rfl rfl fun b10 w hO => ?_)))
  refine Y3 hO rfl rfl (fun w hO => ?_)
  refine V2 rfl rfl rfl (K2 (K3 (K0 (K0 (K1 (V1 rfl rfl rfl ?_))))))
  refine Z1 (fun h4_1 => ?_) (fun h4_1 => ?_)
  · refine K2 (K3 (L8 (K0 (K1 (s_build (parts := []) (cs := [.int .i64 0, .int .i64 0]) rfl rfl (fun a ha => partsOf_sound ha _ _ rfl) (by kernel_rfl) (V1 rfl rfl rfl (Y3 hO rfl rfl (fun w hO => ?_))))))))
    refine V2 rfl rfl rfl (K2 (K3 (K6 (K9 ?_))))
    have e : spotV A l target f = (⟨0, 0⟩, 6) := by
      rw [spotV, if_pos]
      cases h : hasB A target with
      | false => rfl
      | true => rw [errN, h] at h4_1; simp at h4_1
    have e2 : errN A target = 6 := by
      rw [errN]; split
      · next h => rw [errN, h] at h4_1; simp at h4_1
      · rfl
    rw [e]
    exact finC1 hO rfl rfl rfl ⟨_, ⟨by rw [e2]; rfl, rfl⟩, hO.only [.o a, .o s]⟩
  · refine K2 (K3 (L9 (K5 (K3 (K0 ?_)))))
    have hb : hasB A target = true := by
      cases h : hasB A target with
      | true => rfl
      | false => rw [errN, h] at h4_1; simp at h4_1
    have hpl := hx3_2.pl (ts := tpartL) hb
    refine K1 (V1 rfl rfl rfl (CK [] hO rfl (fun k' hx hr hO' => end_spec (hO := hO')) ?_))
    rintro _ _ w ⟨rfl, rfl⟩ hO
    simp only [List.cons_append, List.nil_append] at hO
    refine s_alloc (vs := [.int .i64 0, .int .i64 0]) hO rfl rfl rfl fun b12 w hO => ?_
    refine Y3 hO rfl rfl (fun w hO => ?_)
    refine K2 (K3 ?_)
    refine c_cut (X := Nat) (fun b12 => [(0, .pointer (some ⟨a, 0, none⟩)), (8, .pointer (some ⟨b8, 0, none⟩)), (9, .int .i64 0), (12, .pointer (some ⟨b12, 0, none⟩))]) (fun b12 w => Own k w [arenaL a A, stkL s a l, blk b8 135 [.int .i64 0, .int .i64 0], blk b12 135 (Api_spot.cells t0)] ∧ True) ?_ ?_
    · refine K0 (K1 (V1 rfl rfl rfl (V1 rfl rfl rfl ?_)))
      refine l_split 38 rfl (fun hg38 => ?_) (fun hg38 => ?_)
      · refine l_y rfl rfl (D8 (cs := [.int .i64 x3_2.Kind, .int .i64 x3_2.Space, .string x3_2.Name, .slice x3_2.AttrsP x3_2.Attrs.length x3_2.AttrsC, .string x3_2.Data, .string x3_2.System, .int .i64 x3_2.Parent, .int .i64 x3_2.First, .int .i64 x3_2.Last, .int .i64 x3_2.Prev, .int .i64 x3_2.Next, .int .i64 x3_2.Inner]) hO rfl) ?_
        refine s_lit (parts := [(0, .const (.string ⟨#[116, 97, 98, 108, 101]⟩)), (1, .const (.string ⟨#[116, 98, 111, 100, 121]⟩)), (2, .const (.string ⟨#[116, 102, 111, 111, 116]⟩)), (3, .const (.string ⟨#[116, 104, 101, 97, 100]⟩)), (4, .const (.string ⟨#[116, 114]⟩))]) (enc := eS) [⟨#[116, 97, 98, 108, 101]⟩, ⟨#[116, 98, 111, 100, 121]⟩, ⟨#[116, 102, 111, 111, 116]⟩, ⟨#[116, 104, 101, 97, 100]⟩, ⟨#[116, 114]⟩] [.string ⟨#[116, 97, 98, 108, 101]⟩, .string ⟨#[116, 98, 111, 100, 121]⟩, .string ⟨#[116, 102, 111, 111, 116]⟩, .string ⟨#[116, 104, 101, 97, 100]⟩, .string ⟨#[116, 114]⟩] hO rfl (fun b40 w hO => ?_)
        refine CK [] hO rfl (fun k' hx hr hO' => pis_spec (n := x3_2) (ts := tpartL) (sls_roK (p := (some ⟨b40, 0, none⟩)) hr (sls_fct (p := (some ⟨b40, 0, none⟩)) hO)) (by decide) (hO := hO')) ?_
        rintro _ _ w ⟨rfl, rfl⟩ hO
        simp only [List.nil_append] at hO
        rw [hpl]
        refine l_y rfl rfl (y_pick_t rfl rfl) (K2 (K3 ?_))
        refine c_split rfl (fun hc42 => ?_) (fun hc42 => ?_)
        · refine K0 (K1 (V1 rfl rfl rfl (V1 rfl rfl rfl (CK [.o a, .o s] hO rfl (fun k' hx hr hO' => fosterC_spec hn ha hel hl (hO := hO')) ?_))))
          rintro _ _ w ⟨rfl, rfl⟩ hO
          simp only [List.cons_append, List.nil_append] at hO
          refine s_alloc (vs := [.int .i64 0, .int .i64 0]) hO rfl rfl rfl fun b13 w hO => ?_
          refine Y3 hO rfl rfl (fun w hO => ?_)
          refine K2 (K3 (K0 (da_region (by intro c a d v w h; cases d <;> exact h) ?_)))
          have hO := hO.drew
          refine da_phase _ [] (SO.ks [.b b13] hO) ?_
          refine dx_y 0 (by kernel_rfl) rfl rfl rfl (fun w ⟨m, hw⟩ => D8 (cs := [.int .i64 (fosterV A l).Parent, .int .i64 (fosterV A l).Before]) hw rfl) ?_
          refine dx_only 1 (by kernel_rfl) rfl rfl ?_
          refine CK [] hO rfl (fun k' hx hr hO' => nowhere_spec (hO := hO')) ?_
          rintro _ _ w ⟨rfl, rfl⟩ hO
          simp only [List.cons_append, List.nil_append] at hO
          refine o_done (⟨SO.ks [.b b13] hO, ?_⟩)
          refine dx_y 2 (by kernel_rfl) rfl rfl rfl (fun w ⟨m, hw⟩ => y_neA (enc := Api_spot.cells) (a := fosterV A l) (b := ⟨-1, -1⟩) rfl rfl rfl) ?_
          refine dx_end (by kernel_rfl) ?_
          refine K3 ?_
          refine c_split rfl (fun hc48 => ?_) (fun hc48 => ?_)
          · simp only [Bool.not_eq_true', Bool.not_eq_false'] at hc48
            refine K1 (l_y rfl rfl (D8 (cs := [.int .i64 (fosterV A l).Parent, .int .i64 (fosterV A l).Before]) hO rfl) ?_)
            refine Y3 hO rfl rfl (fun w hO => ?_)
            refine K2 ?_
            have e0 : (atV A l target f) = if f = true ∧ (elB A target && namA A tpartL target) = true ∧ fosterV A l ≠ ⟨-1, -1⟩ then fosterV A l else ⟨target, -1⟩ := rfl
            have e9 : t0 = fosterV A l ∨ t0 = ⟨target, -1⟩ := by rw [ht0, e0]; split <;> simp
            first
            | (have e1 : t0 = fosterV A l := by rw [ht0, e0, if_pos ⟨hg38, hc42, by simpa using hc48⟩]
               rw [e1])
            | (have e1 : t0 = ⟨target, -1⟩ := by
                 rw [ht0, e0, if_neg]
                 rintro ⟨h1, h2, h3⟩
                 first | (rw [hg38] at h1; simp at h1; done) | (rw [hc42] at h2; simp at h2; done) | (exact h3 (by simpa using hc48))
               rw [e1])
            exact q_cut (b12) ⟨rfl, rfl, rfl, rfl, trivial⟩ ⟨hO.only [.o a, .o s, .b b8, .b b12], trivial⟩
          · simp only [Bool.not_eq_true', Bool.not_eq_false'] at hc48
            refine K5 ?_
            have e0 : (atV A l target f) = if f = true ∧ (elB A target && namA A tpartL target) = true ∧ fosterV A l ≠ ⟨-1, -1⟩ then fosterV A l else ⟨target, -1⟩ := rfl
            have e9 : t0 = fosterV A l ∨ t0 = ⟨target, -1⟩ := by rw [ht0, e0]; split <;> simp
            first
            | (have e1 : t0 = fosterV A l := by rw [ht0, e0, if_pos ⟨hg38, hc42, by simpa using hc48⟩]
               rw [e1])
            | (have e1 : t0 = ⟨target, -1⟩ := by
                 rw [ht0, e0, if_neg]
                 rintro ⟨h1, h2, h3⟩
                 first | (rw [hg38] at h1; simp at h1; done) | (rw [hc42] at h2; simp at h2; done) | (exact h3 (by simpa using hc48))
               rw [e1])
            exact q_cut (b12) ⟨rfl, rfl, rfl, rfl, trivial⟩ ⟨hO.only [.o a, .o s, .b b8, .b b12], trivial⟩
        · refine K5 ?_
          have e0 : (atV A l target f) = if f = true ∧ (elB A target && namA A tpartL target) = true ∧ fosterV A l ≠ ⟨-1, -1⟩ then fosterV A l else ⟨target, -1⟩ := rfl
          have e9 : t0 = fosterV A l ∨ t0 = ⟨target, -1⟩ := by rw [ht0, e0]; split <;> simp
          first
          | (have e1 : t0 = fosterV A l := by rw [ht0, e0, if_pos ⟨hg38, hc42, by simpa using hc48⟩]
             rw [e1])
          | (have e1 : t0 = ⟨target, -1⟩ := by
               rw [ht0, e0, if_neg]
               rintro ⟨h1, h2, h3⟩
               first | (rw [hg38] at h1; simp at h1; done) | (rw [hc42] at h2; simp at h2; done) | (exact h3 (by simpa using hc48))
             rw [e1])
          exact q_cut (b12) ⟨rfl, rfl, rfl, rfl, trivial⟩ ⟨hO.only [.o a, .o s, .b b8, .b b12], trivial⟩
      · repeat refine M2 ?_
        refine l_y rfl rfl (y_pick_f rfl rfl) (K2 (K3 (L9 (K5 ?_))))
        have e0 : (atV A l target f) = if f = true ∧ (elB A target && namA A tpartL target) = true ∧ fosterV A l ≠ ⟨-1, -1⟩ then fosterV A l else ⟨target, -1⟩ := rfl
        have e9 : t0 = fosterV A l ∨ t0 = ⟨target, -1⟩ := by rw [ht0, e0]; split <;> simp
        first
        | (have e1 : t0 = fosterV A l := by rw [ht0, e0, if_pos ⟨hg38, hc42, by simpa using hc48⟩]
           rw [e1])
        | (have e1 : t0 = ⟨target, -1⟩ := by
             rw [ht0, e0, if_neg]
             rintro ⟨h1, h2, h3⟩
             first | (rw [hg38] at h1; simp at h1; done) | (rw [hc42] at h2; simp at h2; done) | (exact h3 (by simpa using hc48))
           rw [e1])
        exact q_cut (b12) ⟨rfl, rfl, rfl, rfl, trivial⟩ ⟨hO.only [.o a, .o s, .b b8, .b b12], trivial⟩
    · rintro b12 w ⟨hO, _⟩
      have hb : hasB A target = true := by
        cases h : hasB A target with
        | true => rfl
        | false => rw [errN, h] at h4_1; simp at h4_1
      have hbt := ht0 ▸ atV_has (f := f) hfo hb
      refine K0 (K0 (K1 (V1 rfl rfl rfl (l_y rfl rfl (y_fldb (o' := 0) rfl) (l_y rfl rfl (D5 hO rfl) ?_)))))
      refine CK [.o a] hO rfl (fun k' hx hr hO' => NodeD_spec hn ha (hO := hO')) ?_
      rintro _ _ w ⟨x11_3, hx11_3, rfl, rfl⟩ hO
      simp only [List.cons_append, List.nil_append] at hO
      refine V1 rfl rfl rfl (l_y rfl rfl (y_extract rfl rfl) (l_y rfl rfl (y_extract rfl rfl) (s_alloc (vs := [.int .i64 0, .int .i64 0, .string ⟨#[]⟩, .slice none 0 0, .string ⟨#[]⟩, .string ⟨#[]⟩, .int .i64 0, .int .i64 0, .int .i64 0, .int .i64 0, .int .i64 0, .int .i64 0]) hO rfl rfl rfl fun b14 w hO => ?_)))
      refine Y3 hO rfl rfl (fun w hO => ?_)
      refine V2 rfl rfl rfl (K2 (K3 (K0 ?_)))
      have e2 := NV.inner hx11_3 hbt
      have e3 : spotV A l target f = (innV A t0, 0) := by rw [spotV, if_neg (by rw [hb]; simp), ht0]
      refine K1 (l_y rfl rfl (y_fldb (o' := 11) rfl) (l_y rfl rfl (D5 hO rfl) ?_))
      refine Z1 (fun h12_2 => ?_) (fun h12_2 => ?_)
      · refine K2 (K3 (L8 (K1 (l_y rfl rfl (y_fldb (o' := 11) rfl) (l_y rfl rfl (D5 hO rfl) ?_)))))
        refine CK [] hO rfl (fun k' hx hr hO' => end_spec (hO := hO')) ?_
        rintro _ _ w ⟨rfl, rfl⟩ hO
        simp only [List.cons_append, List.nil_append] at hO
        refine Y3 hO rfl rfl (fun w hO => ?_)
        refine K2 (K3 (K0 ?_))
        have e4 : innV A t0 = if x11_3.Inner ≠ -1 then ⟨x11_3.Inner, -1⟩ else t0 := by rw [e2]; rfl
        rw [e3, e4]
        refine K1 (l_y rfl rfl (D8 (cs := [.int .i64 (Api_spot.mk (x11_3.Inner) (-1)).Parent, .int .i64 (Api_spot.mk (x11_3.Inner) (-1)).Before]) hO rfl) ?_)
        refine Y3 hO rfl rfl (fun w hO => ?_)
        refine V2 rfl rfl rfl (K2 (K3 (K6 ?_)))
        first
        | (rw [if_pos h12_2]
           exact finC1 hO rfl rfl rfl ⟨_, ⟨rfl, rfl⟩, hO.only [.o a, .o s]⟩)
        | (rw [if_neg (fun h => h h12_2)]
           exact finC1 hO rfl rfl rfl ⟨_, ⟨rfl, rfl⟩, hO.only [.o a, .o s]⟩)
      · refine K2 (K3 (L9 (K5 (K3 (K0 ?_)))))
        have e4 : innV A t0 = if x11_3.Inner ≠ -1 then ⟨x11_3.Inner, -1⟩ else t0 := by rw [e2]; rfl
        rw [e3, e4]
        refine K1 (l_y rfl rfl (D8 (cs := [.int .i64 t0.Parent, .int .i64 t0.Before]) hO rfl) ?_)
        refine Y3 hO rfl rfl (fun w hO => ?_)
        refine V2 rfl rfl rfl (K2 (K3 (K6 ?_)))
        first
        | (rw [if_pos h12_2]
           exact finC1 hO rfl rfl rfl ⟨_, ⟨rfl, rfl⟩, hO.only [.o a, .o s]⟩)
        | (rw [if_neg (fun h => h h12_2)]
           exact finC1 hO rfl rfl rfl ⟨_, ⟨rfl, rfl⟩, hO.only [.o a, .o s]⟩)
end
end Go.Proofs.YtoohapbaelmkcaaGreat
end
section
set_option maxRecDepth 100000
namespace Go.Proofs.YtoohapbaelmkcaaGreat
open Go Go.Hb Go.RowKit
abbrev rB (r : Nat) (p : Option Addr) (n c : Nat) : HP := blk r 87 [.slice p n c]
abbrev rS (p : Option Addr) (c : Nat) (R : List Ref01_one) : HP := sls p c 127 10 Ref01_one.cells R
structure RF1 (F : Pl) (o : Ref01_one) : Prop where
 attrs : Sli (PH F) (.slice o.AttrsP o.Attrs.length o.AttrsC) (o.Attrs.map Api_attr.cells)
 kids : Sli (PH F) (.slice o.KidsP o.Kids.length o.KidsC) (o.Kids.map (eI .i64))
def RF (F : Pl) (R : List Ref01_one) : Prop := ∀ o ∈ R, RF1 F o
theorem RF.atR {F : Pl} {R : List Ref01_one} (h : RF F R) {i : Nat} (hi : i < R.length) : RF1 F (at_ R i) := h _ (at_mem hi)
theorem RF1.le {F G : Pl} {o : Ref01_one} (h : RF1 F o) (hl : PLe F G) : RF1 G o := ⟨h.attrs.le hl, h.kids.le hl⟩
theorem RF.le {F G : Pl} {R : List Ref01_one} (h : RF F R) (hl : PLe F G) : RF G R := fun o ho => (h o ho).le hl
theorem RF.set {F : Pl} {R : List Ref01_one} (h : RF F R) {i : Nat} {o : Ref01_one} (ho : RF1 F o) : RF F (R.set i o) := fun x hx => by
 rcases List.mem_or_eq_of_mem_set hx with hx | rfl
 ·exact h x hx
 ·exact ho
theorem RF.app {F : Pl} {R : List Ref01_one} (h : RF F R) {o : Ref01_one} (ho : RF1 F o) : RF F (R ++ [o]) := fun x hx => by
 rcases List.mem_append.1 hx with hx | hx
 ·exact h x hx
 ·rw [List.mem_singleton.1 hx]; exact ho
/-- the answer's arena -/
def rarL (r : Nat) (R : List Ref01_one) : HP := fun h => ∃ x : {x : Option Addr × Nat × Pl // RF x.2.2 R}, sep [blk r 87 [.slice x.1.1 R.length x.1.2.1], sls x.1.1 x.1.2.1 127 10 Ref01_one.cells R, pool x.1.2.2] h
theorem rarL_open {k : Ctx} {w : World} {l : List HP} {r : Nat} {R : List Ref01_one} (hO : Own k w (rarL r R :: l)) : ∃ p c F, Gs p R.length ∧ RF F R ∧ Own k w (rB r p R.length c :: rS p c R :: pool F :: l) := by
 obtain ⟨⟨⟨p, c, F⟩, hF⟩, hO⟩ := Own.ex (A := fun (x : {x : Option Addr × Nat × Pl // RF x.2.2 R}) => sep [blk r 87 [.slice x.1.1 R.length x.1.2.1], sls x.1.1 x.1.2.1 127 10 Ref01_one.cells R, pool x.1.2.2]) hO
 have hO := Own.open hO
 simp only [List.cons_append, List.nil_append] at hO
 exact ⟨p, c, F, (sls_fct (p := p) hO).2, hF, hO⟩
theorem rarL_shut {k : Ctx} {w : World} {l : List HP} {r n : Nat} {R : List Ref01_one} {p : Option Addr} {c : Nat} {F : Pl} (hF : RF F R) (hO : Own k w (rB r p n c :: rS p c R :: pool F :: l)) (hn : n = R.length := by first | rfl | simp) : Own k w (rarL r R :: l) := by
 subst hn
 exact (Own.shut (l := [blk r 87 [.slice p R.length c], sls p c 127 10 Ref01_one.cells R, pool F]) hO).tell fun h hA => ⟨⟨(p, c, F), hF⟩, hA⟩
instance (l : List HP) (r : Nat) (R : List Ref01_one) : AtK (rarL r R :: l) (.o r) (rarL r R) l := ⟨.hd _ _⟩
def hasR (R : List Ref01_one) (id : Int) : Bool := decide (0 ≤ id ∧ id < R.length)
theorem hasR_true {R : List Ref01_one} {id : Int} (h : hasR R id = true) : 0 ≤ id ∧ id < R.length := of_decide_eq_true h
theorem Is_spec {k : Ctx} {w : World} {r : Nat} {R : List Ref01_one} {p : Option Addr} {c : Nat} {id : Int} (hO : Own k w [rB r p R.length c, rS p c R]) :
  Tri Tryz.prog 65 #[.pointer (some ⟨r, 0, none⟩), .int .i64 id] k w fun v m => v = .bool (hasR R id) ∧ m = [rB r p R.length c, rS p c R] := by
 refine enter (args := [.pointer (some ⟨r, 0, none⟩), .int .i64 id]) Tryz.func65 rfl rfl (K0 (K1 (V2 rfl rfl rfl (K2 (K3 (K0 (K1 (V1 rfl rfl rfl ?_))))))))
 refine Z0 (fun h1_1 => ?_) (fun h1_1 => ?_)
 ·refine V1 rfl rfl rfl (V1 rfl rfl rfl (V1 rfl rfl rfl (V3 rfl rfl rfl rfl (l_y rfl rfl (y_fldb (o' := 0) rfl) (l_y rfl rfl (D5 hO rfl) ?_)))))
  refine l_y rfl rfl (y_lenL rfl) ?_
  refine Z0 (fun h1_9 => ?_) (fun h1_9 => ?_)
  ·refine l_y rfl rfl (y_pick_t rfl rfl) (V2 rfl rfl rfl (K2 (K3 (K6 ?_))))
   exact fin1 rfl rfl ⟨_, ⟨by simp [hasR, *], rfl⟩, hO⟩
  ·refine l_y rfl rfl (y_pick_t rfl rfl) (V2 rfl rfl rfl (K2 (K3 (K6 ?_))))
   exact fin1 rfl rfl ⟨_, ⟨by simp [hasR, *], rfl⟩, hO⟩
 ·refine V1 rfl rfl rfl ?_
  repeat refine M2 ?_
  refine l_y rfl rfl (y_pick_f rfl rfl) (V2 rfl rfl rfl (K2 (K3 (K6 ?_))))
  exact fin1 rfl rfl ⟨_, ⟨by simp [hasR, *], rfl⟩, hO⟩
theorem rlong_spec {k : Ctx} {w : World} {ts : List ByteArray} {tp : Option Addr} {tc : Nat} (ht : Sli (Ro k) (.slice tp ts.length tc) (ts.map eS)) (hl : ts.length ≤ 1000000) (hO : Own k w []) :
  Tri Tryz.prog 62 #[.slice tp ts.length tc] k w fun v m => v = .bool (longB ts) ∧ m = [] := by
 refine enter (args := [.slice tp ts.length tc]) Tryz.func62 rfl rfl ?_
 have hgs := sli_gs ht
 refine K0 (K1 (V2 rfl rfl rfl (K2 (K3 (K0 (K0 (K1 (V2 rfl rfl rfl (K2 (K3 (K4 (c_rounds (X := Nat) (fun i => [(0, .slice tp ts.length tc), (2, .bool false), (3, .int .i64 (i : Int))]) (fun i w => Own k w [] ∧ (i ≤ ts.length ∧ longB (ts.take i) = false)) (fun i => ts.length - i) (0) ⟨rfl, rfl, rfl, trivial⟩ ⟨hO.only [], ⟨Nat.zero_le _, rfl⟩⟩ ?_))))))))))))
 rintro i w m hm ⟨hO, hi⟩
 refine K0 (K0 (K1 (V1 rfl rfl rfl (V1 rfl rfl rfl (l_y rfl rfl (y_lenL rfl) ?_)))))
 refine Z0 (fun h2_3 => ?_) (fun h2_3 => ?_)
 ·refine K2 (K3 (L8 (K5 (K3 (K0 (K4 (K0 (K1 (V1 rfl rfl rfl (V1 rfl rfl rfl (l_y rfl rfl (y_idx rfl rfl) ?_)))))))))))
  refine l_y rfl rfl (y_r1 (x0 := 0) (enc := eS) (xs := ts) hO rfl) ?_
  refine l_y rfl rfl (y_lenS rfl) ?_
  refine Z0 (fun h4_5 => ?_) (fun h4_5 => ?_)
  ·refine K2 (K3 (L8 (K0 (K1 (V2 rfl rfl rfl (K2 (K3 (K6 (L0 (K9 (K9 (L0 (K9 ?_)))))))))))))
   have hlt : longB ts = true := List.any_eq_true.2 ⟨at_ ts i, at_mem (by omega), decide_eq_true (by have h45 : (1048576 : Int) < ((at_ ts i).size : Int) := h4_5; omega)⟩
   exact fin1 rfl rfl ⟨_, ⟨by rw [hlt], rfl⟩, hO⟩
  ·refine K2 (K3 (L9 (K5 (K8 (K3 (K1 (V1 rfl rfl rfl (l_y rfl rfl (D4) ?_))))))))
   refine V2 rfl rfl rfl (K2 ?_)
   exact q_next (i + 1) ⟨rfl, rfl, rfl, trivial⟩ ⟨hO.only [], ⟨by omega, by rw [take_succ_at (by omega)]; simp only [longB, List.any_append, List.any_cons, List.any_nil, Bool.or_false, Bool.or_eq_false_iff]; exact ⟨hi.2, decide_eq_false (by have h45 : ¬ (1048576 : Int) < ((at_ ts i).size : Int) := h4_5; omega)⟩⟩⟩ (by omega)
 ·refine K2 (K3 (L9 (K7 (L1 (L1 (L2 (K3 (K0 (K1 (V2 rfl rfl rfl (K2 (K3 (K6 ?_)))))))))))))
  have hlf : longB ts = false := by rw [show ts = ts.take i by rw [List.take_of_length_le (by omega)]]; exact hi.2
  exact fin1 rfl rfl ⟨_, ⟨by rw [hlf], rfl⟩, hO⟩
def blankR (o : Ref01_one) : Ref01_one := { o with Inner := -1, Host := -1, Up := -1 }
set_option maxHeartbeats 1000000 in
theorem radd_spec {k : Ctx} {w : World} {r : Nat} {R : List Ref01_one} {p : Option Addr} {c : Nat} {o : Ref01_one} (hc : R.length ≤ 32768) (hO : Own k w [rB r p R.length c, rS p c R]) :
  Tri Tryz.prog 63 #[.pointer (some ⟨r, 0, none⟩), .agg (Ref01_one.cells o).toArray] k w fun v m =>
   (32768 ≤ R.length ∧ v = .tuple #[.int .i64 0, .int .i64 9] ∧ m = [rB r p R.length c, rS p c R]) ∨ (R.length < 32768 ∧ v = .tuple #[.int .i64 (R.length : Int), .int .i64 0] ∧ ∃ p' c', m = [rB r p' (R ++ [blankR o]).length c', rS p' c' (R ++ [blankR o])]) := by
 refine enter (args := [.pointer (some ⟨r, 0, none⟩), .agg (Ref01_one.cells o).toArray]) Tryz.func63 rfl rfl ?_
 have hg := (sls_fct (p := p) hO).2
 refine K0 (K1 (s_box (vs := [.int .i64 o.Kind, .int .i64 o.Space, .string o.Name, .slice o.AttrsP o.Attrs.length o.AttrsC, .string o.Data, .string o.System, .int .i64 o.Inner, .int .i64 o.Host, .int .i64 o.Up, .slice o.KidsP o.Kids.length o.KidsC]) hO rfl rfl rfl (by rfl) fun b3 w hO => ?_))
 refine V2 rfl rfl rfl (V2 rfl rfl rfl (K2 (K3 (K0 (K0 (K1 (V1 rfl rfl rfl (V3 rfl rfl rfl rfl (l_y rfl rfl (y_fldb (o' := 0) rfl) (l_y rfl rfl (D5 hO rfl) ?_))))))))))
 refine l_y rfl rfl (y_lenL rfl) ?_
 refine Z0 (fun h1_5 => ?_) (fun h1_5 => ?_)
 ·refine K2 (K3 (L8 (K0 (K1 (V2 rfl rfl rfl (V2 rfl rfl rfl (K2 (K3 (K6 (K9 ?_))))))))))
  exact fin2 rfl rfl rfl ⟨_, .inl ⟨by omega, rfl, rfl⟩, hO.only [.b r, .p p]⟩
 ·refine K2 (K3 (L9 (K5 (K3 (K0 (K1 (l_y rfl rfl (y_fldb (o' := 6) rfl) (Y1 hO rfl rfl (fun w hO => ?_)))))))))
  simp only [List.set_cons_zero, List.set_cons_succ] at hO
  refine K2 (K3 (K0 (K1 (l_y rfl rfl (y_fldb (o' := 7) rfl) (Y1 hO rfl rfl (fun w hO => ?_))))))
  simp only [List.set_cons_zero, List.set_cons_succ] at hO
  refine K2 (K3 (K0 (K1 (l_y rfl rfl (y_fldb (o' := 8) rfl) (Y1 hO rfl rfl (fun w hO => ?_))))))
  simp only [List.set_cons_zero, List.set_cons_succ] at hO
  refine K2 (K3 (K0 (da_region (by intro c a d v w h; cases d <;> exact h) ?_)))
  have hO := hO.drew
  refine da_phase _ [7] (SO.ks [.b r, .b b3] hO) ?_
  refine dx_u 0 (by kernel_rfl) rfl rfl rfl (fun w => y_move rfl) ?_
  refine dx_u 1 (by kernel_rfl) rfl rfl rfl (fun w => y_move rfl) ?_
  refine dx_u 2 (by kernel_rfl) rfl rfl rfl (fun w => y_nilCheck rfl rfl) ?_
  refine dx_u 3 (by kernel_rfl) rfl rfl rfl (fun w => y_fldb (o' := 0) rfl) ?_
  refine dx_y 4 (by kernel_rfl) rfl rfl rfl (fun w ⟨m, hw⟩ => D5 hw rfl) ?_
  refine dx_y 5 (by kernel_rfl) rfl rfl rfl (fun w ⟨m, hw⟩ => D8 (cs := [.int .i64 o.Kind, .int .i64 o.Space, .string o.Name, .slice o.AttrsP o.Attrs.length o.AttrsC, .string o.Data, .string o.System, .int .i64 (-1), .int .i64 (-1), .int .i64 (-1), .slice o.KidsP o.Kids.length o.KidsC]) hw rfl) ?_
  refine dx_only 6 (by kernel_rfl) rfl rfl ?_
  refine s_lit (parts := [(0, .tmp 20)]) (enc := Ref01_one.cells) [⟨o.Kind, o.Space, o.Name, o.AttrsP, o.Attrs, o.AttrsC, o.Data, o.System, (-1), (-1), (-1), o.KidsP, o.Kids, o.KidsC⟩] [.agg [.int .i64 o.Kind, .int .i64 o.Space, .string o.Name, .slice o.AttrsP o.Attrs.length o.AttrsC, .string o.Data, .string o.System, .int .i64 (-1), .int .i64 (-1), .int .i64 (-1), .slice o.KidsP o.Kids.length o.KidsC].toArray] hO rfl (fun b21 w hO => ?_)
  refine o_done (⟨SO.ks [.b r, .b b3] hO, ?_⟩)
  refine dx_close 7 (by kernel_rfl) rfl rfl ?_
  refine s_app hO rfl rfl (src_own hO) (fun p22 c22 w hO gs22 => ?_)
  refine o_done (da_phase _ [10] (SO.ks [] hO) ?_)
  refine dx_u 8 (by kernel_rfl) rfl rfl rfl (fun w => y_nilCheck rfl rfl) ?_
  refine dx_u 9 (by kernel_rfl) rfl rfl rfl (fun w => y_fldb (o' := 0) rfl) ?_
  refine dx_close 10 (by kernel_rfl) rfl rfl ?_
  refine Y1 hO rfl rfl (fun w hO => ?_)
  simp only [List.set_cons_zero, List.set_cons_succ] at hO
  refine o_done (da_end (by kernel_rfl) ?_)
  refine K3 (K0 (K1 (V1 rfl rfl rfl (V3 rfl rfl rfl rfl (l_y rfl rfl (y_fldb (o' := 0) rfl) (l_y rfl rfl (D5 hO rfl) ?_))))))
  refine l_y rfl rfl (y_lenL rfl) (l_y rfl rfl (D4 (h1 := by simp <;> omega) (h2 := by simp <;> omega)) ?_)
  refine V2 rfl rfl rfl (V2 rfl rfl rfl (K2 (K3 (K6 (fin2 rfl rfl rfl ⟨_, .inr ⟨by omega, ?_, p22, c22, rfl⟩, hO.only [.b r, .p p22]⟩)))))
  simp
end Go.Proofs.YtoohapbaelmkcaaGreat
end
section
set_option maxRecDepth 100000
namespace Go.Proofs.YtoohapbaelmkcaaGreat
open Go Go.Hb Go.RowKit
def raddR (R : List Ref01_one) (o : Ref01_one) (ts : List ByteArray) : Int × Int × List Ref01_one := if longB ts = true then (0, 2, R) else if 32768 ≤ R.length then (0, 9, R) else (R.length, 0, R ++ [blankR o])
def fragmentR : Ref01_one := ⟨5, 0, ⟨#[]⟩, none, [], 0, ⟨#[]⟩, ⟨#[]⟩, 0, 0, 0, none, [], 0⟩
def docR : Ref01_one := ⟨0, 0, ⟨#[]⟩, none, [], 0, ⟨#[]⟩, ⟨#[]⟩, -1, -1, -1, none, [], 0⟩
theorem rf_nil {F : Pl} {o : Ref01_one} (h1 : o.Attrs = []) (h2 : o.Kids = []) : RF1 F o := ⟨by rw [h1]; exact Sli.nil rfl, by rw [h2]; exact Sli.nil rfl⟩
theorem RF1.blank {F : Pl} {o : Ref01_one} (h : RF1 F o) : RF1 F (blankR o) := ⟨h.attrs, h.kids⟩
theorem rFragment_spec {k : Ctx} {w : World} {r : Nat} {R : List Ref01_one} (hc : R.length ≤ 32768) (hO : Own k w [rarL r R]) :
  Tri Tryz.prog 64 #[.pointer (some ⟨r, 0, none⟩)] k w fun v m => v = .tuple #[.int .i64 (raddR R fragmentR []).1, .int .i64 (raddR R fragmentR []).2.1] ∧ m = [rarL r (raddR R fragmentR []).2.2] := by
 refine enter (args := [.pointer (some ⟨r, 0, none⟩)]) Tryz.func64 rfl rfl ?_
 obtain ⟨p, c, F, hg, hF, hO⟩ := rarL_open hO
 have hc8 : longB [] = false := rfl
 refine K0 (K1 (V2 rfl rfl rfl (V2 rfl rfl rfl (K2 (K3 (K0 (K1 (V1 rfl rfl rfl (s_build (parts := [(0, .const (.int .i64 5))]) (cs := [.int .i64 5, .int .i64 0, .string ⟨#[]⟩, .slice none 0 0, .string ⟨#[]⟩, .string ⟨#[]⟩, .int .i64 0, .int .i64 0, .int .i64 0, .slice none 0 0]) rfl rfl (fun a ha => partsOf_sound ha _ _ rfl) (by kernel_rfl) (CK [.b r, .p p] hO rfl (fun k' hx hr hO' => radd_spec (o := (⟨5, 0, ⟨#[]⟩, none, [], 0, ⟨#[]⟩, ⟨#[]⟩, 0, 0, 0, none, [], 0⟩ : Ref01_one)) hc (hO := hO')) ?_))))))))))
 rintro _ _ w (⟨h9, rfl, rfl⟩ | ⟨h9, rfl, p2, c2, rfl⟩) hO
 ·simp only [List.cons_append, List.nil_append] at hO
  refine l_y rfl rfl (y_extract rfl rfl) (l_y rfl rfl (y_extract rfl rfl) (V2 rfl rfl rfl (V2 rfl rfl rfl (K2 (K3 (K6 ?_))))))
  have e : raddR R (fragmentR) [] = (0, 9, R) := by rw [raddR, if_neg (by rw [hc8]; simp), if_pos h9]
  exact fin2 rfl rfl rfl ⟨_, ⟨by rw [e], rfl⟩, by rw [e]; exact (rarL_shut hF (hO.ks [.b r, .p p, .f])).one⟩
 ·simp only [List.cons_append, List.nil_append] at hO
  refine l_y rfl rfl (y_extract rfl rfl) (l_y rfl rfl (y_extract rfl rfl) (V2 rfl rfl rfl (V2 rfl rfl rfl (K2 (K3 (K6 ?_))))))
  have e : raddR R (fragmentR) [] = ((R.length : Int), 0, R ++ [blankR (fragmentR)]) := by rw [raddR, if_neg (by rw [hc8]; simp), if_neg (by omega)]
  exact fin2 rfl rfl rfl ⟨_, ⟨by rw [e], rfl⟩, by rw [e]; exact (rarL_shut (hF.app (rf_nil rfl rfl).blank) (hO.ks [.b r, .p p2, .f])).one⟩
theorem rNew_spec {k : Ctx} {w : World} (hO : Own k w []) : Tri Tryz.prog 25 #[] k w fun v m => ∃ r, v = .pointer (some ⟨r, 0, none⟩) ∧ m = [rarL r [docR]] := by
 refine enter (args := []) Tryz.func25 rfl rfl ?_
 have hO := hO.pool0
 refine K0 (K1 (V2 rfl rfl rfl (K2 (K3 (K0 (K1 (s_build (parts := [(0, .const (.int .i64 0)), (6, .const (.int .i64 (-1))), (7, .const (.int .i64 (-1))), (8, .const (.int .i64 (-1)))]) (cs := [.int .i64 0, .int .i64 0, .string ⟨#[]⟩, .slice none 0 0, .string ⟨#[]⟩, .string ⟨#[]⟩, .int .i64 (-1), .int .i64 (-1), .int .i64 (-1), .slice none 0 0]) rfl rfl (fun a ha => partsOf_sound ha _ _ rfl) (by kernel_rfl) (s_lit (parts := [(0, .tmp 1)]) (enc := Ref01_one.cells) [⟨0, 0, ⟨#[]⟩, none, [], 0, ⟨#[]⟩, ⟨#[]⟩, (-1), (-1), (-1), none, [], 0⟩] [.agg [.int .i64 0, .int .i64 0, .string ⟨#[]⟩, .slice none 0 0, .string ⟨#[]⟩, .string ⟨#[]⟩, .int .i64 (-1), .int .i64 (-1), .int .i64 (-1), .slice none 0 0].toArray] hO rfl (fun b2 w hO => ?_)))))))))
 refine s_build (parts := [(0, .tmp 2)]) (cs := [.slice (some ⟨b2, 0, none⟩) 1 1]) rfl rfl (fun a ha => partsOf_sound ha _ _ rfl) (by kernel_rfl) (s_box (vs := [.slice (some ⟨b2, 0, none⟩) 1 1]) hO rfl rfl rfl (by rfl) fun b4 w hO => ?_)
 refine V2 rfl rfl rfl (K2 (K3 (K6 ?_)))
 exact fin1 rfl rfl ⟨_, ⟨_, rfl, rfl⟩, (rarL_shut (fun o ho => by rw [List.mem_singleton.1 ho]; exact rf_nil rfl rfl) (hO.ks [.b b4, .p (some ⟨b2, 0, none⟩), .f])).one⟩
end Go.Proofs.YtoohapbaelmkcaaGreat
end
section
set_option maxRecDepth 100000
namespace Go.Proofs.YtoohapbaelmkcaaGreat
open Go Go.Hb Go.RowKit
def elR (q : Option Addr) (d : Nat) (sp : Int) (nm : ByteArray) (xs : List Api_attr) : Ref01_one := ⟨1, sp, nm, q, xs, d, ⟨#[]⟩, ⟨#[]⟩, 0, 0, 0, none, [], 0⟩
def setInnerR (R : List Ref01_one) (i v : Int) : List Ref01_one := R.set i.toNat { at_ R i.toNat with Inner := v }
def setHostR (R : List Ref01_one) (i v : Int) : List Ref01_one := R.set i.toNat { at_ R i.toNat with Host := v }
theorem RF.inner {F : Pl} {R : List Ref01_one} (h : RF F R) {i v : Int} (hi : i.toNat < R.length) : RF F (setInnerR R i v) := h.set ⟨(h.atR hi).attrs, (h.atR hi).kids⟩
theorem RF.host {F : Pl} {R : List Ref01_one} (h : RF F R) {i v : Int} (hi : i.toNat < R.length) : RF F (setHostR R i v) := h.set ⟨(h.atR hi).attrs, (h.atR hi).kids⟩
def elementR (R : List Ref01_one) (sp : Int) (nm : ByteArray) (xs : List Api_attr) (q : Option Addr) (d : Nat) : Int × Int × List Ref01_one :=
 if sp < 0 ∨ 2 < sp then (0, 1, R) else if 1024 < xs.length then (0, 2, R)
 else if longB (nm :: attrTexts xs) = true then (0, 2, R) else if tmpl sp nm ∧ 32767 ≤ R.length then (0, 9, R) else if 32768 ≤ R.length then (0, 9, R)
 else if tmpl sp nm then (R.length, 0, setHostR (setInnerR (R ++ [blankR (elR q d sp nm xs)] ++ [blankR fragmentR]) R.length (R ++ [blankR (elR q d sp nm xs)]).length) (R ++ [blankR (elR q d sp nm xs)]).length R.length)
 else (R.length, 0, R ++ [blankR (elR q d sp nm xs)])
theorem rFragOk_spec {k : Ctx} {w : World} {r : Nat} {R : List Ref01_one} (hc : R.length < 32768) (hO : Own k w [rarL r R]) :
  Tri Tryz.prog 64 #[.pointer (some ⟨r, 0, none⟩)] k w fun v m => v = .tuple #[.int .i64 ((R.length : Nat) : Int), .int .i64 0] ∧ m = [rarL r (R ++ [blankR fragmentR])] := by
 refine (rFragment_spec (by omega) hO).mono ?_
 rintro v m ⟨rfl, rfl⟩
 have e : raddR R fragmentR [] = ((R.length : Int), 0, R ++ [blankR fragmentR]) := by rw [raddR, if_neg (by simp [longB]), if_neg (by omega)]
 rw [e]; exact ⟨rfl, rfl⟩
set_option maxHeartbeats 4000000 in
theorem rElement_spec {k : Ctx} {w : World} {r : Nat} {R : List Ref01_one} {sp : Int} {nm : ByteArray} {xs : List Api_attr} {ap : Option Addr} {ac : Nat} (hc : R.length ≤ 32768) (hs : Sli (Ro k) (.slice ap xs.length ac) (xs.map Api_attr.cells)) (hO : Own k w [rarL r R]) :
    Tri Tryz.prog 28 #[.pointer (some ⟨r, 0, none⟩), .int .i64 sp, .string nm, .slice ap xs.length ac] k w fun v m => ∃ q d, v = .tuple #[.int .i64 (elementR R sp nm xs q d).1, .int .i64 (elementR R sp nm xs q d).2.1] ∧ m = [rarL r (elementR R sp nm xs q d).2.2] := by
  refine enter (args := [.pointer (some ⟨r, 0, none⟩), .int .i64 sp, .string nm, .slice ap xs.length ac]) Tryz.func28 rfl rfl ?_
  have hgs := sli_gs hs
  obtain ⟨p, c, F, hg, hF, hO⟩ := rarL_open hO
  refine K0 (K1 (V2 rfl rfl rfl (V2 rfl rfl rfl (K2 (K3 (K0 (K0 (K1 (V1 rfl rfl rfl ?_)))))))))
  refine Z0 (fun h1_1 => ?_) (fun h1_1 => ?_)
  · refine V1 rfl rfl rfl ?_
    repeat refine M2 ?_
    refine l_y rfl rfl (y_pick_t rfl rfl) (K2 (K3 (L8 (K0 (K1 (V2 rfl rfl rfl (V2 rfl rfl rfl (K2 (K3 (K6 (K9 ?_)))))))))))
    have e : elementR R sp nm xs none 0 = (0, 1, R) := by rw [elementR, if_pos (by omega)]
    exact fin2 rfl rfl rfl ⟨_, ⟨none, 0, by rw [e], rfl⟩, by rw [e]; exact (rarL_shut hF hO).one⟩
  · refine V1 rfl rfl rfl (V1 rfl rfl rfl ?_)
    refine Z0 (fun h1_4 => ?_) (fun h1_4 => ?_)
    · refine l_y rfl rfl (y_pick_f rfl rfl) (K2 (K3 (L8 (K0 (K1 (V2 rfl rfl rfl (V2 rfl rfl rfl (K2 (K3 (K6 (K9 ?_)))))))))))
      have e : elementR R sp nm xs none 0 = (0, 1, R) := by rw [elementR, if_pos (by omega)]
      exact fin2 rfl rfl rfl ⟨_, ⟨none, 0, by rw [e], rfl⟩, by rw [e]; exact (rarL_shut hF hO).one⟩
    · refine l_y rfl rfl (y_pick_f rfl rfl) (K2 (K3 (L9 (K5 (K3 (K0 (K0 (K1 (V1 rfl rfl rfl (l_y rfl rfl (y_lenL rfl) ?_))))))))))
      refine Z0 (fun h3_2 => ?_) (fun h3_2 => ?_)
      · refine V1 rfl rfl rfl ?_
        repeat refine M2 ?_
        refine l_y rfl rfl (y_pick_t rfl rfl) (K2 (K3 (L8 (K0 (K1 (V2 rfl rfl rfl (V2 rfl rfl rfl (K2 (K3 (K6 (K9 ?_)))))))))))
        have e : elementR R sp nm xs none 0 = (0, 2, R) := by
          rw [elementR, if_neg (by omega)]
          by_cases hl : 1024 < xs.length
          · rw [if_pos hl]
          · rw [if_neg hl, if_pos (by simp [longB]; left; omega)]
        exact fin2 rfl rfl rfl ⟨_, ⟨none, 0, by rw [e], rfl⟩, by rw [e]; exact (rarL_shut hF hO).one⟩
      · refine V1 rfl rfl rfl (V1 rfl rfl rfl (l_y rfl rfl (y_lenS rfl) ?_))
        refine Z0 (fun h3_6 => ?_) (fun h3_6 => ?_)
        · refine l_y rfl rfl (y_pick_f rfl rfl) (K2 (K3 (L8 (K0 (K1 (V2 rfl rfl rfl (V2 rfl rfl rfl (K2 (K3 (K6 (K9 ?_)))))))))))
          have e : elementR R sp nm xs none 0 = (0, 2, R) := by
            rw [elementR, if_neg (by omega)]
            by_cases hl : 1024 < xs.length
            · rw [if_pos hl]
            · rw [if_neg hl, if_pos (by simp [longB]; left; omega)]
          exact fin2 rfl rfl rfl ⟨_, ⟨none, 0, by rw [e], rfl⟩, by rw [e]; exact (rarL_shut hF hO).one⟩
        · refine l_y rfl rfl (y_pick_f rfl rfl) (K2 (K3 (L9 (K5 (K3 (K0 (K0 (K1 (V2 rfl rfl rfl (K2 (K3 (K4 (c_rounds (X := Nat) (fun i => [(0, .pointer (some ⟨r, 0, none⟩)), (1, .int .i64 sp), (2, .string nm), (3, .slice ap xs.length ac), (8, .int .i64 0), (9, .int .i64 0), (10, .int .i64 (i : Int))]) (fun i w => Own k w [rB r p R.length c, rS p c R, pool F] ∧ (i ≤ xs.length ∧ longB (attrTexts (xs.take i)) = false)) (fun i => xs.length - i) (0) ⟨rfl, rfl, rfl, rfl, rfl, rfl, rfl, trivial⟩ ⟨hO.only [.b r, .p p, .f], ⟨Nat.zero_le _, rfl⟩⟩ ?_)))))))))))))
          rintro i w m hm ⟨hO, hi⟩
          refine K0 (K0 (K1 (V1 rfl rfl rfl (V1 rfl rfl rfl (l_y rfl rfl (y_lenL rfl) ?_)))))
          refine Z0 (fun h6_3 => ?_) (fun h6_3 => ?_)
          · refine K2 (K3 (L8 (K5 (K3 (K0 (K4 (K0 (da_region (by intro c a d v w h; cases d <;> exact h) ?_))))))))
            have hO := hO.drew
            refine da_phase _ [15] (SO.ks [] hO) ?_
            refine dx_u 0 (by kernel_rfl) rfl rfl rfl (fun w => y_move rfl) ?_
            refine dx_u 1 (by kernel_rfl) rfl rfl rfl (fun w => y_move rfl) ?_
            refine dx_u 2 (by kernel_rfl) rfl rfl rfl (fun w => y_idx rfl rfl) ?_
            refine dx_u 3 (by kernel_rfl) rfl rfl rfl (fun w => y_fld (j' := 1) rfl) ?_
            refine dx_y 4 (by kernel_rfl) rfl rfl rfl (fun w ⟨m, hw⟩ => y_r1 (x0 := 1) (enc := Api_attr.cells) (xs := xs) hw rfl) ?_
            refine dx_u 5 (by kernel_rfl) rfl rfl rfl (fun w => y_move rfl) ?_
            refine dx_u 6 (by kernel_rfl) rfl rfl rfl (fun w => y_move rfl) ?_
            refine dx_u 7 (by kernel_rfl) rfl rfl rfl (fun w => y_idx rfl rfl) ?_
            refine dx_u 8 (by kernel_rfl) rfl rfl rfl (fun w => y_fld (j' := 2) rfl) ?_
            refine dx_y 9 (by kernel_rfl) rfl rfl rfl (fun w ⟨m, hw⟩ => y_r1 (x0 := 2) (enc := Api_attr.cells) (xs := xs) hw rfl) ?_
            refine dx_u 10 (by kernel_rfl) rfl rfl rfl (fun w => y_move rfl) ?_
            refine dx_u 11 (by kernel_rfl) rfl rfl rfl (fun w => y_move rfl) ?_
            refine dx_u 12 (by kernel_rfl) rfl rfl rfl (fun w => y_idx rfl rfl) ?_
            refine dx_u 13 (by kernel_rfl) rfl rfl rfl (fun w => y_fld (j' := 3) rfl) ?_
            refine dx_y 14 (by kernel_rfl) rfl rfl rfl (fun w ⟨m, hw⟩ => y_r1 (x0 := 3) (enc := Api_attr.cells) (xs := xs) hw rfl) ?_
            refine dx_close 15 (by kernel_rfl) rfl rfl ?_
            refine s_lit (parts := [(0, .tmp 40), (1, .tmp 45), (2, .tmp 50)]) (enc := eS) [(at_ xs ((i : Int) : Int).toNat).Prefix, (at_ xs ((i : Int) : Int).toNat).Name, (at_ xs ((i : Int) : Int).toNat).Value] [.string (at_ xs ((i : Int) : Int).toNat).Prefix, .string (at_ xs ((i : Int) : Int).toNat).Name, .string (at_ xs ((i : Int) : Int).toNat).Value] hO rfl (fun b51 w hO => ?_)
            refine o_done (da_only 16 (by kernel_rfl) rfl ?_)
            refine CK [] hO rfl (fun k' hx hr hO' => rlong_spec (ts := [(at_ xs i).Prefix, (at_ xs i).Name, (at_ xs i).Value]) (sls_roK (p := some ⟨b51, 0, none⟩) hr (sls_fct hO)) (by simp) (hO := hO')) ?_
            rintro _ _ w ⟨rfl, rfl⟩ hO
            simp only [List.nil_append] at hO
            refine o_done (da_end (by kernel_rfl) ?_)
            refine K3 ?_
            refine c_split rfl (fun hc52 => ?_) (fun hc52 => ?_)
            · refine K0 (K1 (V2 rfl rfl rfl (V2 rfl rfl rfl (K2 (K3 (K6 (L0 (K9 (K9 (L0 (K9 ?_)))))))))))
              have hlt : longB (nm :: attrTexts xs) = true := by
                obtain ⟨s, hs1, hs2⟩ := List.any_eq_true.1 hc52
                refine List.any_eq_true.2 ⟨s, List.mem_cons_of_mem _ (List.mem_flatMap.2 ⟨at_ xs i, at_mem (by omega), hs1⟩), hs2⟩
              have e : elementR R sp nm xs none 0 = (0, 2, R) := by rw [elementR, if_neg (by omega), if_neg (by omega), if_pos hlt]
              exact fin2 rfl rfl rfl ⟨_, ⟨none, 0, by rw [e], rfl⟩, by rw [e]; exact (rarL_shut hF (hO.ks [.b r, .p p, .f])).one⟩
            · refine K5 (K8 (K3 (K1 (V1 rfl rfl rfl (l_y rfl rfl (D4) ?_)))))
              refine V2 rfl rfl rfl (K2 ?_)
              exact q_next (i + 1) ⟨rfl, rfl, rfl, rfl, rfl, rfl, rfl, trivial⟩ ⟨hO.only [.b r, .p p, .f], ⟨by omega, by rw [take_succ_at (by omega)]; simp only [attrTexts, List.flatMap_append, List.flatMap_cons, List.flatMap_nil, List.append_nil, longB, List.any_append, Bool.or_eq_false_iff] at hi hc52 ⊢; exact ⟨hi.2, hc52⟩⟩⟩ (by omega)
          · refine K2 (K3 (L9 (K7 (L1 (L1 (L2 (K3 (K0 ?_))))))))
            have hlf : ¬ longB (nm :: attrTexts xs) = true := by
              have h := hi.2
              rw [show xs.take i = xs by rw [List.take_of_length_le (by omega)]] at h
              simp only [longB, List.any_cons, Bool.or_eq_true, not_or] at h ⊢
              refine ⟨?_, by rw [h]; simp⟩
              simp; omega
            refine K1 (V1 rfl rfl rfl ?_)
            refine Z0 (fun h10_1 => ?_) (fun h10_1 => ?_)
            · refine V1 rfl rfl rfl (V1 rfl rfl rfl ?_)
              refine Z2 (fun h10_4 => ?_) (fun h10_4 => ?_)
              · refine l_y rfl rfl (y_pick_t rfl rfl) (V2 rfl rfl rfl (K2 (K3 (K0 (K0 (K1 (V1 rfl rfl rfl (V1 rfl rfl rfl (V1 rfl rfl rfl (V3 rfl rfl rfl rfl (l_y rfl rfl (y_fldb (o' := 0) rfl) (l_y rfl rfl (D5 hO rfl) ?_))))))))))))
                refine l_y rfl rfl (y_lenL rfl) (l_y rfl rfl (D4) ?_)
                refine Z0 (fun h11_8 => ?_) (fun h11_8 => ?_)
                · refine l_y rfl rfl (y_pick_t rfl rfl) (K2 (K3 (L8 (K0 (K1 (V2 rfl rfl rfl (V2 rfl rfl rfl (K2 (K3 (K6 (K9 ?_)))))))))))
                  have e : elementR R sp nm xs none 0 = (0, 9, R) := by rw [elementR, if_neg (by omega), if_neg (by omega), if_neg hlf, if_pos ⟨⟨h10_1, h10_4⟩, by omega⟩]
                  exact fin2 rfl rfl rfl ⟨_, ⟨none, 0, by rw [e], rfl⟩, by rw [e]; exact (rarL_shut hF (hO.ks [.b r, .p p, .f])).one⟩
                · refine l_y rfl rfl (y_pick_t rfl rfl) (K2 (K3 (L9 (K5 (K3 (K0 (K1 (V1 rfl rfl rfl (V1 rfl rfl rfl (V1 rfl rfl rfl (s_lit0 Api_attr.cells hO (fun b73 w hO => ?_))))))))))))
                  refine V1 rfl rfl rfl (s_app0 hO rfl rfl (src_ro hO (by assumption)) (fun p75 c75 w hO gs75 => ?_))
                  refine s_build (parts := [(0, .const (.int .i64 1)), (1, .tmp 71), (2, .tmp 72), (3, .tmp 75)]) (cs := [.int .i64 1, .int .i64 sp, .string nm, .slice p75 xs.length c75, .string ⟨#[]⟩, .string ⟨#[]⟩, .int .i64 0, .int .i64 0, .int .i64 0, .slice none 0 0]) rfl rfl (fun a ha => partsOf_sound ha _ _ rfl) (by kernel_rfl) ?_
                  obtain ⟨F2, hle, hO, hsa⟩ := (hO.ks [.p p75, .f]).pooled
                  have hF2 := hF.le hle
                  have hRF : RF1 F2 (blankR (elR p75 c75 sp nm xs)) := ⟨hsa, Sli.nil rfl⟩
                  refine CK [.b r, .p p] hO rfl (fun k' hx hr hO' => radd_spec (o := elR p75 c75 sp nm xs) hc (hO := hO')) ?_
                  rintro _ _ w (⟨h9, rfl, rfl⟩ | ⟨h9, rfl, p2, c2, rfl⟩) hO
                  · simp only [List.cons_append, List.nil_append] at hO
                    refine V1 rfl rfl rfl (l_y rfl rfl (y_extract rfl rfl) (l_y rfl rfl (y_extract rfl rfl) (V2 rfl rfl rfl (V2 rfl rfl rfl (K2 (K3 (K0 (K0 (K1 (V1 rfl rfl rfl (N3 (V1 rfl rfl rfl ?_))))))))))))
                    repeat refine M2 ?_
                    refine l_y rfl rfl (y_pick_f rfl rfl) (K2 (K3 (L9 (K5 (K3 (K0 (K1 (V1 rfl rfl rfl (V1 rfl rfl rfl (V2 rfl rfl rfl (V2 rfl rfl rfl (K2 (K3 (K6 ?_))))))))))))))
                    have e : elementR R sp nm xs none 0 = (0, 9, R) := by
                      rw [elementR, if_neg (by omega), if_neg (by omega), if_neg hlf]
                      by_cases ht : tmpl sp nm ∧ 32767 ≤ R.length
                      · rw [if_pos ht]
                      · rw [if_neg ht, if_pos h9]
                    exact fin2 rfl rfl rfl ⟨_, ⟨none, 0, by rw [e], rfl⟩, by rw [e]; exact (rarL_shut hF2 (hO.ks [.b r, .p p, .f])).one⟩
                  · simp only [List.cons_append, List.nil_append] at hO
                    refine V1 rfl rfl rfl (l_y rfl rfl (y_extract rfl rfl) (l_y rfl rfl (y_extract rfl rfl) (V2 rfl rfl rfl (V2 rfl rfl rfl (K2 (K3 (K0 (K0 (K1 (V1 rfl rfl rfl (N2 (V1 rfl rfl rfl (V1 rfl rfl rfl (l_y rfl rfl (y_pick_t rfl rfl) (K2 (K3 (L8 (K0 ?_))))))))))))))))))
                    have hO := (rarL_shut (hF2.app hRF) (hO.ks [.b r, .p p2, .f]))
                    refine K1 (V1 rfl rfl rfl (CK [.o r] hO rfl (fun k' hx hr hO' => rFragOk_spec (by simp; omega) (hO := hO')) ?_))
                    rintro _ _ w ⟨rfl, rfl⟩ hO
                    simp only [List.cons_append, List.nil_append] at hO
                    obtain ⟨p3, c3, F3, hg3, hF3, hO⟩ := rarL_open hO
                    refine V1 rfl rfl rfl (l_y rfl rfl (y_extract rfl rfl) (l_y rfl rfl (y_extract rfl rfl) (V2 rfl rfl rfl (V2 rfl rfl rfl (K2 (K3 (K0 ?_)))))))
                    have hl0 : (R ++ [blankR (elR p75 c75 sp nm xs)]).length = R.length + 1 := by simp
                    have hl1 : (R ++ [blankR (elR p75 c75 sp nm xs)] ++ [blankR fragmentR]).length = R.length + 2 := by simp
                    refine K1 (V1 rfl rfl rfl (V3 rfl rfl rfl rfl (l_y rfl rfl (y_fldb (o' := 0) rfl) (l_y rfl rfl (D5 hO rfl) ?_))))
                    refine V1 rfl rfl rfl (V1 rfl rfl rfl (l_y rfl rfl (y_idx rfl rfl) ?_))
                    refine l_y rfl rfl (y_fld (j' := 6) rfl) ?_
                    refine s_e1 (x0 := 6) hO rfl rfl (fun w hO => ?_)
                    refine K2 (K3 (K1 (V1 rfl rfl rfl (V3 rfl rfl rfl rfl (l_y rfl rfl (y_fldb (o' := 0) rfl) (l_y rfl rfl (D5 hO rfl) ?_))))))
                    refine V1 rfl rfl rfl (V1 rfl rfl rfl (l_y rfl rfl (y_idx rfl rfl) ?_))
                    refine l_y rfl rfl (y_fld (j' := 7) rfl) ?_
                    refine s_e1 (x0 := 7) hO rfl rfl (fun w hO => ?_)
                    refine K2 (K3 (K0 (K1 (V1 rfl rfl rfl (V1 rfl rfl rfl (V2 rfl rfl rfl (V2 rfl rfl rfl (K2 (K3 (K6 ?_))))))))))
                    have e : elementR R sp nm xs p75 c75 = ((R.length : Int), 0, setHostR (setInnerR (R ++ [blankR (elR p75 c75 sp nm xs)] ++ [blankR fragmentR]) R.length (R ++ [blankR (elR p75 c75 sp nm xs)]).length) (R ++ [blankR (elR p75 c75 sp nm xs)]).length R.length) := by
                      rw [elementR, if_neg (by omega), if_neg (by omega), if_neg hlf, if_neg (by omega), if_neg (by omega), if_pos ⟨h10_1, h10_4⟩]
                    have hF4 := (hF3.inner (i := (R.length : Int)) (v := (R ++ [blankR (elR p75 c75 sp nm xs)]).length) (by omega)).host (i := (R ++ [blankR (elR p75 c75 sp nm xs)]).length) (v := R.length) (by simp only [setInnerR, List.length_set]; omega)
                    exact fin2 rfl rfl rfl ⟨_, ⟨p75, c75, by rw [e], rfl⟩, by rw [e]; exact (rarL_shut hF4 (hO.ks [.b r, .p p3, .f]) (by simp [setHostR, setInnerR])).one⟩
              · refine l_y rfl rfl (y_pick_t rfl rfl) (V2 rfl rfl rfl (K2 (K3 (K0 (K0 (K1 (V1 rfl rfl rfl (V1 rfl rfl rfl ?_))))))))
                repeat refine M2 ?_
                refine l_y rfl rfl (y_pick_f rfl rfl) (K2 (K3 (L9 (K5 (K3 (K0 (K1 (V1 rfl rfl rfl (V1 rfl rfl rfl (V1 rfl rfl rfl (s_lit0 Api_attr.cells hO (fun b73 w hO => ?_))))))))))))
                refine V1 rfl rfl rfl (s_app0 hO rfl rfl (src_ro hO (by assumption)) (fun p75 c75 w hO gs75 => ?_))
                refine s_build (parts := [(0, .const (.int .i64 1)), (1, .tmp 71), (2, .tmp 72), (3, .tmp 75)]) (cs := [.int .i64 1, .int .i64 sp, .string nm, .slice p75 xs.length c75, .string ⟨#[]⟩, .string ⟨#[]⟩, .int .i64 0, .int .i64 0, .int .i64 0, .slice none 0 0]) rfl rfl (fun a ha => partsOf_sound ha _ _ rfl) (by kernel_rfl) ?_
                obtain ⟨F2, hle, hO, hsa⟩ := (hO.ks [.p p75, .f]).pooled
                have hF2 := hF.le hle
                have hRF : RF1 F2 (blankR (elR p75 c75 sp nm xs)) := ⟨hsa, Sli.nil rfl⟩
                refine CK [.b r, .p p] hO rfl (fun k' hx hr hO' => radd_spec (o := elR p75 c75 sp nm xs) hc (hO := hO')) ?_
                rintro _ _ w (⟨h9, rfl, rfl⟩ | ⟨h9, rfl, p2, c2, rfl⟩) hO
                · simp only [List.cons_append, List.nil_append] at hO
                  refine V1 rfl rfl rfl (l_y rfl rfl (y_extract rfl rfl) (l_y rfl rfl (y_extract rfl rfl) (V2 rfl rfl rfl (V2 rfl rfl rfl (K2 (K3 (K0 (K0 (K1 (V1 rfl rfl rfl (N3 (V1 rfl rfl rfl ?_))))))))))))
                  repeat refine M2 ?_
                  refine l_y rfl rfl (y_pick_f rfl rfl) (K2 (K3 (L9 (K5 (K3 (K0 (K1 (V1 rfl rfl rfl (V1 rfl rfl rfl (V2 rfl rfl rfl (V2 rfl rfl rfl (K2 (K3 (K6 ?_))))))))))))))
                  have e : elementR R sp nm xs none 0 = (0, 9, R) := by
                    rw [elementR, if_neg (by omega), if_neg (by omega), if_neg hlf]
                    by_cases ht : tmpl sp nm ∧ 32767 ≤ R.length
                    · rw [if_pos ht]
                    · rw [if_neg ht, if_pos h9]
                  exact fin2 rfl rfl rfl ⟨_, ⟨none, 0, by rw [e], rfl⟩, by rw [e]; exact (rarL_shut hF2 (hO.ks [.b r, .p p, .f])).one⟩
                · simp only [List.cons_append, List.nil_append] at hO
                  refine V1 rfl rfl rfl (l_y rfl rfl (y_extract rfl rfl) (l_y rfl rfl (y_extract rfl rfl) (V2 rfl rfl rfl (V2 rfl rfl rfl (K2 (K3 (K0 (K0 (K1 (V1 rfl rfl rfl (N2 (V1 rfl rfl rfl (V1 rfl rfl rfl (l_y rfl rfl (y_pick_t rfl rfl) (K2 (K3 (L9 (K5 (K3 (K0 (K1 (V1 rfl rfl rfl (V1 rfl rfl rfl (V2 rfl rfl rfl (V2 rfl rfl rfl (K2 (K3 (K6 ?_))))))))))))))))))))))))))))
                  have hnt : ¬ tmpl sp nm := by rintro ⟨q1, q2⟩; first | exact h10_1 q1 | exact h10_4 q2
                  have e : elementR R sp nm xs p75 c75 = ((R.length : Int), 0, R ++ [blankR (elR p75 c75 sp nm xs)]) := by rw [elementR, if_neg (by omega), if_neg (by omega), if_neg hlf, if_neg (fun h => hnt h.1), if_neg (by omega), if_neg hnt]
                  exact fin2 rfl rfl rfl ⟨_, ⟨p75, c75, by rw [e], rfl⟩, by rw [e]; exact (rarL_shut (hF2.app hRF) (hO.ks [.b r, .p p2, .f])).one⟩
            · refine V1 rfl rfl rfl ?_
              repeat refine M2 ?_
              refine l_y rfl rfl (y_pick_f rfl rfl) (V2 rfl rfl rfl (K2 (K3 (K0 (K0 (K1 (V1 rfl rfl rfl (V1 rfl rfl rfl ?_))))))))
              repeat refine M2 ?_
              refine l_y rfl rfl (y_pick_f rfl rfl) (K2 (K3 (L9 (K5 (K3 (K0 (K1 (V1 rfl rfl rfl (V1 rfl rfl rfl (V1 rfl rfl rfl (s_lit0 Api_attr.cells hO (fun b73 w hO => ?_))))))))))))
              refine V1 rfl rfl rfl (s_app0 hO rfl rfl (src_ro hO (by assumption)) (fun p75 c75 w hO gs75 => ?_))
              refine s_build (parts := [(0, .const (.int .i64 1)), (1, .tmp 71), (2, .tmp 72), (3, .tmp 75)]) (cs := [.int .i64 1, .int .i64 sp, .string nm, .slice p75 xs.length c75, .string ⟨#[]⟩, .string ⟨#[]⟩, .int .i64 0, .int .i64 0, .int .i64 0, .slice none 0 0]) rfl rfl (fun a ha => partsOf_sound ha _ _ rfl) (by kernel_rfl) ?_
              obtain ⟨F2, hle, hO, hsa⟩ := (hO.ks [.p p75, .f]).pooled
              have hF2 := hF.le hle
              have hRF : RF1 F2 (blankR (elR p75 c75 sp nm xs)) := ⟨hsa, Sli.nil rfl⟩
              refine CK [.b r, .p p] hO rfl (fun k' hx hr hO' => radd_spec (o := elR p75 c75 sp nm xs) hc (hO := hO')) ?_
              rintro _ _ w (⟨h9, rfl, rfl⟩ | ⟨h9, rfl, p2, c2, rfl⟩) hO
              · simp only [List.cons_append, List.nil_append] at hO
                refine V1 rfl rfl rfl (l_y rfl rfl (y_extract rfl rfl) (l_y rfl rfl (y_extract rfl rfl) (V2 rfl rfl rfl (V2 rfl rfl rfl (K2 (K3 (K0 (K0 (K1 (V1 rfl rfl rfl (N3 (V1 rfl rfl rfl ?_))))))))))))
                repeat refine M2 ?_
                refine l_y rfl rfl (y_pick_f rfl rfl) (K2 (K3 (L9 (K5 (K3 (K0 (K1 (V1 rfl rfl rfl (V1 rfl rfl rfl (V2 rfl rfl rfl (V2 rfl rfl rfl (K2 (K3 (K6 ?_))))))))))))))
                have e : elementR R sp nm xs none 0 = (0, 9, R) := by
                  rw [elementR, if_neg (by omega), if_neg (by omega), if_neg hlf]
                  by_cases ht : tmpl sp nm ∧ 32767 ≤ R.length
                  · rw [if_pos ht]
                  · rw [if_neg ht, if_pos h9]
                exact fin2 rfl rfl rfl ⟨_, ⟨none, 0, by rw [e], rfl⟩, by rw [e]; exact (rarL_shut hF2 (hO.ks [.b r, .p p, .f])).one⟩
              · simp only [List.cons_append, List.nil_append] at hO
                refine V1 rfl rfl rfl (l_y rfl rfl (y_extract rfl rfl) (l_y rfl rfl (y_extract rfl rfl) (V2 rfl rfl rfl (V2 rfl rfl rfl (K2 (K3 (K0 (K0 (K1 (V1 rfl rfl rfl (N2 (V1 rfl rfl rfl (V1 rfl rfl rfl (l_y rfl rfl (y_pick_t rfl rfl) (K2 (K3 (L9 (K5 (K3 (K0 (K1 (V1 rfl rfl rfl (V1 rfl rfl rfl (V2 rfl rfl rfl (V2 rfl rfl rfl (K2 (K3 (K6 ?_))))))))))))))))))))))))))))
                have hnt : ¬ tmpl sp nm := by rintro ⟨q1, q2⟩; first | exact h10_1 q1 | exact h10_4 q2
                have e : elementR R sp nm xs p75 c75 = ((R.length : Int), 0, R ++ [blankR (elR p75 c75 sp nm xs)]) := by rw [elementR, if_neg (by omega), if_neg (by omega), if_neg hlf, if_neg (fun h => hnt h.1), if_neg (by omega), if_neg hnt]
                exact fin2 rfl rfl rfl ⟨_, ⟨p75, c75, by rw [e], rfl⟩, by rw [e]; exact (rarL_shut (hF2.app hRF) (hO.ks [.b r, .p p2, .f])).one⟩
end Go.Proofs.YtoohapbaelmkcaaGreat
end
section
namespace Go.Proofs.YtoohapbaelmkcaaGreat
open Go Go.Hb Go.RowKit
abbrev nodeA (A : List Node_one) (x : Int) : Api_node := (at_ A x.toNat).Node
def InA (A : List Node_one) (x : Int) : Prop := 0 ≤ x ∧ x < A.length
theorem inA_iff {A : List Node_one} {x : Int} : hasB A x = true ↔ InA A x := by simp [hasB, InA]
theorem InA.b {A : List Node_one} {x : Int} (h : InA A x) : hasB A x = true := inA_iff.2 h
/-- what is no link -/
def coreN (o : Node_one) : Node_one := { o with Node := { o.Node with Parent := 0, First := 0, Last := 0, Prev := 0, Next := 0 } }
theorem at_setI {A : List Node_one} {i y : Int} (hi : InA A i) (hy : 0 ≤ y) (v : Node_one) : at_ (A.set i.toNat v) y.toNat = if y = i then v else at_ A y.toNat := by
 obtain ⟨h0, h1⟩ := hi
 by_cases h : y = i
 ·subst h; rw [if_pos rfl, at_set_eq (by omega)]
 ·rw [if_neg h, at_set_ne (by omega)]
theorem setFirst_len {A : List Node_one} {i v : Int} : (setFirst A i v).length = A.length := by simp [setFirst]
theorem setFirst_core {A : List Node_one} {i y v : Int} (hi : InA A i) (hy : 0 ≤ y) : coreN (at_ (setFirst A i v) y.toNat) = coreN (at_ A y.toNat) := by
 rw [setFirst, at_setI hi hy]; split
 ·next h => subst h; rfl
 ·rfl
theorem setFirst_eq {A : List Node_one} {i y v : Int} (hi : InA A i) (hy : 0 ≤ y) : (nodeA (setFirst A i v) y).First = if y = i then v else (nodeA A y).First := by
 rw [nodeA, setFirst, at_setI hi hy]; split <;> rfl
theorem setLast_core {A : List Node_one} {i y v : Int} (hi : InA A i) (hy : 0 ≤ y) : coreN (at_ (setLast A i v) y.toNat) = coreN (at_ A y.toNat) := by
 rw [setLast, at_setI hi hy]; split
 ·next h => subst h; rfl
 ·rfl
theorem setLast_eq {A : List Node_one} {i y v : Int} (hi : InA A i) (hy : 0 ≤ y) : (nodeA (setLast A i v) y).Last = if y = i then v else (nodeA A y).Last := by
 rw [nodeA, setLast, at_setI hi hy]; split <;> rfl
theorem setNext_len {A : List Node_one} {i v : Int} : (setNext A i v).length = A.length := by simp [setNext]
theorem setNext_core {A : List Node_one} {i y v : Int} (hi : InA A i) (hy : 0 ≤ y) : coreN (at_ (setNext A i v) y.toNat) = coreN (at_ A y.toNat) := by
 rw [setNext, at_setI hi hy]; split
 ·next h => subst h; rfl
 ·rfl
theorem setNext_eq {A : List Node_one} {i y v : Int} (hi : InA A i) (hy : 0 ≤ y) : (nodeA (setNext A i v) y).Next = if y = i then v else (nodeA A y).Next := by
 rw [nodeA, setNext, at_setI hi hy]; split <;> rfl
theorem setPrev_core {A : List Node_one} {i y v : Int} (hi : InA A i) (hy : 0 ≤ y) : coreN (at_ (setPrev A i v) y.toNat) = coreN (at_ A y.toNat) := by
 rw [setPrev, at_setI hi hy]; split
 ·next h => subst h; rfl
 ·rfl
theorem setPrev_eq {A : List Node_one} {i y v : Int} (hi : InA A i) (hy : 0 ≤ y) : (nodeA (setPrev A i v) y).Prev = if y = i then v else (nodeA A y).Prev := by
 rw [nodeA, setPrev, at_setI hi hy]; split <;> rfl
theorem setFirst_Parent {A : List Node_one} {i y v : Int} (hi : InA A i) (hy : 0 ≤ y) : (nodeA (setFirst A i v) y).Parent = (nodeA A y).Parent := by
 rw [nodeA, setFirst, at_setI hi hy]; split
 ·next h => subst h; rfl
 ·rfl
theorem setFirst_Last {A : List Node_one} {i y v : Int} (hi : InA A i) (hy : 0 ≤ y) : (nodeA (setFirst A i v) y).Last = (nodeA A y).Last := by
 rw [nodeA, setFirst, at_setI hi hy]; split
 ·next h => subst h; rfl
 ·rfl
theorem setFirst_Next {A : List Node_one} {i y v : Int} (hi : InA A i) (hy : 0 ≤ y) : (nodeA (setFirst A i v) y).Next = (nodeA A y).Next := by
 rw [nodeA, setFirst, at_setI hi hy]; split
 ·next h => subst h; rfl
 ·rfl
theorem setFirst_Prev {A : List Node_one} {i y v : Int} (hi : InA A i) (hy : 0 ≤ y) : (nodeA (setFirst A i v) y).Prev = (nodeA A y).Prev := by
 rw [nodeA, setFirst, at_setI hi hy]; split
 ·next h => subst h; rfl
 ·rfl
theorem setLast_Parent {A : List Node_one} {i y v : Int} (hi : InA A i) (hy : 0 ≤ y) : (nodeA (setLast A i v) y).Parent = (nodeA A y).Parent := by
 rw [nodeA, setLast, at_setI hi hy]; split
 ·next h => subst h; rfl
 ·rfl
theorem setLast_First {A : List Node_one} {i y v : Int} (hi : InA A i) (hy : 0 ≤ y) : (nodeA (setLast A i v) y).First = (nodeA A y).First := by
 rw [nodeA, setLast, at_setI hi hy]; split
 ·next h => subst h; rfl
 ·rfl
theorem setLast_Next {A : List Node_one} {i y v : Int} (hi : InA A i) (hy : 0 ≤ y) : (nodeA (setLast A i v) y).Next = (nodeA A y).Next := by
 rw [nodeA, setLast, at_setI hi hy]; split
 ·next h => subst h; rfl
 ·rfl
theorem setLast_Prev {A : List Node_one} {i y v : Int} (hi : InA A i) (hy : 0 ≤ y) : (nodeA (setLast A i v) y).Prev = (nodeA A y).Prev := by
 rw [nodeA, setLast, at_setI hi hy]; split
 ·next h => subst h; rfl
 ·rfl
theorem setNext_Parent {A : List Node_one} {i y v : Int} (hi : InA A i) (hy : 0 ≤ y) : (nodeA (setNext A i v) y).Parent = (nodeA A y).Parent := by
 rw [nodeA, setNext, at_setI hi hy]; split
 ·next h => subst h; rfl
 ·rfl
theorem setNext_First {A : List Node_one} {i y v : Int} (hi : InA A i) (hy : 0 ≤ y) : (nodeA (setNext A i v) y).First = (nodeA A y).First := by
 rw [nodeA, setNext, at_setI hi hy]; split
 ·next h => subst h; rfl
 ·rfl
theorem setNext_Last {A : List Node_one} {i y v : Int} (hi : InA A i) (hy : 0 ≤ y) : (nodeA (setNext A i v) y).Last = (nodeA A y).Last := by
 rw [nodeA, setNext, at_setI hi hy]; split
 ·next h => subst h; rfl
 ·rfl
theorem setNext_Prev {A : List Node_one} {i y v : Int} (hi : InA A i) (hy : 0 ≤ y) : (nodeA (setNext A i v) y).Prev = (nodeA A y).Prev := by
 rw [nodeA, setNext, at_setI hi hy]; split
 ·next h => subst h; rfl
 ·rfl
theorem setPrev_Parent {A : List Node_one} {i y v : Int} (hi : InA A i) (hy : 0 ≤ y) : (nodeA (setPrev A i v) y).Parent = (nodeA A y).Parent := by
 rw [nodeA, setPrev, at_setI hi hy]; split
 ·next h => subst h; rfl
 ·rfl
theorem setPrev_First {A : List Node_one} {i y v : Int} (hi : InA A i) (hy : 0 ≤ y) : (nodeA (setPrev A i v) y).First = (nodeA A y).First := by
 rw [nodeA, setPrev, at_setI hi hy]; split
 ·next h => subst h; rfl
 ·rfl
theorem setPrev_Last {A : List Node_one} {i y v : Int} (hi : InA A i) (hy : 0 ≤ y) : (nodeA (setPrev A i v) y).Last = (nodeA A y).Last := by
 rw [nodeA, setPrev, at_setI hi hy]; split
 ·next h => subst h; rfl
 ·rfl
theorem setPrev_Next {A : List Node_one} {i y v : Int} (hi : InA A i) (hy : 0 ≤ y) : (nodeA (setPrev A i v) y).Next = (nodeA A y).Next := by
 rw [nodeA, setPrev, at_setI hi hy]; split
 ·next h => subst h; rfl
 ·rfl
theorem setLinks_core {A : List Node_one} {i y u p n : Int} (hi : InA A i) (hy : 0 ≤ y) : coreN (at_ (setLinks A i u p n) y.toNat) = coreN (at_ A y.toNat) := by
 rw [setLinks, at_setI hi hy]; split
 ·next h => subst h; rfl
 ·rfl
theorem setLinks_Parent {A : List Node_one} {i y u p n : Int} (hi : InA A i) (hy : 0 ≤ y) : (nodeA (setLinks A i u p n) y).Parent = if y = i then u else (nodeA A y).Parent := by
 rw [nodeA, setLinks, at_setI hi hy]; split <;> rfl
theorem setLinks_Prev {A : List Node_one} {i y u p n : Int} (hi : InA A i) (hy : 0 ≤ y) : (nodeA (setLinks A i u p n) y).Prev = if y = i then p else (nodeA A y).Prev := by
 rw [nodeA, setLinks, at_setI hi hy]; split <;> rfl
theorem setLinks_Next {A : List Node_one} {i y u p n : Int} (hi : InA A i) (hy : 0 ≤ y) : (nodeA (setLinks A i u p n) y).Next = if y = i then n else (nodeA A y).Next := by
 rw [nodeA, setLinks, at_setI hi hy]; split <;> rfl
theorem setLinks_First {A : List Node_one} {i y u p n : Int} (hi : InA A i) (hy : 0 ≤ y) : (nodeA (setLinks A i u p n) y).First = (nodeA A y).First := by
 rw [nodeA, setLinks, at_setI hi hy]; split
 ·next h => subst h; rfl
 ·rfl
theorem setLinks_Last {A : List Node_one} {i y u p n : Int} (hi : InA A i) (hy : 0 ≤ y) : (nodeA (setLinks A i u p n) y).Last = (nodeA A y).Last := by
 rw [nodeA, setLinks, at_setI hi hy]; split
 ·next h => subst h; rfl
 ·rfl
theorem InA.len {A B : List Node_one} {x : Int} (h : InA A x) (e : B.length = A.length) : InA B x := ⟨h.1, by rw [e]; exact h.2⟩
/-- what a row of children's neighbours is joined to -/
structure Joined (A B : List Node_one) (up l r y : Int) : Prop where
 core : coreN (at_ B y.toNat) = coreN (at_ A y.toNat)
 parent : (nodeA B y).Parent = (nodeA A y).Parent
 first : (nodeA B y).First = if l = -1 ∧ y = up then r else (nodeA A y).First
 last : (nodeA B y).Last = if r = -1 ∧ y = up then l else (nodeA A y).Last
 next : (nodeA B y).Next = if l ≠ -1 ∧ y = l then r else (nodeA A y).Next
 prev : (nodeA B y).Prev = if r ≠ -1 ∧ y = r then l else (nodeA A y).Prev
theorem joined {A : List Node_one} {up l r y : Int} (hu : InA A up) (hl : l = -1 ∨ InA A l) (hr : r = -1 ∨ InA A r) (hy : 0 ≤ y) : Joined A (joinL A up l r) up l r y := by
 unfold joinL joinA
 by_cases h1 : l = -1
 ·rw [if_pos h1]
  have hlen : (setFirst A up r).length = A.length := setFirst_len
  have hu2 : InA (setFirst A up r) up := hu.len hlen
  unfold joinB
  by_cases h2 : r = -1
  ·rw [if_pos h2]
   constructor
   ·rw [setLast_core hu2 hy, setFirst_core hu hy]
   ·rw [setLast_Parent hu2 hy, setFirst_Parent hu hy]
   ·rw [setLast_First hu2 hy, setFirst_eq hu hy]; simp [h1]
   ·rw [setLast_eq hu2 hy, setFirst_Last hu hy]; simp [h2]
   ·rw [setLast_Next hu2 hy, setFirst_Next hu hy]; simp [h1]
   ·rw [setLast_Prev hu2 hy, setFirst_Prev hu hy]; simp [h2]
  ·rw [if_neg h2]
   have hr2 : InA (setFirst A up r) r := (hr.resolve_left h2).len hlen
   constructor
   ·rw [setPrev_core hr2 hy, setFirst_core hu hy]
   ·rw [setPrev_Parent hr2 hy, setFirst_Parent hu hy]
   ·rw [setPrev_First hr2 hy, setFirst_eq hu hy]; simp [h1]
   ·rw [setPrev_Last hr2 hy, setFirst_Last hu hy]; simp [h2]
   ·rw [setPrev_Next hr2 hy, setFirst_Next hu hy]; simp [h1]
   ·rw [setPrev_eq hr2 hy, setFirst_Prev hu hy]; simp [h2]
 ·rw [if_neg h1]
  have hl1 := hl.resolve_left h1
  have hlen : (setNext A l r).length = A.length := setNext_len
  have hu2 : InA (setNext A l r) up := hu.len hlen
  unfold joinB
  by_cases h2 : r = -1
  ·rw [if_pos h2]
   constructor
   ·rw [setLast_core hu2 hy, setNext_core hl1 hy]
   ·rw [setLast_Parent hu2 hy, setNext_Parent hl1 hy]
   ·rw [setLast_First hu2 hy, setNext_First hl1 hy]; simp [h1]
   ·rw [setLast_eq hu2 hy, setNext_Last hl1 hy]; simp [h2]
   ·rw [setLast_Next hu2 hy, setNext_eq hl1 hy]; simp [h1]
   ·rw [setLast_Prev hu2 hy, setNext_Prev hl1 hy]; simp [h2]
  ·rw [if_neg h2]
   have hr2 : InA (setNext A l r) r := (hr.resolve_left h2).len hlen
   constructor
   ·rw [setPrev_core hr2 hy, setNext_core hl1 hy]
   ·rw [setPrev_Parent hr2 hy, setNext_Parent hl1 hy]
   ·rw [setPrev_First hr2 hy, setNext_First hl1 hy]; simp [h1]
   ·rw [setPrev_Last hr2 hy, setNext_Last hl1 hy]; simp [h2]
   ·rw [setPrev_Next hr2 hy, setNext_eq hl1 hy]; simp [h1]
   ·rw [setPrev_eq hr2 hy, setNext_Prev hl1 hy]; simp [h2]
/-- a node that is put between l and r -/
structure Put (A B : List Node_one) (up id l r y : Int) : Prop where
 core : coreN (at_ B y.toNat) = coreN (at_ A y.toNat)
 parent : (nodeA B y).Parent = if y = id then up else (nodeA A y).Parent
 first : (nodeA B y).First = if l = -1 ∧ y = up then id else (nodeA A y).First
 last : (nodeA B y).Last = if r = -1 ∧ y = up then id else (nodeA A y).Last
 next : (nodeA B y).Next = if y = id then r else if l ≠ -1 ∧ y = l then id else (nodeA A y).Next
 prev : (nodeA B y).Prev = if y = id then l else if r ≠ -1 ∧ y = r then id else (nodeA A y).Prev
theorem put_at {A : List Node_one} {up id l r y : Int} (hi : InA A id) (hu : InA A up) (hl : l = -1 ∨ InA A l) (hr : r = -1 ∨ InA A r) (hli : l ≠ id) (hri : r ≠ id) (hy : 0 ≤ y) : Put A (joinL (joinL (setLinks A id up l r) up l id) up id r) up id l r y := by
 have e1 : (setLinks A id up l r).length = A.length := setLinks_len
 have e2 : (joinL (setLinks A id up l r) up l id).length = A.length := by rw [joinL_len, e1]
 have hne : id ≠ -1 := by have := hi.1; omega
 have j1 := joined (A := setLinks A id up l r) (up := up) (l := l) (r := id) (hu.len e1) (hl.imp (fun h => h) fun h => h.len e1) (.inr (hi.len e1)) hy
 have j2 := joined (A := joinL (setLinks A id up l r) up l id) (up := up) (l := id) (r := r) (hu.len e2) (.inr (hi.len e2)) (hr.imp (fun h => h) fun h => h.len e2) hy
 constructor
 ·rw [j2.core, j1.core, setLinks_core hi hy]
 ·rw [j2.parent, j1.parent, setLinks_Parent hi hy]
 ·rw [j2.first, if_neg (by simp [hne]), j1.first, setLinks_First hi hy]
 ·rw [j2.last, j1.last, if_neg (c := id = -1 ∧ y = up) (by simp [hne]), setLinks_Last hi hy]
 ·rw [j2.next, j1.next, setLinks_Next hi hy]
  by_cases h : y = id
  ·subst h; simp [hne]
  ·simp [h]
 ·rw [j2.prev, j1.prev, setLinks_Prev hi hy]
  by_cases h : y = id
  ·subst h; simp [hne, hri.symm]
  ·simp [h]
/-- a node that is taken away -/
structure Gone (A B : List Node_one) (up id l r y : Int) : Prop where
 core : coreN (at_ B y.toNat) = coreN (at_ A y.toNat)
 parent : (nodeA B y).Parent = if y = id then -1 else (nodeA A y).Parent
 first : (nodeA B y).First = if l = -1 ∧ y = up then r else (nodeA A y).First
 last : (nodeA B y).Last = if r = -1 ∧ y = up then l else (nodeA A y).Last
 next : (nodeA B y).Next = if y = id then -1 else if l ≠ -1 ∧ y = l then r else (nodeA A y).Next
 prev : (nodeA B y).Prev = if y = id then -1 else if r ≠ -1 ∧ y = r then l else (nodeA A y).Prev
theorem gone_at {A : List Node_one} {up id l r y : Int} (hi : InA A id) (hu : InA A up) (hl : l = -1 ∨ InA A l) (hr : r = -1 ∨ InA A r) (hy : 0 ≤ y) : Gone A (setLinks (joinL A up l r) id (-1) (-1) (-1)) up id l r y := by
 have e : (joinL A up l r).length = A.length := joinL_len
 have j := joined hu hl hr hy
 have hi2 := hi.len e
 constructor
 ·rw [setLinks_core hi2 hy, j.core]
 ·rw [setLinks_Parent hi2 hy, j.parent]
 ·rw [setLinks_First hi2 hy, j.first]
 ·rw [setLinks_Last hi2 hy, j.last]
 ·rw [setLinks_Next hi2 hy, j.next]
 ·rw [setLinks_Prev hi2 hy, j.prev]
end Go.Proofs.YtoohapbaelmkcaaGreat
end
section
namespace Go.Proofs.YtoohapbaelmkcaaGreat
open Go Go.Hb Go.RowKit
abbrev headL (l : List Int) : Int := l.headD (-1)
abbrev lastL (l : List Int) : Int := l.getLastD (-1)
theorem lastL_app {l : List Int} {x : Int} : lastL (l ++ [x]) = x := by simp [lastL, List.getLastD_eq_getLast?]
theorem lastL_app2 {l m : List Int} (h : m ≠ []) : lastL (l ++ m) = lastL m := by
 simp only [lastL, List.getLastD_eq_getLast?, List.getLast?_append]
 cases e : m.getLast? with
 | none => exact absurd (List.getLast?_eq_none_iff.1 e) h
 | some v => rfl
theorem lastL_mem {l : List Int} (h : l ≠ []) : lastL l ∈ l := by
 simp only [lastL, List.getLastD_eq_getLast?]
 cases e : l.getLast? with
 | none => exact absurd (List.getLast?_eq_none_iff.1 e) h
 | some v => exact List.mem_of_getLast? e
theorem headL_app {l m : List Int} (h : l ≠ []) : headL (l ++ m) = headL l := by cases l with | nil => exact absurd rfl h | cons => rfl
theorem headL_mem {l : List Int} (h : l ≠ []) : headL l ∈ l := by cases l with | nil => exact absurd rfl h | cons => simp
/-- the links of x's children l -/
structure Lnk (A : List Node_one) (x : Int) (l : List Int) : Prop where
 first : (nodeA A x).First = headL l
 last : (nodeA A x).Last = lastL l
 kid : ∀ pre y suf, l = pre ++ y :: suf → InA A y ∧ (nodeA A y).Parent = x ∧ (nodeA A y).Prev = lastL pre ∧ (nodeA A y).Next = headL suf
theorem Lnk.mem {A : List Node_one} {x y : Int} {l : List Int} (h : Lnk A x l) (hy : y ∈ l) : InA A y ∧ (nodeA A y).Parent = x := by
 obtain ⟨pre, suf, rfl⟩ := List.append_of_mem hy
 have := h.kid pre y suf rfl
 exact ⟨this.1, this.2.1⟩
theorem Lnk.chain {A : List Node_one} {x : Int} {l : List Int} (h : Lnk A x l) : Chain A (nodeA A x).First l := by
  have key : ∀ suf pre : List Int, l = pre ++ suf → Chain A (headL suf) suf := by
    intro suf
    induction suf with
    | nil => intro pre _; rfl
    | cons y suf ih =>
      intro pre e
      obtain ⟨h1, _, _, h4⟩ := h.kid pre y suf e
      refine ⟨rfl, by have := h1.1; omega, h1.b, ?_⟩
      show Chain A (nodeA A y).Next suf
      rw [h4]
      exact ih (pre ++ [y]) (by simp [e])
  rw [h.first]
  exact key l [] rfl
theorem Lnk.firstIn {A : List Node_one} {x : Int} {l : List Int} (h : Lnk A x l) : (nodeA A x).First = -1 ∨ InA A (nodeA A x).First := by
 rw [h.first]
 cases l with
 | nil => exact .inl rfl
 | cons y l => exact .inr (h.mem (by simp)).1
theorem Lnk.lastIn {A : List Node_one} {x : Int} {l : List Int} (h : Lnk A x l) : (nodeA A x).Last = -1 ∨ InA A (nodeA A x).Last := by
 rw [h.last]
 by_cases e : l = []
 ·subst e; exact .inl rfl
 ·exact .inr (h.mem (lastL_mem e)).1
/-- the rows of children of all nodes -/
structure Tree (A : List Node_one) (K : Int → List Int) : Prop where
 lnk : ∀ x, InA A x → Lnk A x (K x)
 nodup : ∀ x, InA A x → (K x).Nodup
 up : ∀ y, InA A y → (nodeA A y).Parent ≠ -1 → InA A (nodeA A y).Parent ∧ y ∈ K (nodeA A y).Parent
 free : ∀ y, InA A y → (nodeA A y).Parent = -1 → (nodeA A y).Prev = -1 ∧ (nodeA A y).Next = -1
 host : ∀ y, InA A y → (at_ A y.toNat).host = -1 ∨ InA A (at_ A y.toNat).host
 hostK : ∀ y, InA A y → (nodeA A y).Kind ≠ 5 → (at_ A y.toNat).host = -1
 upK : ∀ y, InA A y → (nodeA A y).Parent ≠ -1 → (nodeA A y).Kind ≠ 5
 inner : ∀ y, InA A y → (nodeA A y).Inner = -1 ∨ InA A (nodeA A y).Inner
 rank : Ranked A
 attrs : AttrsOk A
theorem Tree.nbr {A : List Node_one} {K : Int → List Int} (h : Tree A K) {y : Int} (hy : InA A y) (hp : (nodeA A y).Parent ≠ -1) : ∃ pre suf, K (nodeA A y).Parent = pre ++ y :: suf ∧ (nodeA A y).Prev = lastL pre ∧ (nodeA A y).Next = headL suf := by
 obtain ⟨hu, hm⟩ := h.up y hy hp
 obtain ⟨pre, suf, e⟩ := List.append_of_mem hm
 obtain ⟨_, _, h3, h4⟩ := (h.lnk _ hu).kid pre y suf e
 exact ⟨pre, suf, e, h3, h4⟩
theorem Tree.prevIn {A : List Node_one} {K : Int → List Int} (h : Tree A K) {y : Int} (hy : InA A y) : (nodeA A y).Prev = -1 ∨ InA A (nodeA A y).Prev := by
 by_cases hp : (nodeA A y).Parent = -1
 ·exact .inl (h.free y hy hp).1
 ·obtain ⟨pre, suf, e, h3, h4⟩ := h.nbr hy hp
  rw [h3]
  by_cases e2 : pre = []
  ·subst e2; exact .inl rfl
  ·exact .inr ((h.lnk _ (h.up y hy hp).1).mem (by rw [e]; exact List.mem_append_left _ (lastL_mem e2))).1
theorem Tree.nextIn {A : List Node_one} {K : Int → List Int} (h : Tree A K) {y : Int} (hy : InA A y) : (nodeA A y).Next = -1 ∨ InA A (nodeA A y).Next := by
 by_cases hp : (nodeA A y).Parent = -1
 ·exact .inl (h.free y hy hp).2
 ·obtain ⟨pre, suf, e, h3, h4⟩ := h.nbr hy hp
  rw [h4]
  by_cases e2 : suf = []
  ·subst e2; exact .inl rfl
  ·exact .inr ((h.lnk _ (h.up y hy hp).1).mem (by rw [e]; exact List.mem_append_right _ (List.mem_cons_of_mem _ (headL_mem e2)))).1
theorem Tree.links {A : List Node_one} {K : Int → List Int} (h : Tree A K) : LinksOk A where
 first x hx := (h.lnk x (inA_iff.1 hx)).firstIn
 last x hx := (h.lnk x (inA_iff.1 hx)).lastIn
 prev x hx := h.prevIn (inA_iff.1 hx)
 next x hx := h.nextIn (inA_iff.1 hx)
 parent x hx := by
  by_cases e : (nodeA A x).Parent = -1
  ·exact .inl e
  ·exact .inr (h.up x (inA_iff.1 hx) e).1
/-- a row without repeats of numbers below n is no longer than n -/
theorem nodup_le : ∀ (n : Nat) (l : List Int), l.Nodup → (∀ x ∈ l, 0 ≤ x ∧ x < n) → l.length ≤ n := by
  intro n
  induction n with
  | zero =>
    intro l _ h
    cases l with
    | nil => exact Nat.le_refl _
    | cons x l => have := h x (by simp); omega
  | succ n ih =>
    intro l hn h
    by_cases hm : (n : Int) ∈ l
    · have h1 := ih (l.erase n) (hn.erase _) (fun x hx => by
        have := h x (List.mem_of_mem_erase hx)
        have hne : x ≠ n := fun e => by subst e; exact hn.not_mem_erase hx
        omega)
      rw [List.length_erase_of_mem hm] at h1
      omega
    · have := ih l hn (fun x hx => by
        have := h x hx
        have hne : x ≠ n := fun e => by subst e; exact hm hx
        omega)
      omega
theorem Tree.len {A : List Node_one} {K : Int → List Int} (h : Tree A K) {x : Int} (hx : InA A x) : (K x).length ≤ A.length := nodup_le _ _ (h.nodup x hx) fun y hy => ((h.lnk x hx).mem hy).1
/-- the row with id ahead of before, or at the end -/
def insB (id before : Int) : List Int → List Int
 | [] => if before = -1 then [id] else []
 | y :: l => if y = before then id :: y :: insB id before l else y :: insB id before l
theorem insB_end {id : Int} : ∀ {l : List Int}, (∀ y ∈ l, y ≠ -1) → insB id (-1) l = l ++ [id]
 | [], _ => rfl
 | y :: l, h => by rw [insB, if_neg (h y (by simp)), insB_end fun z hz => h z (by simp [hz])]; rfl
theorem insB_not {id before : Int} (hb : before ≠ -1) : ∀ {l : List Int}, before ∉ l → insB id before l = l
 | [], _ => by rw [insB, if_neg hb]
 | y :: l, h => by rw [insB, if_neg (fun e => h (by simp [e])), insB_not hb fun hm => h (by simp [hm])]
theorem insB_at {id before : Int} (hb : before ≠ -1) : ∀ {pre suf : List Int}, (pre ++ before :: suf).Nodup → insB id before (pre ++ before :: suf) = pre ++ id :: before :: suf
  | [], suf, h => by
    show insB id before (before :: suf) = _
    rw [insB, if_pos rfl, insB_not hb (by simpa using (List.nodup_cons.1 h).1)]; rfl
  | y :: pre, suf, h => by
    have h2 := List.nodup_cons.1 h
    show insB id before (y :: (pre ++ before :: suf)) = _
    rw [insB, if_neg (fun e => h2.1 (by simp [e])), insB_at hb h2.2]; rfl
end Go.Proofs.YtoohapbaelmkcaaGreat
end
section
namespace Go.Proofs.YtoohapbaelmkcaaGreat
open Go Go.Hb Go.RowKit
theorem app_cut {l1 l2 pre suf : List Int} {id y : Int} (h : l1 ++ id :: l2 = pre ++ y :: suf) : (y = id ∧ pre = l1 ∧ suf = l2) ∨ (∃ m, l2 = m ++ y :: suf ∧ pre = l1 ++ id :: m) ∨ (∃ m, l1 = pre ++ y :: m ∧ suf = m ++ id :: l2) := by
 rcases List.append_eq_append_iff.1 h with ⟨a, e1, e2⟩ | ⟨c, e1, e2⟩
 ·cases a with
  | nil => injection e2 with e3 e4; exact .inl ⟨e3.symm, by simpa using e1, e4.symm⟩
  | cons b a => injection e2 with e3 e4; subst e3; exact .inr (.inl ⟨a, e4, e1⟩)
 ·cases c with
  | nil => injection e2 with e3 e4; exact .inl ⟨e3, by simpa using e1.symm, e4⟩
  | cons b c => injection e2 with e3 e4; subst e3; exact .inr (.inr ⟨c, e1, e4⟩)
theorem app_cut2 {l1 l2 pre suf : List Int} {y : Int} (h : l1 ++ l2 = pre ++ y :: suf) : (∃ m, l2 = m ++ y :: suf ∧ pre = l1 ++ m) ∨ (∃ m, l1 = pre ++ y :: m ∧ suf = m ++ l2) := by
 rcases List.append_eq_append_iff.1 h with ⟨a, e1, e2⟩ | ⟨c, e1, e2⟩
 ·exact .inl ⟨a, e2, e1⟩
 ·cases c with
  | nil => exact .inl ⟨[], by simpa using e2.symm, by simpa using e1.symm⟩
  | cons b c => injection e2 with e3 e4; subst e3; exact .inr ⟨c, e1, e4⟩
theorem nodup_ne {l1 l2 : List Int} {x y : Int} (h : (l1 ++ l2).Nodup) (hx : x ∈ l1) (hy : y ∈ l2) : x ≠ y := (List.nodup_append.1 h).2.2 x hx y hy
theorem Lnk.put {A B : List Node_one} {up id : Int} {l1 l2 : List Int} (h : Lnk A up (l1 ++ l2)) (hn : (l1 ++ l2).Nodup) (hlen : B.length = A.length) (hu : InA A up) (hi : InA A id) (hni : id ∉ l1 ++ l2)
    (hp : ∀ y, 0 ≤ y → Put A B up id (lastL l1) (headL l2) y) : Lnk B up (l1 ++ id :: l2) := by
  have hi0 := hi.1
  have hu0 := hu.1
  have m1 : ∀ {m}, l1 ≠ [] → m = lastL l1 → m ∈ l1 := fun h e => e ▸ lastL_mem h
  have pu := hp up hu0
  constructor
  · rw [pu.first]
    by_cases e : l1 = []
    · subst e; rw [if_pos ⟨rfl, rfl⟩]; rfl
    · have := (h.mem (List.mem_append_left l2 (lastL_mem e))).1.1
      rw [if_neg (by omega), h.first, headL_app e, headL_app e]
  · rw [pu.last]
    by_cases e : l2 = []
    · subst e; rw [if_pos ⟨rfl, rfl⟩, lastL_app2 (by simp)]; rfl
    · have := (h.mem (List.mem_append_right l1 (headL_mem e))).1.1
      rw [if_neg (by omega), h.last, lastL_app2 e, lastL_app2 (by simp), show id :: l2 = [id] ++ l2 from rfl, lastL_app2 e]
  · intro pre y suf e
    rcases app_cut e with ⟨rfl, rfl, rfl⟩ | ⟨m, rfl, rfl⟩ | ⟨m, rfl, rfl⟩
    · have py := hp y hi0
      exact ⟨hi.len hlen, by rw [py.parent, if_pos rfl], by rw [py.prev, if_pos rfl], by rw [py.next, if_pos rfl]⟩
    · have hy := h.kid (l1 ++ m) y suf (by simp)
      obtain ⟨g1, g2, g3, g4⟩ := hy
      have py := hp y g1.1
      have hne : y ≠ id := fun e => hni (by simp [e])
      refine ⟨g1.len hlen, by rw [py.parent, if_neg hne, g2], ?_, ?_⟩
      · rw [py.prev, if_neg hne]
        by_cases em : m = []
        · subst em
          have := g1.1
          rw [if_pos ⟨by show y ≠ -1; omega, rfl⟩, lastL_app]
        · have hyr : y ≠ headL (m ++ y :: suf) := by
            rw [headL_app em]
            have h2 := (List.nodup_append.1 hn).2.1
            exact (nodup_ne h2 (headL_mem em) (by simp)).symm
          rw [if_neg (fun h => hyr h.2), g3, lastL_app2 em, lastL_app2 (by simp), show id :: m = [id] ++ m from rfl, lastL_app2 em]
      · rw [py.next, if_neg hne, if_neg, g4]
        rintro ⟨k1, k2⟩
        by_cases e1 : l1 = []
        · subst e1; exact k1 rfl
        · exact nodup_ne hn (lastL_mem e1) (y := y) (by simp) k2.symm
    · have hy := h.kid pre y (m ++ l2) (by simp)
      obtain ⟨g1, g2, g3, g4⟩ := hy
      have py := hp y g1.1
      have hne : y ≠ id := fun e => hni (by simp [e])
      refine ⟨g1.len hlen, by rw [py.parent, if_neg hne, g2], ?_, ?_⟩
      · rw [py.prev, if_neg hne, if_neg, g3]
        rintro ⟨k1, k2⟩
        by_cases e1 : l2 = []
        · subst e1; exact k1 rfl
        · exact nodup_ne hn (x := y) (by simp) (headL_mem e1) k2
      · rw [py.next, if_neg hne]
        by_cases em : m = []
        · subst em
          have := g1.1
          rw [if_pos ⟨by rw [lastL_app]; omega, by rw [lastL_app]⟩]
          rfl
        · have hyr : y ≠ lastL (pre ++ y :: m) := by
            rw [show pre ++ y :: m = (pre ++ [y]) ++ m by simp, lastL_app2 em]
            have h2 := (List.nodup_append.1 (List.nodup_append.1 hn).1).2.1
            exact fun e => (List.nodup_cons.1 h2).1 (e ▸ lastL_mem em)
          rw [if_neg (fun h => hyr h.2), g4, headL_app em, headL_app em]
theorem Lnk.gone {A B : List Node_one} {up id : Int} {l1 l2 : List Int} (h : Lnk A up (l1 ++ id :: l2)) (hn : (l1 ++ id :: l2).Nodup) (hlen : B.length = A.length) (hu : InA A up)
    (hp : ∀ y, 0 ≤ y → Gone A B up id (lastL l1) (headL l2) y) : Lnk B up (l1 ++ l2) := by
  have hu0 := hu.1
  have pu := hp up hu0
  have hn1 := (List.nodup_append.1 hn).1
  have hn2 := List.nodup_cons.1 (List.nodup_append.1 hn).2.1
  constructor
  · rw [pu.first]
    by_cases e : l1 = []
    · subst e; rw [if_pos ⟨rfl, rfl⟩]; rfl
    · have := (h.mem (List.mem_append_left _ (lastL_mem e))).1.1
      rw [if_neg (by omega), h.first, headL_app e, headL_app e]
  · rw [pu.last]
    by_cases e : l2 = []
    · subst e; rw [if_pos ⟨rfl, rfl⟩, List.append_nil]
    · have := (h.mem (List.mem_append_right l1 (List.mem_cons_of_mem id (headL_mem e)))).1.1
      rw [if_neg (by omega), h.last, lastL_app2 e, lastL_app2 (by simp), show id :: l2 = [id] ++ l2 from rfl, lastL_app2 e]
  · intro pre y suf e
    rcases app_cut2 e with ⟨m, rfl, rfl⟩ | ⟨m, rfl, rfl⟩
    · obtain ⟨g1, g2, g3, g4⟩ := h.kid (l1 ++ id :: m) y suf (by simp)
      have py := hp y g1.1
      have hne : y ≠ id := fun e => hn2.1 (by simp [e])
      refine ⟨g1.len hlen, by rw [py.parent, if_neg hne, g2], ?_, ?_⟩
      · rw [py.prev, if_neg hne]
        by_cases em : m = []
        · subst em
          have := g1.1
          rw [if_pos ⟨by show y ≠ -1; omega, rfl⟩, List.append_nil]
        · have hyr : y ≠ headL (m ++ y :: suf) := by
            rw [headL_app em]
            exact (nodup_ne hn2.2 (headL_mem em) (by simp)).symm
          rw [if_neg (fun h => hyr h.2), g3, lastL_app2 em, lastL_app2 (by simp), show id :: m = [id] ++ m from rfl, lastL_app2 em]
      · rw [py.next, if_neg hne, if_neg, g4]
        rintro ⟨k1, k2⟩
        by_cases e1 : l1 = []
        · subst e1; exact k1 rfl
        · exact nodup_ne hn (lastL_mem e1) (y := y) (by simp) k2.symm
    · obtain ⟨g1, g2, g3, g4⟩ := h.kid pre y (m ++ id :: l2) (by simp)
      have py := hp y g1.1
      have hne : y ≠ id := nodup_ne hn (by simp) (by simp)
      refine ⟨g1.len hlen, by rw [py.parent, if_neg hne, g2], ?_, ?_⟩
      · rw [py.prev, if_neg hne, if_neg, g3]
        rintro ⟨k1, k2⟩
        by_cases e1 : l2 = []
        · subst e1; exact k1 rfl
        · exact nodup_ne hn (x := y) (by simp) (List.mem_cons_of_mem id (headL_mem e1)) k2
      · rw [py.next, if_neg hne]
        by_cases em : m = []
        · subst em
          have := g1.1
          rw [if_pos ⟨by rw [lastL_app]; omega, by rw [lastL_app]⟩]
          rfl
        · have hyr : y ≠ lastL (pre ++ y :: m) := by
            rw [show pre ++ y :: m = (pre ++ [y]) ++ m by simp, lastL_app2 em]
            have h2 := (List.nodup_append.1 hn1).2.1
            exact fun e => (List.nodup_cons.1 h2).1 (e ▸ lastL_mem em)
          rw [if_neg (fun h => hyr h.2), g4, headL_app em, headL_app em]
end Go.Proofs.YtoohapbaelmkcaaGreat
end
section
namespace Go.Proofs.YtoohapbaelmkcaaGreat
open Go Go.Hb Go.RowKit
theorem core_kind {o p : Node_one} (h : coreN o = coreN p) : o.Node.Kind = p.Node.Kind := by
 have := congrArg (fun z : Node_one => z.Node.Kind) h
 exact this
theorem core_host {o p : Node_one} (h : coreN o = coreN p) : o.host = p.host := by
 have := congrArg (fun z : Node_one => z.host) h
 exact this
theorem core_inner {o p : Node_one} (h : coreN o = coreN p) : o.Node.Inner = p.Node.Inner := by
 have := congrArg (fun z : Node_one => z.Node.Inner) h
 exact this
theorem core_attrs {o p : Node_one} (h : coreN o = coreN p) : o.Node.Attrs = p.Node.Attrs := by
 have := congrArg (fun z : Node_one => z.Node.Attrs) h
 exact this
theorem toNat_nat {i : Nat} : ((i : Int)).toNat = i := rfl
theorem attrs_core {A B : List Node_one} (hl : B.length = A.length) (hc : ∀ y : Int, 0 ≤ y → coreN (at_ B y.toNat) = coreN (at_ A y.toNat)) (h : AttrsOk A) : AttrsOk B := fun i hi => by
 have := hc i (by omega)
 rw [toNat_nat] at this
 rw [core_attrs this]; exact h i (by omega)
/-- where a link goes -/
structure LinkAt (A : List Node_one) (K : Int → List Int) (up id before : Int) (l1 l2 : List Int) : Prop where
 hup : InA A up
 hid : InA A id
 kup : parentB (nodeA A up).Kind = true
 kid : (nodeA A id).Kind ≠ 0 ∧ (nodeA A id).Kind ≠ 5
 free : (nodeA A id).Parent = -1
 above : ¬ Anc A up id
 row : K up = l1 ++ l2
 bef : before = headL l2
 prev : prevL A up before = lastL l1
 new : insB id before (K up) = l1 ++ id :: l2
 res : linkL A up id before = (0, joinL (joinL (setLinks A id up (lastL l1) before) up (lastL l1) id) up id before)
theorem link_ok {A : List Node_one} {K : Int → List Int} (h : Tree A K) {up id before : Int} (h0 : (linkL A up id before).1 = 0) : ∃ l1 l2, LinkAt A K up id before l1 l2 := by
 unfold linkL at h0
 split at h0; · simp at h0
 next c1 =>
 split at h0; · simp at h0
 next c2 =>
 split at h0; · simp at h0
 next c3 =>
 split at h0; · simp at h0
 next c4 =>
 have e1 : linkL A up id before = (0, joinL (joinL (setLinks A id up (prevL A up before) before) up (prevL A up before) id) up id before) := by
  unfold linkL; rw [if_neg c1, if_neg c2, if_neg c3, if_neg c4]
 have hup : InA A up := by
  rw [← inA_iff]; cases hb : hasB A up with
  | true => rfl
  | false => exact absurd (.inl hb) c1
 have hid : InA A id := by
  rw [← inA_iff]; cases hb : hasB A id with
  | true => rfl
  | false => exact absurd (.inr (.inl hb)) c1
 have hbe : before = -1 ∨ InA A before := by
  by_cases hb : before = -1
  ·exact .inl hb
  ·right; rw [← inA_iff]; cases hb2 : hasB A before with
   | true => rfl
   | false => exact absurd (.inr (.inr ⟨hb, hb2⟩)) c1
 have kup : parentB (nodeA A up).Kind = true := by
  cases hb : parentB (nodeA A up).Kind with
  | true => rfl
  | false => exact absurd (.inl hb) c2
 have free : (nodeA A id).Parent = -1 := by
  by_cases hb : (nodeA A id).Parent = -1
  ·exact hb
  ·exact absurd (.inl hb) c3
 have above : ¬ Anc A up id := fun hA => c3 (.inr (by rw [aboveB, hup.b, hid.b, ancB_of hA]; rfl))
 have kid : (nodeA A id).Kind ≠ 0 ∧ (nodeA A id).Kind ≠ 5 := ⟨fun hb => c2 (.inr (.inl hb)), fun hb => c2 (.inr (.inr hb))⟩
 by_cases hb : before = -1
 ·subst hb
  have e2 : prevL A up (-1) = lastL (K up) := by rw [prevL, if_pos rfl]; exact (h.lnk up hup).last
  refine ⟨K up, [], hup, hid, kup, kid, free, above, by simp, rfl, e2, ?_, ?_⟩
  ·rw [insB_end fun y hy => ?_]
   have := ((h.lnk up hup).mem hy).1.1; omega
  ·rw [e1, e2]
 ·have hbi := hbe.resolve_left hb
  have hpb : (nodeA A before).Parent = up := by
   by_cases hp : (nodeA A before).Parent = up
   ·exact hp
   ·exact absurd ⟨hb, hp⟩ c4
  obtain ⟨pre, suf, e, e3, _⟩ := h.nbr hbi (by rw [hpb]; have := hup.1; omega)
  rw [hpb] at e
  have e2 : prevL A up before = lastL pre := by rw [prevL, if_neg hb]; exact e3
  have hnd := h.nodup up hup
  refine ⟨pre, before :: suf, hup, hid, kup, kid, free, above, e, rfl, e2, ?_, ?_⟩
  ·rw [e] at hnd ⊢; exact insB_at hb hnd
  ·rw [e1, e2]
theorem LinkAt.put {A : List Node_one} {K : Int → List Int} (h : Tree A K) {up id before : Int} {l1 l2 : List Int} (g : LinkAt A K up id before l1 l2) : id ∉ l1 ++ l2 ∧ ∀ y, 0 ≤ y → Put A (linkL A up id before).2 up id (lastL l1) (headL l2) y := by
 have hL := h.lnk up g.hup
 rw [g.row] at hL
 have hni : id ∉ l1 ++ l2 := fun hm => by have := (hL.mem hm).2; rw [g.free] at this; have := g.hup.1; omega
 refine ⟨hni, fun y hy => ?_⟩
 rw [g.res, g.bef]
 refine put_at g.hid g.hup ?_ ?_ ?_ ?_ hy
 ·by_cases e : l1 = []
  ·subst e; exact .inl rfl
  ·exact .inr (hL.mem (List.mem_append_left _ (lastL_mem e))).1
 ·by_cases e : l2 = []
  ·subst e; exact .inl rfl
  ·exact .inr (hL.mem (List.mem_append_right _ (headL_mem e))).1
 ·by_cases e : l1 = []
  ·subst e; have := g.hid.1; show (-1 : Int) ≠ id; omega
  ·exact fun e2 => hni (e2 ▸ List.mem_append_left _ (lastL_mem e))
 ·by_cases e : l2 = []
  ·subst e; have := g.hid.1; show (-1 : Int) ≠ id; omega
  ·exact fun e2 => hni (e2 ▸ List.mem_append_right _ (headL_mem e))
def linkK (K : Int → List Int) (up id before : Int) : Int → List Int := fun x => if x = up then insB id before (K up) else K x
theorem rank_link {A B : List Node_one} {up id : Int} (hl : B.length = A.length) (hr : Ranked A) (hup : InA A up) (hid : InA A id) (hroot : nextUp A id = -1) (hna : ¬ Anc A up id) (hn : ∀ y, InA A y → nextUp B y = if y = id then up else nextUp A y) : Ranked B := by
  obtain ⟨rk, hrk⟩ := hr
  refine ⟨fun x => @ite Nat (Anc A x id) (Classical.propDecidable _) (rk x + rk up + 1) (rk x), fun x hx => ?_⟩
  have hxA : InA A x := ⟨(inA_iff.1 hx).1, by have := (inA_iff.1 hx).2; omega⟩
  rw [hn x hxA]
  by_cases e : x = id
  · subst e
    rw [if_pos rfl]
    right
    refine ⟨(hup.len hl).b, ?_⟩
    dsimp only
    rw [if_neg hna, if_pos (.refl x)]
    omega
  · rw [if_neg e]
    rcases hrk x hxA.b with h1 | ⟨h1, h2⟩
    · exact .inl h1
    · right
      refine ⟨((inA_iff.1 h1).len hl).b, ?_⟩
      dsimp only
      by_cases hA : Anc A x id
      · have := (anc_ne e (by have := hxA.1; omega)).1 hA
        rw [if_pos hA, if_pos this]; omega
      · rw [if_neg hA, if_neg (fun h => hA (.step (by have := hxA.1; omega) h))]; exact h2
theorem Tree.link {A : List Node_one} {K : Int → List Int} (h : Tree A K) {up id before : Int} (h0 : (linkL A up id before).1 = 0) : Tree (linkL A up id before).2 (linkK K up id before) := by
 obtain ⟨l1, l2, g⟩ := link_ok h h0
 obtain ⟨hni, hp⟩ := g.put h
 have hl : (linkL A up id before).2.length = A.length := linkL_len
 obtain ⟨B, hB⟩ : ∃ B, B = (linkL A up id before).2 := ⟨_, rfl⟩
 rw [← hB] at hp hl ⊢
 have hiA : ∀ {y}, InA B y → InA A y := fun h => h.len hl.symm
 have hL := h.lnk up g.hup
 have hN := h.nodup up g.hup
 rw [g.row] at hL hN
 have hu0 := g.hup.1
 have hpar : ∀ y, InA A y → (nodeA B y).Parent = if y = id then up else (nodeA A y).Parent := fun y hy => (hp y hy.1).parent
 constructor
 ·intro x hx
  have hxA := hiA hx
  by_cases e : x = up
  ·subst e
   rw [linkK, if_pos rfl, g.new]
   exact hL.put hN hl g.hup g.hid hni hp
  ·rw [linkK, if_neg e]
   have hX := h.lnk x hxA
   have px := hp x hxA.1
   refine ⟨by rw [px.first, if_neg (fun h => e h.2), hX.first], by rw [px.last, if_neg (fun h => e h.2), hX.last], fun pre y suf ey => ?_⟩
   obtain ⟨g1, g2, g3, g4⟩ := hX.kid pre y suf ey
   have py := hp y g1.1
   have hne : y ≠ id := fun e2 => by rw [e2, g.free] at g2; have := hxA.1; omega
   have hnu : ∀ z, z ∈ l1 ++ l2 → y ≠ z := fun z hz e2 => by rw [e2, (hL.mem hz).2] at g2; exact e g2.symm
   refine ⟨g1.len hl, by rw [py.parent, if_neg hne, g2], ?_, ?_⟩
   ·rw [py.prev, if_neg hne, if_neg, g3]
    rintro ⟨k1, k2⟩
    by_cases e1 : l2 = []
    ·subst e1; exact k1 rfl
    ·exact hnu _ (List.mem_append_right _ (headL_mem e1)) k2
   ·rw [py.next, if_neg hne, if_neg, g4]
    rintro ⟨k1, k2⟩
    by_cases e1 : l1 = []
    ·subst e1; exact k1 rfl
    ·exact hnu _ (List.mem_append_left _ (lastL_mem e1)) k2
 ·intro x hx
  by_cases e : x = up
  ·subst e
   rw [linkK, if_pos rfl, g.new]
   have h3 := List.nodup_append.1 hN
   refine List.nodup_append.2 ⟨h3.1, List.nodup_cons.2 ⟨fun hm => hni (List.mem_append_right _ hm), h3.2.1⟩, fun a ha b hb => ?_⟩
   rcases List.mem_cons.1 hb with rfl | hb
   ·exact fun e => hni (e ▸ List.mem_append_left _ ha)
   ·exact h3.2.2 a ha b hb
  ·rw [linkK, if_neg e]; exact h.nodup x (hiA hx)
 ·intro y hy hpy
  have hyA := hiA hy
  rw [hpar y hyA] at hpy ⊢
  by_cases e : y = id
  ·subst e
   rw [if_pos rfl]
   exact ⟨g.hup.len hl, by rw [linkK, if_pos rfl, g.new]; simp⟩
  ·rw [if_neg e] at hpy ⊢
   obtain ⟨h1, h2⟩ := h.up y hyA hpy
   refine ⟨h1.len hl, ?_⟩
   by_cases e2 : (nodeA A y).Parent = up
   ·rw [linkK, if_pos e2, g.new]
    rw [e2, g.row] at h2
    rcases List.mem_append.1 h2 with h2 | h2
    ·exact List.mem_append_left _ h2
    ·exact List.mem_append_right _ (List.mem_cons_of_mem _ h2)
   ·rw [linkK, if_neg e2]; exact h2
 ·intro y hy hpy
  have hyA := hiA hy
  rw [hpar y hyA] at hpy
  by_cases e : y = id
  ·subst e; rw [if_pos rfl] at hpy; omega
  ·rw [if_neg e] at hpy
   obtain ⟨h1, h2⟩ := h.free y hyA hpy
   have py := hp y hyA.1
   have hnu : ∀ z, z ∈ l1 ++ l2 → y ≠ z := fun z hz e2 => by have := (hL.mem hz).2; rw [← e2, hpy] at this; omega
   constructor
   ·rw [py.prev, if_neg e, if_neg, h1]
    rintro ⟨k1, k2⟩
    by_cases e1 : l2 = []
    ·subst e1; exact k1 rfl
    ·exact hnu _ (List.mem_append_right _ (headL_mem e1)) k2
   ·rw [py.next, if_neg e, if_neg, h2]
    rintro ⟨k1, k2⟩
    by_cases e1 : l1 = []
    ·subst e1; exact k1 rfl
    ·exact hnu _ (List.mem_append_left _ (lastL_mem e1)) k2
 ·intro y hy
  rw [core_host (hp y hy.1).core]
  exact (h.host y (hiA hy)).imp (fun h => h) fun h => h.len hl
 ·intro y hy hk
  rw [nodeA, core_kind (hp y hy.1).core] at hk
  rw [core_host (hp y hy.1).core]
  exact h.hostK y (hiA hy) hk
 ·intro y hy hpy
  rw [nodeA, core_kind (hp y hy.1).core]
  rw [hpar y (hiA hy)] at hpy
  by_cases e : y = id
  ·subst e; exact g.kid.2
  ·rw [if_neg e] at hpy; exact h.upK y (hiA hy) hpy
 ·intro y hy
  rw [nodeA, core_inner (hp y hy.1).core]
  exact (h.inner y (hiA hy)).imp (fun h => h) fun h => h.len hl
 ·refine rank_link hl h.rank g.hup g.hid ?_ g.above fun y hy => ?_
  ·have e := g.free
   simp only [nodeA] at e
   rw [nextUp, if_pos e]; exact h.hostK id g.hid g.kid.2
  ·have e := hpar y hy
   simp only [nodeA] at e
   simp only [nextUp, e, core_host (hp y hy.1).core]
   by_cases e2 : y = id
   ·rw [if_pos e2, if_pos e2, if_neg (by omega)]
   ·rw [if_neg e2, if_neg e2]
 ·exact attrs_core hl (fun y hy => (hp y hy).core) h.attrs
end Go.Proofs.YtoohapbaelmkcaaGreat
end
section
namespace Go.Proofs.YtoohapbaelmkcaaGreat
open Go Go.Hb Go.RowKit
def unlinkK (K : Int → List Int) (up id : Int) : Int → List Int := fun x => if x = up then (K x).filter (fun y => y ≠ id) else K x
theorem filter_gone {id : Int} {l1 l2 : List Int} (hn : (l1 ++ id :: l2).Nodup) : (l1 ++ id :: l2).filter (fun y => y ≠ id) = l1 ++ l2 := by
 have h1 : ∀ {l : List Int}, id ∉ l → l.filter (fun y => y ≠ id) = l := fun h => List.filter_eq_self.2 fun y hy => by simp; exact fun e => h (e ▸ hy)
 have h2 := List.nodup_append.1 hn
 rw [List.filter_append, List.filter_cons, if_neg (by simp), h1 (fun h => h2.2.2 id h id (by simp) rfl), h1 (List.nodup_cons.1 h2.2.1).1]
structure UnlinkAt (A : List Node_one) (K : Int → List Int) (id : Int) (l1 l2 : List Int) : Prop where
 hid : InA A id
 par : (nodeA A id).Parent ≠ -1
 hup : InA A (nodeA A id).Parent
 row : K (nodeA A id).Parent = l1 ++ id :: l2
 prev : (nodeA A id).Prev = lastL l1
 next : (nodeA A id).Next = headL l2
 res : unlinkL A id = (0, setLinks (joinL A (nodeA A id).Parent (lastL l1) (headL l2)) id (-1) (-1) (-1))
theorem unlink_ok {A : List Node_one} {K : Int → List Int} (h : Tree A K) {id : Int} (h0 : (unlinkL A id).1 = 0) : ∃ l1 l2, UnlinkAt A K id l1 l2 := by
 unfold unlinkL at h0
 split at h0; · simp at h0
 next c1 =>
 split at h0; · simp at h0
 next c2 =>
 have hid : InA A id := by
  rw [← inA_iff]; cases hb : hasB A id with
  | true => rfl
  | false => exact absurd hb c1
 obtain ⟨l1, l2, e, e1, e2⟩ := h.nbr hid c2
 refine ⟨l1, l2, hid, c2, (h.up id hid c2).1, e, e1, e2, ?_⟩
 simp only [nodeA] at e1 e2
 rw [unlinkL, if_neg c1, if_neg c2, e1, e2]
theorem Tree.unlink {A : List Node_one} {K : Int → List Int} (h : Tree A K) {id : Int} (h0 : (unlinkL A id).1 = 0) : Tree (unlinkL A id).2 (unlinkK K (nodeA A id).Parent id) := by
 obtain ⟨l1, l2, g⟩ := unlink_ok h h0
 obtain ⟨up, hupe⟩ : ∃ up, up = (nodeA A id).Parent := ⟨_, rfl⟩
 have hL := h.lnk _ g.hup
 have hN := h.nodup _ g.hup
 rw [g.row] at hL hN
 have hp : ∀ y, 0 ≤ y → Gone A (unlinkL A id).2 (nodeA A id).Parent id (lastL l1) (headL l2) y := fun y hy => by
  rw [g.res]
  refine gone_at g.hid g.hup ?_ ?_ hy
  ·by_cases e : l1 = []
   ·subst e; exact .inl rfl
   ·exact .inr (hL.mem (List.mem_append_left _ (lastL_mem e))).1
  ·by_cases e : l2 = []
   ·subst e; exact .inl rfl
   ·exact .inr (hL.mem (List.mem_append_right _ (List.mem_cons_of_mem _ (headL_mem e)))).1
 have hl : (unlinkL A id).2.length = A.length := unlinkL_len
 obtain ⟨B, hB⟩ : ∃ B, B = (unlinkL A id).2 := ⟨_, rfl⟩
 have grow := g.row
 have ghup := g.hup
 have gpar := g.par
 rw [← hB] at hp hl ⊢
 rw [← hupe] at hp hL grow ghup gpar ⊢
 have hiA : ∀ {y}, InA B y → InA A y := fun h => h.len hl.symm
 have hu0 := ghup.1
 have hpar : ∀ y, InA A y → (nodeA B y).Parent = if y = id then -1 else (nodeA A y).Parent := fun y hy => (hp y hy.1).parent
 have m1 : ∀ {z}, z ∈ l1 ++ l2 → z ∈ l1 ++ id :: l2 := fun hz => by
  rcases List.mem_append.1 hz with hz | hz
  ·exact List.mem_append_left _ hz
  ·exact List.mem_append_right _ (List.mem_cons_of_mem _ hz)
 constructor
 ·intro x hx
  have hxA := hiA hx
  by_cases e : x = up
  ·subst e
   rw [unlinkK, if_pos rfl, grow, filter_gone hN]
   exact hL.gone hN hl ghup hp
  ·rw [unlinkK, if_neg e]
   have hX := h.lnk x hxA
   have px := hp x hxA.1
   refine ⟨by rw [px.first, if_neg (fun h => e h.2), hX.first], by rw [px.last, if_neg (fun h => e h.2), hX.last], fun pre y suf ey => ?_⟩
   obtain ⟨g1, g2, g3, g4⟩ := hX.kid pre y suf ey
   have py := hp y g1.1
   have hne : y ≠ id := fun e2 => by rw [e2, ← hupe] at g2; exact e g2.symm
   have hnu : ∀ z, z ∈ l1 ++ l2 → y ≠ z := fun z hz e2 => by rw [e2, (hL.mem (m1 hz)).2] at g2; exact e g2.symm
   refine ⟨g1.len hl, by rw [py.parent, if_neg hne, g2], ?_, ?_⟩
   ·rw [py.prev, if_neg hne, if_neg, g3]
    rintro ⟨k1, k2⟩
    by_cases e1 : l2 = []
    ·subst e1; exact k1 rfl
    ·exact hnu _ (List.mem_append_right _ (headL_mem e1)) k2
   ·rw [py.next, if_neg hne, if_neg, g4]
    rintro ⟨k1, k2⟩
    by_cases e1 : l1 = []
    ·subst e1; exact k1 rfl
    ·exact hnu _ (List.mem_append_left _ (lastL_mem e1)) k2
 ·intro x hx
  by_cases e : x = up
  ·subst e
   rw [unlinkK, if_pos rfl]
   exact (h.nodup x ghup).filter _
  ·rw [unlinkK, if_neg e]; exact h.nodup x (hiA hx)
 ·intro y hy hpy
  have hyA := hiA hy
  rw [hpar y hyA] at hpy ⊢
  by_cases e : y = id
  ·subst e; rw [if_pos rfl] at hpy; exact absurd rfl hpy
  ·rw [if_neg e] at hpy ⊢
   obtain ⟨h1, h2⟩ := h.up y hyA hpy
   refine ⟨h1.len hl, ?_⟩
   by_cases e2 : (nodeA A y).Parent = up
   ·rw [unlinkK, if_pos e2]
    exact List.mem_filter.2 ⟨h2, by simpa using e⟩
   ·rw [unlinkK, if_neg e2]; exact h2
 ·intro y hy hpy
  have hyA := hiA hy
  rw [hpar y hyA] at hpy
  have py := hp y hyA.1
  by_cases e : y = id
  ·subst e; exact ⟨by rw [py.prev, if_pos rfl], by rw [py.next, if_pos rfl]⟩
  ·rw [if_neg e] at hpy
   obtain ⟨h1, h2⟩ := h.free y hyA hpy
   have hnu : ∀ z, z ∈ l1 ++ l2 → y ≠ z := fun z hz e2 => by have := (hL.mem (m1 hz)).2; rw [← e2, hpy] at this; omega
   constructor
   ·rw [py.prev, if_neg e, if_neg, h1]
    rintro ⟨k1, k2⟩
    by_cases e1 : l2 = []
    ·subst e1; exact k1 rfl
    ·exact hnu _ (List.mem_append_right _ (headL_mem e1)) k2
   ·rw [py.next, if_neg e, if_neg, h2]
    rintro ⟨k1, k2⟩
    by_cases e1 : l1 = []
    ·subst e1; exact k1 rfl
    ·exact hnu _ (List.mem_append_left _ (lastL_mem e1)) k2
 ·intro y hy
  rw [core_host (hp y hy.1).core]
  exact (h.host y (hiA hy)).imp (fun h => h) fun h => h.len hl
 ·intro y hy hk
  rw [nodeA, core_kind (hp y hy.1).core] at hk
  rw [core_host (hp y hy.1).core]
  exact h.hostK y (hiA hy) hk
 ·intro y hy hpy
  rw [nodeA, core_kind (hp y hy.1).core]
  rw [hpar y (hiA hy)] at hpy
  by_cases e : y = id
  ·subst e; rw [if_pos rfl] at hpy; exact absurd rfl hpy
  ·rw [if_neg e] at hpy; exact h.upK y (hiA hy) hpy
 ·intro y hy
  rw [nodeA, core_inner (hp y hy.1).core]
  exact (h.inner y (hiA hy)).imp (fun h => h) fun h => h.len hl
 ·obtain ⟨rk, hrk⟩ := h.rank
  refine ⟨rk, fun x hx => ?_⟩
  have hxA := hiA (inA_iff.1 hx)
  have e := hpar x hxA
  simp only [nodeA] at e
  simp only [nextUp, e, core_host (hp x hxA.1).core]
  by_cases e2 : x = id
  ·left
   rw [if_pos e2, if_pos rfl, e2]
   exact h.hostK id g.hid (h.upK id g.hid g.par)
  ·rw [if_neg e2]
   exact (hrk x hxA.b).imp (fun h => h) fun h => ⟨((inA_iff.1 h.1).len hl).b, h.2⟩
 ·exact attrs_core hl (fun y hy => (hp y hy).core) h.attrs
def addK (A : List Node_one) (K : Int → List Int) : Int → List Int := fun x => if x = A.length then [] else K x
theorem at_new {A : List Node_one} {o : Node_one} : at_ (A ++ [o]) ((A.length : Int)).toNat = o := at_app_new
theorem at_old {A : List Node_one} {o : Node_one} {y : Int} (h : InA A y) : at_ (A ++ [o]) y.toNat = at_ A y.toNat := at_app_l (by have := h.1; have := h.2; omega)
theorem inA_new {A : List Node_one} {o : Node_one} {y : Int} : InA (A ++ [o]) y ↔ InA A y ∨ y = A.length := by
 simp only [InA, List.length_append, List.length_cons, List.length_nil]; omega
theorem Tree.add {A : List Node_one} {K : Int → List Int} (h : Tree A K) (n : Api_node) (ha : n.Attrs.length ≤ 1024) : Tree (A ++ [blankN n]) (addK A K) := by
  have hin : ∀ {y}, InA A y → InA (A ++ [blankN n]) y := fun h => inA_new.2 (.inl h)
  have hne : ∀ {y}, InA A y → y ≠ A.length := fun h => by have := h.2; omega
  constructor
  · intro x hx
    rcases inA_new.1 hx with hx | rfl
    · rw [addK, if_neg (hne hx)]
      have hX := h.lnk x hx
      refine ⟨by rw [nodeA, at_old hx]; exact hX.first, by rw [nodeA, at_old hx]; exact hX.last, fun pre y suf e => ?_⟩
      obtain ⟨g1, g2, g3, g4⟩ := hX.kid pre y suf e
      rw [nodeA, at_old g1]
      exact ⟨hin g1, g2, g3, g4⟩
    · rw [addK, if_pos rfl]
      exact ⟨by rw [nodeA, at_new]; rfl, by rw [nodeA, at_new]; rfl, fun pre y suf e => by simp at e⟩
  · intro x hx
    rcases inA_new.1 hx with hx | rfl
    · rw [addK, if_neg (hne hx)]; exact h.nodup x hx
    · rw [addK, if_pos rfl]; exact List.nodup_nil
  · intro y hy hp
    rcases inA_new.1 hy with hy | rfl
    · rw [nodeA, at_old hy] at hp ⊢
      obtain ⟨h1, h2⟩ := h.up y hy hp
      exact ⟨hin h1, by rw [addK, if_neg (hne h1)]; exact h2⟩
    · rw [nodeA, at_new] at hp; exact absurd rfl hp
  · intro y hy hp
    rcases inA_new.1 hy with hy | rfl
    · rw [nodeA, at_old hy] at hp ⊢; exact h.free y hy hp
    · rw [nodeA, at_new]; exact ⟨rfl, rfl⟩
  · intro y hy
    rcases inA_new.1 hy with hy | rfl
    · rw [at_old hy]; exact (h.host y hy).imp (fun h => h) hin
    · rw [at_new]; exact .inl rfl
  · intro y hy hk
    rcases inA_new.1 hy with hy | rfl
    · rw [nodeA, at_old hy] at hk; rw [at_old hy]; exact h.hostK y hy hk
    · rw [at_new]; rfl
  · intro y hy hp
    rcases inA_new.1 hy with hy | rfl
    · rw [nodeA, at_old hy] at hp ⊢; exact h.upK y hy hp
    · rw [nodeA, at_new] at hp; exact absurd rfl hp
  · intro y hy
    rcases inA_new.1 hy with hy | rfl
    · rw [nodeA, at_old hy]; exact (h.inner y hy).imp (fun h => h) hin
    · rw [nodeA, at_new]; exact .inl rfl
  · obtain ⟨rk, hrk⟩ := h.rank
    refine ⟨rk, fun x hx => ?_⟩
    rcases inA_new.1 (inA_iff.1 hx) with hx | rfl
    · rw [nextUp, at_old hx]
      exact (hrk x hx.b).imp (fun h => h) fun h => ⟨(hin (inA_iff.1 h.1)).b, h.2⟩
    · rw [nextUp, at_new]; exact .inl rfl
  · intro i hi
    by_cases e : i < A.length
    · rw [at_app_l e]; exact h.attrs i e
    · have : i = A.length := by simp at hi; omega
      subst this; rw [at_app_new]; exact ha
theorem Tree.hosted {A : List Node_one} {K : Int → List Int} (h : Tree A K) {id fr : Int} (hi : InA A id) (hf : InA A fr) (hk : (nodeA A fr).Kind = 5) (hh : (at_ A fr.toNat).host = -1) (hna : ¬ Anc A id fr) : Tree (setHost (setInner A id fr) fr id) K := by
  have hl : (setHost (setInner A id fr) fr id).length = A.length := by simp [setHost, setInner]
  have hl1 : (setInner A id fr).length = A.length := by simp [setInner]
  obtain ⟨B, hB⟩ : ∃ B, B = setHost (setInner A id fr) fr id := ⟨_, rfl⟩
  have hn : ∀ y : Int, 0 ≤ y → (nodeA B y) = if y = id then { nodeA A y with Inner := fr } else nodeA A y := fun y hy => by
    rw [hB, nodeA, setHost, at_setI (hf.len hl1) hy]
    by_cases e : y = fr
    · subst e; rw [if_pos rfl]; show nodeA (setInner A id y) y = _
      rw [nodeA, setInner, at_setI hi hy]; split
      · next e => rw [e]
      · rfl
    · rw [if_neg e, setInner, at_setI hi hy]; split
      · next e => rw [e]
      · rfl
  have hho : ∀ y : Int, 0 ≤ y → (at_ B y.toNat).host = if y = fr then id else (at_ A y.toNat).host := fun y hy => by
    rw [hB, setHost, at_setI (hf.len hl1) hy]
    by_cases e : y = fr
    · rw [if_pos e, if_pos e]
    · rw [if_neg e, if_neg e, setInner, at_setI hi hy]; split
      · next e => rw [e]
      · rfl
  rw [← hB] at hl ⊢
  have hiA : ∀ {y}, InA B y → InA A y := fun h => h.len hl.symm
  have f1 : ∀ y : Int, 0 ≤ y → (nodeA B y).Parent = (nodeA A y).Parent ∧ (nodeA B y).First = (nodeA A y).First ∧ (nodeA B y).Last = (nodeA A y).Last ∧ (nodeA B y).Prev = (nodeA A y).Prev ∧ (nodeA B y).Next = (nodeA A y).Next ∧ (nodeA B y).Kind = (nodeA A y).Kind ∧ (nodeA B y).Attrs = (nodeA A y).Attrs := fun y hy => by
    rw [hn y hy]; split <;> exact ⟨rfl, rfl, rfl, rfl, rfl, rfl, rfl⟩
  constructor
  · intro x hx
    have hX := h.lnk x (hiA hx)
    have gx := f1 x hx.1
    refine ⟨by rw [gx.2.1]; exact hX.first, by rw [gx.2.2.1]; exact hX.last, fun pre y suf e => ?_⟩
    obtain ⟨g1, g2, g3, g4⟩ := hX.kid pre y suf e
    have gy := f1 y g1.1
    exact ⟨g1.len hl, by rw [gy.1, g2], by rw [gy.2.2.2.1, g3], by rw [gy.2.2.2.2.1, g4]⟩
  · exact fun x hx => h.nodup x (hiA hx)
  · intro y hy hp
    rw [(f1 y hy.1).1] at hp ⊢
    exact (h.up y (hiA hy) hp).imp (fun h => h.len hl) fun h => h
  · intro y hy hp
    have gy := f1 y hy.1
    rw [gy.1] at hp
    rw [gy.2.2.2.1, gy.2.2.2.2.1]
    exact h.free y (hiA hy) hp
  · intro y hy
    rw [hho y hy.1]; split
    · exact .inr (hi.len hl)
    · exact (h.host y (hiA hy)).imp (fun h => h) fun h => h.len hl
  · intro y hy hky
    rw [(f1 y hy.1).2.2.2.2.2.1] at hky
    rw [hho y hy.1, if_neg (fun e : y = fr => hky (by rw [e]; exact hk))]
    exact h.hostK y (hiA hy) hky
  · intro y hy hp
    rw [(f1 y hy.1).1] at hp
    rw [(f1 y hy.1).2.2.2.2.2.1]
    exact h.upK y (hiA hy) hp
  · intro y hy
    rw [hn y hy.1]; split
    · exact .inr (hf.len hl)
    · exact (h.inner y (hiA hy)).imp (fun h => h) fun h => h.len hl
  · have hroot : nextUp A fr = -1 := by
      have hp : (nodeA A fr).Parent = -1 := by
        by_cases hp : (nodeA A fr).Parent = -1
        · exact hp
        · exact absurd hk (h.upK fr hf hp)
      simp only [nodeA] at hp
      rw [nextUp, if_pos hp, hh]
    refine rank_link hl h.rank hi hf hroot hna fun y hy => ?_
    have e1 := (f1 y hy.1).1
    simp only [nodeA] at e1
    simp only [nextUp, e1, hho y hy.1]
    by_cases e : y = fr
    · have hp : (at_ A y.toNat).Node.Parent = -1 := by
        by_cases hp : (nodeA A y).Parent = -1
        · exact hp
        · exact absurd (by rw [e]; exact hk) (h.upK y hy hp)
      rw [if_pos hp, if_pos e, if_pos e]
    · rw [if_neg e, if_neg e]
  · intro i hi2
    have := (f1 (i : Int) (by omega)).2.2.2.2.2.2
    simp only [nodeA, toNat_nat] at this
    rw [this]; exact h.attrs i (by omega)
theorem Tree.new : Tree [docD] (fun _ => []) := by
  have hx0 : ∀ {x : Int}, InA [docD] x → x = 0 := fun h => by have h1 := h.1; have h2 : _ < ((1 : Nat) : Int) := h.2; omega
  constructor
  · intro x hx; have := hx0 hx; subst this; exact ⟨rfl, rfl, fun pre y suf e => by simp at e⟩
  · intro x hx; exact List.nodup_nil
  · intro x hx hp; have := hx0 hx; subst this; exact absurd rfl hp
  · intro x hx hp; have := hx0 hx; subst this; exact ⟨rfl, rfl⟩
  · intro x hx; have := hx0 hx; subst this; exact .inl rfl
  · intro x hx hp; have := hx0 hx; subst this; rfl
  · intro x hx hp; have := hx0 hx; subst this; exact absurd rfl hp
  · intro x hx; have := hx0 hx; subst this; exact .inl rfl
  · exact ⟨fun _ => 0, fun x hx => by have := hx0 (inA_iff.1 hx); subst this; exact .inl rfl⟩
  · intro i hi; have : i = 0 := by simp at hi; omega
    subst this; exact Nat.zero_le _
end Go.Proofs.YtoohapbaelmkcaaGreat
end
section
set_option maxRecDepth 100000
namespace Go.Proofs.YtoohapbaelmkcaaGreat
open Go Go.Hb Go.RowKit
theorem KidsT_spec {k : Ctx} {w : World} {a : Nat} {A : List Node_one} {K : Int → List Int} {id : Int} (h : Tree A K) (hi : InA A id) (hl : A.length ≤ 32768) (hO : Own k w [arenaL a A]) :
  Tri Tryz.prog 108 #[.pointer (some ⟨a, 0, none⟩), .int .i64 id] k w fun v m => ∃ q d, v = .slice q (K id).length d ∧ m = [arenaL a A, sls q d 3 1 (eI .i64) (K id)] := by
 have h1 := h.len hi
 have h2 := hi.1
 have h3 := hi.2
 refine (Kids_spec (xs := K id) (by omega) (by omega) (fun _ => (h.lnk id hi).chain) hO).mono ?_
 rintro v m (⟨h, _⟩ | ⟨_, q, d, rfl, rfl⟩)
 ·rw [hi.b] at h; simp at h
 ·exact ⟨q, d, rfl, rfl⟩
end Go.Proofs.YtoohapbaelmkcaaGreat
end
section
namespace Go.Proofs.YtoohapbaelmkcaaGreat
open Go Go.Hb Go.RowKit
structure Sim1 (a : Node_one) (kids : List Int) (o : Ref01_one) : Prop where
 kind : o.Kind = a.Node.Kind
 space : o.Space = a.Node.Space
 name : o.Name = a.Node.Name
 attrs : o.Attrs = a.Node.Attrs
 data : o.Data = a.Node.Data
 system : o.System = a.Node.System
 inner : o.Inner = a.Node.Inner
 host : o.Host = a.host
 up : o.Up = a.Node.Parent
 kids : o.Kids = kids
structure Sim (A : List Node_one) (K : Int → List Int) (R : List Ref01_one) : Prop where
 len : R.length = A.length
 one : ∀ x : Int, InA A x → Sim1 (at_ A x.toNat) (K x) (at_ R x.toNat)
theorem Sim.has {A : List Node_one} {K : Int → List Int} {R : List Ref01_one} (s : Sim A K R) (x : Int) : hasR R x = hasB A x := by simp [hasR, hasB, s.len]
def InR2 (R : List Ref01_one) (x : Int) : Prop := 0 ≤ x ∧ x < R.length
theorem at_setR {R : List Ref01_one} {i y : Int} (hi : InR2 R i) (hy : 0 ≤ y) (v : Ref01_one) : at_ (R.set i.toNat v) y.toNat = if y = i then v else at_ R y.toNat := by
 obtain ⟨h0, h1⟩ := hi
 by_cases h : y = i
 ·subst h; rw [if_pos rfl, at_set_eq (by omega)]
 ·rw [if_neg h, at_set_ne (by omega)]
theorem Sim.inR {A : List Node_one} {K : Int → List Int} {R : List Ref01_one} (s : Sim A K R) {x : Int} (h : InA A x) : InR2 R x := ⟨h.1, by rw [s.len]; exact h.2⟩
/-- with one node's row of children put down, then one node's parent -/
def setKidsR (R : List Ref01_one) (i : Int) (p : Option Addr) (l : List Int) (c : Nat) : List Ref01_one := R.set i.toNat { at_ R i.toNat with KidsP := p, Kids := l, KidsC := c }
def setUpR (R : List Ref01_one) (i v : Int) : List Ref01_one := R.set i.toNat { at_ R i.toNat with Up := v }
theorem setKidsR_len {R : List Ref01_one} {i : Int} {p : Option Addr} {l : List Int} {c : Nat} : (setKidsR R i p l c).length = R.length := by simp [setKidsR]
theorem setUpR_len {R : List Ref01_one} {i v : Int} : (setUpR R i v).length = R.length := by simp [setUpR]
theorem Sim1.coreTo {a b : Node_one} {l : List Int} {o : Ref01_one} (s : Sim1 a l o) (h : coreN b = coreN a) (hp : b.Node.Parent = a.Node.Parent) : Sim1 b l o := by
 have e1 := core_kind h
 have e2 := core_host h
 have e3 := core_inner h
 have e4 := core_attrs h
 have e5 := congrArg (fun z : Node_one => z.Node.Space) h
 have e6 := congrArg (fun z : Node_one => z.Node.Name) h
 have e7 := congrArg (fun z : Node_one => z.Node.Data) h
 have e8 := congrArg (fun z : Node_one => z.Node.System) h
 simp only [coreN] at e5 e6 e7 e8
 exact ⟨by rw [e1, s.kind], by rw [e5, s.space], by rw [e6, s.name], by rw [e4, s.attrs], by rw [e7, s.data], by rw [e8, s.system], by rw [e3, s.inner], by rw [e2, s.host], by rw [hp, s.up], s.kids⟩
theorem Sim.relinked {A B : List Node_one} {K : Int → List Int} {R : List Ref01_one} (s : Sim A K R) {up id v : Int} {l : List Int} {p : Option Addr} {c : Nat} (hl : B.length = A.length) (hup : InA A up) (hid : InA A id) (hne : up ≠ id)
  (hc : ∀ y, InA A y → coreN (at_ B y.toNat) = coreN (at_ A y.toNat)) (hp : ∀ y, InA A y → (nodeA B y).Parent = if y = id then v else (nodeA A y).Parent) :
  Sim B (fun x => if x = up then l else K x) (setUpR (setKidsR R up p l c) id v) := by
 have h1 : InR2 (setKidsR R up p l c) id := by have := s.inR hid; exact ⟨this.1, by rw [setKidsR_len]; exact this.2⟩
 refine ⟨by rw [setUpR_len, setKidsR_len, s.len, hl], fun y hy => ?_⟩
 have hyA : InA A y := hy.len hl.symm
 have e1 : at_ (setKidsR R up p l c) y.toNat = if y = up then { at_ R up.toNat with KidsP := p, Kids := l, KidsC := c } else at_ R y.toNat := at_setR (s.inR hup) hy.1 _
 have e1' : at_ (setKidsR R up p l c) id.toNat = at_ R id.toNat := by rw [setKidsR, at_setR (s.inR hup) hid.1, if_neg hne.symm]
 have e2 : at_ (setUpR (setKidsR R up p l c) id v) y.toNat = if y = id then { at_ (setKidsR R up p l c) id.toNat with Up := v } else at_ (setKidsR R up p l c) y.toNat := at_setR h1 hy.1 _
 rw [e2]
 have sy := s.one y hyA
 have hpy := hp y hyA
 have hcy := hc y hyA
 by_cases h : y = id
 ·subst h
  rw [if_pos rfl, e1', if_neg (fun e => hne e.symm)]
  rw [if_pos rfl] at hpy
  have sy2 : Sim1 { at_ A y.toNat with Node := { (at_ A y.toNat).Node with Parent := v } } (K y) { at_ R y.toNat with Up := v } := ⟨sy.kind, sy.space, sy.name, sy.attrs, sy.data, sy.system, sy.inner, sy.host, rfl, sy.kids⟩
  refine sy2.coreTo (hcy.trans ?_) hpy
  rfl
 ·rw [if_neg h, e1]
  rw [if_neg h] at hpy
  by_cases h2 : y = up
  ·subst h2
   rw [if_pos rfl, if_pos rfl]
   have sy2 : Sim1 (at_ A y.toNat) l { at_ R y.toNat with KidsP := p, Kids := l, KidsC := c } := ⟨sy.kind, sy.space, sy.name, sy.attrs, sy.data, sy.system, sy.inner, sy.host, sy.up, rfl⟩
   exact sy2.coreTo hcy hpy
  ·rw [if_neg h2, if_neg h2]
   exact sy.coreTo hcy hpy
noncomputable def linkKs (A : List Node_one) (K : Int → List Int) (up id before : Int) : Int → List Int := if (linkL A up id before).1 = 0 then linkK K up id before else K
def unlinkKs (A : List Node_one) (K : Int → List Int) (id : Int) : Int → List Int := if (unlinkL A id).1 = 0 then unlinkK K (nodeA A id).Parent id else K
theorem linkL_err {A : List Node_one} {up id before : Int} (h : (linkL A up id before).1 ≠ 0) : (linkL A up id before).2 = A := by
 unfold linkL at h ⊢
 by_cases c1 : hasB A up = false ∨ hasB A id = false ∨ (before ≠ -1 ∧ hasB A before = false)
 ·rw [if_pos c1]
 rw [if_neg c1] at h ⊢
 by_cases c2 : parentB (at_ A up.toNat).Node.Kind = false ∨ (at_ A id.toNat).Node.Kind = 0 ∨ (at_ A id.toNat).Node.Kind = 5
 ·rw [if_pos c2]
 rw [if_neg c2] at h ⊢
 by_cases c3 : (at_ A id.toNat).Node.Parent ≠ -1 ∨ aboveB A up id = true
 ·rw [if_pos c3]
 rw [if_neg c3] at h ⊢
 by_cases c4 : before ≠ -1 ∧ (at_ A before.toNat).Node.Parent ≠ up
 ·rw [if_pos c4]
 rw [if_neg c4] at h; exact absurd rfl h
theorem unlinkL_err {A : List Node_one} {id : Int} (h : (unlinkL A id).1 ≠ 0) : (unlinkL A id).2 = A := by
 unfold unlinkL at h ⊢
 repeat' split at h
 all_goals first | (simp at h; done) | simp_all
theorem Tree.linkS {A : List Node_one} {K : Int → List Int} (t : Tree A K) (up id before : Int) : Tree (linkL A up id before).2 (linkKs A K up id before) := by
 unfold linkKs
 split
 ·next h => exact t.link h
 ·next h => rw [linkL_err h]; exact t
theorem Tree.unlinkS {A : List Node_one} {K : Int → List Int} (t : Tree A K) (id : Int) : Tree (unlinkL A id).2 (unlinkKs A K id) := by
 unfold unlinkKs
 split
 ·next h => exact t.unlink h
 ·next h => rw [unlinkL_err h]; exact t
theorem Sim.link {A : List Node_one} {K : Int → List Int} {R : List Ref01_one} (t : Tree A K) (s : Sim A K R) {up id before : Int} (h0 : (linkL A up id before).1 = 0) (p : Option Addr) (c : Nat) :
  Sim (linkL A up id before).2 (linkK K up id before) (setUpR (setKidsR R up p (insB id before (at_ R up.toNat).Kids) c) id up) := by
 obtain ⟨l1, l2, g⟩ := link_ok t h0
 have hp := (g.put t).2
 rw [(s.one up g.hup).kids]
 refine s.relinked linkL_len g.hup g.hid ?_ (fun y hy => (hp y hy.1).core) fun y hy => (hp y hy.1).parent
 intro e
 exact g.above (e ▸ .refl _)
theorem Sim.unlink {A : List Node_one} {K : Int → List Int} {R : List Ref01_one} (t : Tree A K) (s : Sim A K R) {id : Int} (h0 : (unlinkL A id).1 = 0) (p : Option Addr) (c : Nat) :
    Sim (unlinkL A id).2 (unlinkK K (nodeA A id).Parent id) (setUpR (setKidsR R (nodeA A id).Parent p ((at_ R ((nodeA A id).Parent).toNat).Kids.filter (fun y => y ≠ id)) c) id (-1)) := by
  obtain ⟨l1, l2, g⟩ := unlink_ok t h0
  have hL := t.lnk _ g.hup
  have hN := t.nodup _ g.hup
  have grow := g.row
  rw [g.row] at hL hN
  have hp : ∀ y, 0 ≤ y → Gone A (unlinkL A id).2 (nodeA A id).Parent id (lastL l1) (headL l2) y := fun y hy => by
    rw [g.res]
    refine gone_at g.hid g.hup ?_ ?_ hy
    · rw [← g.prev]; exact t.prevIn g.hid
    · rw [← g.next]; exact t.nextIn g.hid
  rw [(s.one _ g.hup).kids]
  have hne : (nodeA A id).Parent ≠ id := by
    intro e
    obtain ⟨rk, hrk⟩ := t.rank
    have h1 := hrk id g.hid.b
    have e' : (at_ A id.toNat).Node.Parent = id := e
    have e2 : nextUp A id = id := by rw [nextUp, if_neg (by have := g.par; simp only [nodeA] at this; exact this), e']
    rw [e2] at h1
    rcases h1 with h1 | h1
    · have := g.hid.1; omega
    · omega
  have hs := s.relinked (v := -1) (l := (K (nodeA A id).Parent).filter (fun y => y ≠ id)) (p := p) (c := c) (B := (unlinkL A id).2) unlinkL_len g.hup g.hid hne (fun y hy => (hp y hy.1).core) fun y hy => (hp y hy.1).parent
  have e : unlinkK K (nodeA A id).Parent id = fun x => if x = (nodeA A id).Parent then (K (nodeA A id).Parent).filter (fun y => y ≠ id) else K x := by
    funext x
    rw [unlinkK]
    split
    · next h => rw [h]
    · rfl
  rw [e]; exact hs
theorem Sim.add {A : List Node_one} {K : Int → List Int} {R : List Ref01_one} (s : Sim A K R) {n : Api_node} {o : Ref01_one} (h : Sim1 (blankN n) [] (blankR o)) : Sim (A ++ [blankN n]) (addK A K) (R ++ [blankR o]) := by
  refine ⟨by simp [s.len], fun x hx => ?_⟩
  rcases inA_new.1 hx with hx | rfl
  · rw [at_old hx, addK, if_neg (by have := hx.2; omega), at_app_l (by have := hx.1; have := hx.2; have := s.len; omega)]
    exact s.one x hx
  · rw [at_new, addK, if_pos rfl, show ((A.length : Int)).toNat = R.length by rw [s.len]; rfl, at_app_new]
    exact h
theorem Sim.new : Sim [docD] (fun _ => []) [docR] := by
 refine ⟨rfl, fun x hx => ?_⟩
 have : x = 0 := by have h1 := hx.1; have h2 : _ < ((1 : Nat) : Int) := hx.2; omega
 subst this
 exact ⟨rfl, rfl, rfl, rfl, rfl, rfl, rfl, rfl, rfl, rfl⟩
end Go.Proofs.YtoohapbaelmkcaaGreat
end
section
set_option maxRecDepth 100000
namespace Go.Proofs.YtoohapbaelmkcaaGreat
open Go Go.Hb Go.RowKit
theorem Sim.atB {A : List Node_one} {K : Int → List Int} {R : List Ref01_one} (s : Sim A K R) {x : Int} (h : hasB A x = true) : Sim1 (at_ A x.toNat) (K x) (at_ R x.toNat) := s.one x (inA_iff.1 h)
theorem IsA_spec {k : Ctx} {w : World} {r : Nat} {A : List Node_one} {K : Int → List Int} {R : List Ref01_one} {p : Option Addr} {c : Nat} {id : Int} (s : Sim A K R) (hO : Own k w [rB r p R.length c, rS p c R]) :
  Tri Tryz.prog 65 #[.pointer (some ⟨r, 0, none⟩), .int .i64 id] k w fun v m => v = .bool (hasB A id) ∧ m = [rB r p R.length c, rS p c R] := by
 rw [← s.has]; exact Is_spec hO
theorem rParent_spec {k : Ctx} {w : World} {r : Nat} {A : List Node_one} {K : Int → List Int} {R : List Ref01_one} {p : Option Addr} {c : Nat} {id : Int} (s : Sim A K R) (hg : Gs p R.length) (hid : hasB A id = true) (hO : Own k w [rB r p R.length c, rS p c R]) :
  Tri Tryz.prog 66 #[.pointer (some ⟨r, 0, none⟩), .int .i64 id] k w fun v m => v = .bool (parentB (at_ A id.toNat).Node.Kind) ∧ m = [rB r p R.length c, rS p c R] := by
 refine enter (args := [.pointer (some ⟨r, 0, none⟩), .int .i64 id]) Tryz.func66 rfl rfl ?_
 have hi := hasB_true hid
 have hl := s.len
 have hk := (s.atB hid).kind
 refine K0 (K1 (V2 rfl rfl rfl (K2 (K3 (K0 (K1 (V1 rfl rfl rfl (V3 rfl rfl rfl rfl (l_y rfl rfl (y_fldb (o' := 0) rfl) (l_y rfl rfl (D5 hO rfl) ?_))))))))))
 refine V1 rfl rfl rfl (l_y rfl rfl (y_idx rfl rfl) ?_)
 refine l_y rfl rfl (y_fld (j' := 0) rfl) ?_
 refine l_y rfl rfl (y_e1 (x0 := 0) hO rfl) ?_
 refine V2 rfl rfl rfl (K2 (K3 (K0 (K1 (V1 rfl rfl rfl ?_)))))
 refine Z0 (fun h2_1 => ?_) (fun h2_1 => ?_)
 ·refine V1 rfl rfl rfl ?_
  repeat refine M2 ?_
  refine l_y rfl rfl (y_pick_t rfl rfl) (V1 rfl rfl rfl ?_)
  repeat refine M2 ?_
  refine l_y rfl rfl (y_pick_t rfl rfl) (V2 rfl rfl rfl (K2 (K3 (K6 ?_))))
  rw [hk] at *
  exact fin1 rfl rfl ⟨_, ⟨by simp [parentB, *], rfl⟩, hO⟩
 ·refine V1 rfl rfl rfl (V1 rfl rfl rfl ?_)
  refine Z0 (fun h2_4 => ?_) (fun h2_4 => ?_)
  ·refine l_y rfl rfl (y_pick_f rfl rfl) (V1 rfl rfl rfl ?_)
   repeat refine M2 ?_
   refine l_y rfl rfl (y_pick_t rfl rfl) (V2 rfl rfl rfl (K2 (K3 (K6 ?_))))
   rw [hk] at *
   exact fin1 rfl rfl ⟨_, ⟨by simp [parentB, *], rfl⟩, hO⟩
  ·refine l_y rfl rfl (y_pick_f rfl rfl) (V1 rfl rfl rfl (V1 rfl rfl rfl ?_))
   refine Z0 (fun h2_8 => ?_) (fun h2_8 => ?_)
   ·refine l_y rfl rfl (y_pick_f rfl rfl) (V2 rfl rfl rfl (K2 (K3 (K6 ?_))))
    rw [hk] at *
    exact fin1 rfl rfl ⟨_, ⟨by simp [parentB, *], rfl⟩, hO⟩
   ·refine l_y rfl rfl (y_pick_f rfl rfl) (V2 rfl rfl rfl (K2 (K3 (K6 ?_))))
    rw [hk] at *
    exact fin1 rfl rfl ⟨_, ⟨by simp [parentB, *], rfl⟩, hO⟩
set_option maxHeartbeats 1000000 in
theorem rAbove_spec {k : Ctx} {w : World} {r : Nat} {A : List Node_one} {K : Int → List Int} {R : List Ref01_one} {p : Option Addr} {c : Nat} {id other : Int} (s : Sim A K R) (hg : Gs p R.length) (hrk : Ranked A) (hO : Own k w [rB r p R.length c, rS p c R]) :
    Tri Tryz.prog 67 #[.pointer (some ⟨r, 0, none⟩), .int .i64 id, .int .i64 other] k w fun v m => v = .bool (aboveB A id other) ∧ m = [rB r p R.length c, rS p c R] := by
  refine enter (args := [.pointer (some ⟨r, 0, none⟩), .int .i64 id, .int .i64 other]) Tryz.func67 rfl rfl ?_
  obtain ⟨rk, hrk⟩ := hrk
  have hl := s.len
  refine K0 (K1 (V2 rfl rfl rfl (K2 (K3 (K0 (K0 (K1 (V1 rfl rfl rfl (V1 rfl rfl rfl (CK [.b r, .p p] hO rfl (fun k' hx hr hO' => IsA_spec s (hO := hO')) ?_))))))))))
  rintro _ _ w ⟨rfl, rfl⟩ hO
  simp only [List.cons_append, List.nil_append] at hO
  refine l_y rfl rfl (y_not rfl rfl) (V1 rfl rfl rfl ?_)
  refine l_split 12 rfl (fun hg12 => ?_) (fun hg12 => ?_)
  · simp only [Bool.not_eq_true', Bool.not_eq_false'] at hg12
    repeat refine M2 ?_
    refine l_y rfl rfl (y_pick_t rfl rfl) (K2 (K3 (L8 (K0 (K1 (V2 rfl rfl rfl (K2 (K3 (K6 (K9 ?_))))))))))
    first
    | exact fin1 rfl rfl ⟨_, ⟨by rw [aboveB, hg12]; rfl, rfl⟩, hO⟩
    | exact fin1 rfl rfl ⟨_, ⟨by rw [aboveB, hc17, Bool.and_false]; rfl, rfl⟩, hO⟩
  · simp only [Bool.not_eq_true', Bool.not_eq_false'] at hg12
    refine V1 rfl rfl rfl (V1 rfl rfl rfl (CK [.b r, .p p] hO rfl (fun k' hx hr hO' => IsA_spec s (hO := hO')) ?_))
    rintro _ _ w ⟨rfl, rfl⟩ hO
    simp only [List.cons_append, List.nil_append] at hO
    refine l_y rfl rfl (y_not rfl rfl) (l_y rfl rfl (y_pick_f rfl rfl) (K2 (K3 ?_)))
    refine c_split rfl (fun hc17 => ?_) (fun hc17 => ?_)
    · simp only [Bool.not_eq_true', Bool.not_eq_false'] at hc17
      refine K0 (K1 (V2 rfl rfl rfl (K2 (K3 (K6 (K9 ?_))))))
      first
      | exact fin1 rfl rfl ⟨_, ⟨by rw [aboveB, hg12]; rfl, rfl⟩, hO⟩
      | exact fin1 rfl rfl ⟨_, ⟨by rw [aboveB, hc17, Bool.and_false]; rfl, rfl⟩, hO⟩
    · simp only [Bool.not_eq_true', Bool.not_eq_false'] at hc17
      refine K5 (K3 (K0 (K4 (c_rounds (X := Int) (fun x => [(0, .pointer (some ⟨r, 0, none⟩)), (1, .int .i64 x), (2, .int .i64 other), (6, .bool false)]) (fun x w => Own k w [rB r p R.length c, rS p c R] ∧ ((x = -1 ∨ hasB A x = true)) ∧ ((Anc A id other ↔ Anc A x other))) (fun x => if x = -1 then 0 else rk x + 1) (id) ⟨rfl, rfl, rfl, rfl, trivial⟩ ⟨hO.only [.b r, .p p], .inr hg12, Iff.rfl⟩ ?_))))
      rintro x w m hm ⟨hO, hx, he⟩
      refine K0 (K0 (K1 (V1 rfl rfl rfl ?_)))
      refine Z1 (fun h3_1 => ?_) (fun h3_1 => ?_)
      · refine K2 (K3 (L8 (K5 (K3 (K4 (K0 (K0 ?_)))))))
        have hb := hx.resolve_left h3_1
        have hb2 := hasB_true hb
        have hup := (s.atB hb).up
        have hho := (s.atB hb).host
        refine K1 (V1 rfl rfl rfl (V1 rfl rfl rfl ?_))
        refine Z0 (fun h4_2 => ?_) (fun h4_2 => ?_)
        · refine K2 (K3 (L8 (K0 (K1 (V2 rfl rfl rfl (K2 (K3 (K6 (K9 (L0 (K9 (L0 (K9 ?_)))))))))))))
          have hid : hasB A id = true := hg12
          have hot : hasB A other = true := hc17
          have e : x = other := by omega
          subst e
          exact fin1 rfl rfl ⟨_, ⟨by simp [aboveB, hid, hot, ancB_of (he.2 (.refl _))], rfl⟩, hO⟩
        · refine K2 (K3 (L9 (K5 (K3 (K0 (K1 (V1 rfl rfl rfl (V3 rfl rfl rfl rfl (l_y rfl rfl (y_fldb (o' := 0) rfl) (l_y rfl rfl (D5 hO rfl) ?_))))))))))
          refine V1 rfl rfl rfl (l_y rfl rfl (y_idx rfl rfl) ?_)
          refine l_y rfl rfl (y_fld (j' := 8) rfl) ?_
          refine l_y rfl rfl (y_e1 (x0 := 8) hO rfl) ?_
          refine V2 rfl rfl rfl (K2 (K3 (K0 (K0 (K1 (V1 rfl rfl rfl ?_))))))
          refine Z0 (fun h7_1 => ?_) (fun h7_1 => ?_)
          · refine K2 (K3 (L8 (K1 (V1 rfl rfl rfl (V3 rfl rfl rfl rfl (l_y rfl rfl (y_fldb (o' := 0) rfl) (l_y rfl rfl (D5 hO rfl) ?_)))))))
            refine V1 rfl rfl rfl (l_y rfl rfl (y_idx rfl rfl) ?_)
            refine l_y rfl rfl (y_fld (j' := 7) rfl) ?_
            refine l_y rfl rfl (y_e1 (x0 := 7) hO rfl) ?_
            refine V2 rfl rfl rfl (K2 (K3 (K1 (V1 rfl rfl rfl (V2 rfl rfl rfl (K2 (K8 ?_)))))))
            have hnx : nextUp A x = (at_ R (x : Int).toNat).Host := by simp only [nextUp, ← hup, ← hho]; first | rw [if_pos h7_1] | rw [if_neg h7_1]
            have hrx := hrk x (hx.resolve_left h3_1)
            have hlt : (if nextUp A x = -1 then 0 else rk (nextUp A x) + 1) < rk x + 1 := by
              split
              · omega
              · rename_i h; have := (hrx.resolve_left h).2; omega
            exact q_next ((at_ R (x : Int).toNat).Host) ⟨rfl, rfl, rfl, rfl, trivial⟩ ⟨hO.only [.b r, .p p], by rw [← hnx]; exact hrx.imp (fun h => h) And.left, by rw [he, anc_ne h4_2 h3_1, hnx]⟩ (by rw [← hm, if_neg h3_1, ← hnx]; exact hlt)
          · refine K2 (K3 (L9 (K5 (K3 (K1 (V1 rfl rfl rfl (V2 rfl rfl rfl (K2 (K8 ?_)))))))))
            have hnx : nextUp A x = (at_ R (x : Int).toNat).Up := by simp only [nextUp, ← hup, ← hho]; first | rw [if_pos h7_1] | rw [if_neg h7_1]
            have hrx := hrk x (hx.resolve_left h3_1)
            have hlt : (if nextUp A x = -1 then 0 else rk (nextUp A x) + 1) < rk x + 1 := by
              split
              · omega
              · rename_i h; have := (hrx.resolve_left h).2; omega
            exact q_next ((at_ R (x : Int).toNat).Up) ⟨rfl, rfl, rfl, rfl, trivial⟩ ⟨hO.only [.b r, .p p], by rw [← hnx]; exact hrx.imp (fun h => h) And.left, by rw [he, anc_ne h4_2 h3_1, hnx]⟩ (by rw [← hm, if_neg h3_1, ← hnx]; exact hlt)
      · refine K2 (K3 (L9 (K7 (L1 (L1 (L2 (K3 (K0 (K1 (V2 rfl rfl rfl (K2 (K3 (K6 ?_)))))))))))))
        have hot2 := hasB_true hc17
        have e : x = -1 := by omega
        subst e
        exact fin1 rfl rfl ⟨_, ⟨by simp [aboveB, ancB_not (fun h => absurd (anc_none (he.1 h)) (by omega))], rfl⟩, hO⟩
theorem lift2r {f : FuncId} {args : Array Value} {Q : Value → Prop} {k : Ctx} {w : World} {r : Nat} {R : List Ref01_one} (hO : Own k w [rarL r R])
  (h : ∀ k' p c, Gs p R.length → Own k' w [rB r p R.length c, rS p c R] → Tri Tryz.prog f args k' w fun v m => Q v ∧ m = [rB r p R.length c, rS p c R]) :
  Tri Tryz.prog f args k w fun v m => Q v ∧ m = [rarL r R] := by
 obtain ⟨p, c, F, hg, hF, hO⟩ := rarL_open hO
 refine Ret.mono (Ret.framed hO (.cons (.hd _ _) (.cons (.hd _ _) (.nil _))) fun k' _ _ hO' => h k' p c hg hO') ?_
 rintro v w' ⟨m, ⟨hv, rfl⟩, hO⟩
 exact ⟨_, ⟨hv, rfl⟩, (rarL_shut hF (hO.ks [.b r, .p p, .f])).one⟩
theorem rKids_spec {k : Ctx} {w : World} {r : Nat} {A : List Node_one} {K : Int → List Int} {R : List Ref01_one} {id : Int} (s : Sim A K R) (hkl : hasB A id = true → (K id).length ≤ 1000000) (hO : Own k w [rarL r R]) :
  Tri Tryz.prog 87 #[.pointer (some ⟨r, 0, none⟩), .int .i64 id] k w fun v m =>
   (hasB A id = false ∧ v = .slice none 0 0 ∧ m = [rarL r R]) ∨ (hasB A id = true ∧ ∃ q d, v = .slice q (K id).length d ∧ m = [rarL r R, sls q d 3 1 (eI .i64) (K id)]) := by
 refine enter (args := [.pointer (some ⟨r, 0, none⟩), .int .i64 id]) Tryz.func87 rfl rfl ?_
 have hl := s.len
 obtain ⟨p, c, F, hg, hF, hO⟩ := rarL_open hO
 refine K0 (K1 (V2 rfl rfl rfl (K2 (K3 (K0 (K0 (K1 (V1 rfl rfl rfl (V1 rfl rfl rfl (CK [.b r, .p p] hO rfl (fun k' hx hr hO' => IsA_spec s (hO := hO')) ?_))))))))))
 rintro _ _ w ⟨rfl, rfl⟩ hO
 simp only [List.cons_append, List.nil_append] at hO
 refine l_y rfl rfl (y_not rfl rfl) (K2 (K3 ?_))
 refine c_split rfl (fun hc8 => ?_) (fun hc8 => ?_)
 ·simp only [Bool.not_eq_true', Bool.not_eq_false'] at hc8
  refine K0 (K1 (V2 rfl rfl rfl (K2 (K3 (K6 (K9 ?_))))))
  exact fin1 rfl rfl ⟨_, .inl ⟨hc8, rfl, rfl⟩, (rarL_shut hF (hO.ks [.b r, .p p, .f])).one⟩
 ·simp only [Bool.not_eq_true', Bool.not_eq_false'] at hc8
  refine K5 (K3 (K0 ?_))
  have hb2 := hasB_true hc8
  have hkk := hkl hc8
  have hs := (s.atB hc8).kids
  have hks : (at_ R id.toNat).Kids.length ≤ 1000000 := by rw [hs]; exact hkk
  have hkids := (hF.atR (i := id.toNat) (by omega)).kids
  refine K1 (s_lit0 (eI .i64) hO (fun b9 w hO => ?_))
  refine V1 rfl rfl rfl (V3 rfl rfl rfl rfl (l_y rfl rfl (y_fldb (o' := 0) rfl) (l_y rfl rfl (D5 hO rfl) ?_)))
  refine V1 rfl rfl rfl (l_y rfl rfl (y_idx rfl rfl) ?_)
  refine l_y rfl rfl (y_fld (j' := 9) rfl) ?_
  refine l_y rfl rfl (y_e1 (x0 := 9) hO rfl) ?_
  refine s_app0 hO rfl rfl (src_pool hO (by assumption)) (fun p18 c18 w hO gs18 => ?_)
  refine V2 rfl rfl rfl (K2 (K3 (K6 ?_)))
  rw [← hs]
  exact fin1 rfl rfl ⟨_, .inr ⟨hc8, _, _, rfl, rfl⟩, ((rarL_shut hF (hO.ks [.b r, .p p, .f])).ks [.o r, .p p18]).two⟩
end Go.Proofs.YtoohapbaelmkcaaGreat
end
section
set_option maxRecDepth 100000
namespace Go.Proofs.YtoohapbaelmkcaaGreat
open Go Go.Hb Go.RowKit
def insP (id before : Int) (l : List Int) : List Int := l.flatMap fun y => if y = before then [id, y] else [y]
theorem insB_P {id before : Int} : ∀ {l : List Int}, insB id before l = insP id before l ++ (if before = -1 then [id] else [])
  | [] => by simp [insB, insP]
  | y :: l => by
    rw [insB, insB_P (l := l)]
    simp only [insP, List.flatMap_cons]
    split <;> simp
theorem insP_succ {id before : Int} {l : List Int} {i : Nat} (h : i < l.length) : insP id before (l.take (i + 1)) = insP id before (l.take i) ++ (if at_ l i = before then [id, at_ l i] else [at_ l i]) := by
 rw [take_succ_at h]; simp [insP]
theorem insP_len {id before : Int} {l : List Int} : (insP id before l).length ≤ 2 * l.length := by
  induction l with
  | nil => simp [insP]
  | cons y l ih =>
    have e : insP id before (y :: l) = (if y = before then [id, y] else [y]) ++ insP id before l := by simp [insP]
    rw [e, List.length_append, List.length_cons]
    split <;> simp only [List.length_cons, List.length_nil] <;> omega
theorem Sim.link' {A : List Node_one} {K : Int → List Int} {R : List Ref01_one} (t : Tree A K) (s : Sim A K R) {up id before : Int} (h0 : (linkL A up id before).1 = 0) {p : Option Addr} {c : Nat} {l : List Int} (hl : l = insB id before (at_ R up.toNat).Kids) :
  Sim (linkL A up id before).2 (linkK K up id before) (setUpR (setKidsR R up p l c) id up) := by rw [hl]; exact Sim.link t s h0 p c
theorem RF1.kidsTo {F : Pl} {o : Ref01_one} (h : RF1 F o) {p : Option Addr} {l : List Int} {c : Nat} (hl : Sli (PH F) (.slice p l.length c) (l.map (eI .i64))) : RF1 F { o with KidsP := p, Kids := l, KidsC := c } := ⟨h.attrs, hl⟩
theorem RF.kids {F : Pl} {R : List Ref01_one} (h : RF F R) {i : Int} {p : Option Addr} {l : List Int} {c : Nat} (hi : i.toNat < R.length) (hl : Sli (PH F) (.slice p l.length c) (l.map (eI .i64))) : RF F (setKidsR R i p l c) := h.set ((h.atR hi).kidsTo hl)
theorem RF.up {F : Pl} {R : List Ref01_one} (h : RF F R) {i v : Int} (hi : i.toNat < R.length) : RF F (setUpR R i v) := h.set ⟨(h.atR hi).attrs, (h.atR hi).kids⟩
set_option maxHeartbeats 4000000 in
theorem rLink_spec {k : Ctx} {w : World} {r : Nat} {A : List Node_one} {K : Int → List Int} {R : List Ref01_one} {up id before : Int} (t : Tree A K) (s : Sim A K R) (hlen : A.length ≤ 32768) (hO : Own k w [rarL r R]) :
    Tri Tryz.prog 29 #[.pointer (some ⟨r, 0, none⟩), .int .i64 up, .int .i64 id, .int .i64 before] k w fun v m => v = .int .i64 (linkL A up id before).1 ∧ ∃ R', m = [rarL r R'] ∧ Sim (linkL A up id before).2 (linkKs A K up id before) R' := by
  refine enter (args := [.pointer (some ⟨r, 0, none⟩), .int .i64 up, .int .i64 id, .int .i64 before]) Tryz.func29 rfl rfl ?_
  obtain ⟨p, c, F, hg, hF, hO⟩ := rarL_open hO
  have hl := s.len
  have kerr : (linkL A up id before).1 ≠ 0 → Sim (linkL A up id before).2 (linkKs A K up id before) R := fun h => by rw [linkL_err h, linkKs, if_neg h]; exact s
  refine K0 (K1 (V2 rfl rfl rfl (K2 (K3 (K0 (K0 (K1 (V1 rfl rfl rfl (V1 rfl rfl rfl (CK [.b r, .p p] hO rfl (fun k' hx hr hO' => IsA_spec s (hO := hO')) ?_))))))))))
  rintro _ _ w ⟨rfl, rfl⟩ hO
  simp only [List.cons_append, List.nil_append] at hO
  refine l_y rfl rfl (y_not rfl rfl) (V1 rfl rfl rfl ?_)
  refine l_split 16 rfl (fun hg16 => ?_) (fun hg16 => ?_)
  · simp only [Bool.not_eq_true', Bool.not_eq_false'] at hg16
    repeat refine M2 ?_
    refine l_y rfl rfl (y_pick_t rfl rfl) (V1 rfl rfl rfl ?_)
    repeat refine M2 ?_
    refine l_y rfl rfl (y_pick_t rfl rfl) (K2 (K3 (L8 (K0 (K1 (V2 rfl rfl rfl (K2 (K3 (K6 (K9 ?_))))))))))
    have e : linkL A up id before = (6, A) := by simp [linkL, *]
    exact fin1 rfl rfl ⟨_, ⟨by rw [e], _, rfl, kerr (by rw [e]; simp)⟩, (rarL_shut hF (hO.ks [.b r, .p p, .f])).one⟩
  · simp only [Bool.not_eq_true', Bool.not_eq_false'] at hg16
    refine V1 rfl rfl rfl (V1 rfl rfl rfl (CK [.b r, .p p] hO rfl (fun k' hx hr hO' => IsA_spec s (hO := hO')) ?_))
    rintro _ _ w ⟨rfl, rfl⟩ hO
    simp only [List.cons_append, List.nil_append] at hO
    refine l_y rfl rfl (y_not rfl rfl) (l_y rfl rfl (y_pick_f rfl rfl) (V1 rfl rfl rfl ?_))
    refine l_split 22 rfl (fun hg22 => ?_) (fun hg22 => ?_)
    · simp only [Bool.not_eq_true', Bool.not_eq_false'] at hg22
      repeat refine M2 ?_
      refine l_y rfl rfl (y_pick_t rfl rfl) (K2 (K3 (L8 (K0 (K1 (V2 rfl rfl rfl (K2 (K3 (K6 (K9 ?_))))))))))
      have e : linkL A up id before = (6, A) := by simp [linkL, *]
      exact fin1 rfl rfl ⟨_, ⟨by rw [e], _, rfl, kerr (by rw [e]; simp)⟩, (rarL_shut hF (hO.ks [.b r, .p p, .f])).one⟩
    · simp only [Bool.not_eq_true', Bool.not_eq_false'] at hg22
      refine V1 rfl rfl rfl ?_
      refine Z1 (fun h1_12 => ?_) (fun h1_12 => ?_)
      · refine V1 rfl rfl rfl (V1 rfl rfl rfl (V1 rfl rfl rfl (CK [.b r, .p p] hO rfl (fun k' hx hr hO' => IsA_spec s (hO := hO')) ?_)))
        rintro _ _ w ⟨rfl, rfl⟩ hO
        simp only [List.cons_append, List.nil_append] at hO
        refine l_y rfl rfl (y_not rfl rfl) (l_y rfl rfl (y_pick_t rfl rfl) (l_y rfl rfl (y_pick_f rfl rfl) (K2 (K3 ?_))))
        refine c_split rfl (fun hc31 => ?_) (fun hc31 => ?_)
        · simp only [Bool.not_eq_true', Bool.not_eq_false'] at hc31
          refine K0 (K1 (V2 rfl rfl rfl (K2 (K3 (K6 (K9 ?_))))))
          have e : linkL A up id before = (6, A) := by simp [linkL, *]
          exact fin1 rfl rfl ⟨_, ⟨by rw [e], _, rfl, kerr (by rw [e]; simp)⟩, (rarL_shut hF (hO.ks [.b r, .p p, .f])).one⟩
        · simp only [Bool.not_eq_true', Bool.not_eq_false'] at hc31
          refine K5 (K3 (K0 (K0 ?_)))
          have hup := hasB_true hg16
          have hid := hasB_true hg22
          have ki := (s.atB hg22).kind
          have ui := (s.atB hg22).up
          try have hbe := hasB_true hc31
          try have ub := (s.atB hc31).up
          refine K1 (V1 rfl rfl rfl (V1 rfl rfl rfl (CK [.b r, .p p] hO rfl (fun k' hx hr hO' => rParent_spec s hg (by assumption) (hO := hO')) ?_)))
          rintro _ _ w ⟨rfl, rfl⟩ hO
          simp only [List.cons_append, List.nil_append] at hO
          refine l_y rfl rfl (y_not rfl rfl) (V1 rfl rfl rfl ?_)
          refine l_split 36 rfl (fun hg36 => ?_) (fun hg36 => ?_)
          · simp only [Bool.not_eq_true', Bool.not_eq_false'] at hg36
            repeat refine M2 ?_
            refine l_y rfl rfl (y_pick_t rfl rfl) (V1 rfl rfl rfl ?_)
            repeat refine M2 ?_
            refine l_y rfl rfl (y_pick_t rfl rfl) (K2 (K3 (L8 (K0 (K1 (V2 rfl rfl rfl (K2 (K3 (K6 (K9 ?_))))))))))
            have e : linkL A up id before = (10, A) := by
              try rw [ki] at h3_13
              try rw [ki] at h3_24
              simp [linkL, *]
            exact fin1 rfl rfl ⟨_, ⟨by rw [e], _, rfl, kerr (by rw [e]; simp)⟩, (rarL_shut hF (hO.ks [.b r, .p p, .f])).one⟩
          · simp only [Bool.not_eq_true', Bool.not_eq_false'] at hg36
            refine V1 rfl rfl rfl (V3 rfl rfl rfl rfl (l_y rfl rfl (y_fldb (o' := 0) rfl) (l_y rfl rfl (D5 hO rfl) ?_)))
            refine V1 rfl rfl rfl (l_y rfl rfl (y_idx rfl rfl) ?_)
            refine l_y rfl rfl (y_fld (j' := 0) rfl) ?_
            refine l_y rfl rfl (y_e1 (x0 := 0) hO rfl) ?_
            refine Z0 (fun h3_13 => ?_) (fun h3_13 => ?_)
            · refine l_y rfl rfl (y_pick_f rfl rfl) (V1 rfl rfl rfl ?_)
              repeat refine M2 ?_
              refine l_y rfl rfl (y_pick_t rfl rfl) (K2 (K3 (L8 (K0 (K1 (V2 rfl rfl rfl (K2 (K3 (K6 (K9 ?_))))))))))
              have e : linkL A up id before = (10, A) := by
                try rw [ki] at h3_13
                try rw [ki] at h3_24
                simp [linkL, *]
              exact fin1 rfl rfl ⟨_, ⟨by rw [e], _, rfl, kerr (by rw [e]; simp)⟩, (rarL_shut hF (hO.ks [.b r, .p p, .f])).one⟩
            · refine l_y rfl rfl (y_pick_f rfl rfl) (V1 rfl rfl rfl (V1 rfl rfl rfl (V3 rfl rfl rfl rfl (l_y rfl rfl (y_fldb (o' := 0) rfl) (l_y rfl rfl (D5 hO rfl) ?_)))))
              refine V1 rfl rfl rfl (l_y rfl rfl (y_idx rfl rfl) ?_)
              refine l_y rfl rfl (y_fld (j' := 0) rfl) ?_
              refine l_y rfl rfl (y_e1 (x0 := 0) hO rfl) ?_
              refine Z0 (fun h3_24 => ?_) (fun h3_24 => ?_)
              · refine l_y rfl rfl (y_pick_f rfl rfl) (K2 (K3 (L8 (K0 (K1 (V2 rfl rfl rfl (K2 (K3 (K6 (K9 ?_))))))))))
                have e : linkL A up id before = (10, A) := by
                  try rw [ki] at h3_13
                  try rw [ki] at h3_24
                  simp [linkL, *]
                exact fin1 rfl rfl ⟨_, ⟨by rw [e], _, rfl, kerr (by rw [e]; simp)⟩, (rarL_shut hF (hO.ks [.b r, .p p, .f])).one⟩
              · refine l_y rfl rfl (y_pick_f rfl rfl) (K2 (K3 (L9 (K5 (K3 (K0 (K0 (K1 (V1 rfl rfl rfl (V3 rfl rfl rfl rfl (l_y rfl rfl (y_fldb (o' := 0) rfl) (l_y rfl rfl (D5 hO rfl) ?_))))))))))))
                refine V1 rfl rfl rfl (l_y rfl rfl (y_idx rfl rfl) ?_)
                refine l_y rfl rfl (y_fld (j' := 8) rfl) ?_
                refine l_y rfl rfl (y_e1 (x0 := 8) hO rfl) ?_
                refine Z1 (fun h5_8 => ?_) (fun h5_8 => ?_)
                · refine V1 rfl rfl rfl ?_
                  repeat refine M2 ?_
                  refine l_y rfl rfl (y_pick_t rfl rfl) (K2 (K3 (L8 (K0 (K1 (V2 rfl rfl rfl (K2 (K3 (K6 (K9 ?_))))))))))
                  have e : linkL A up id before = (11, A) := by
                    try rw [ki] at h3_13
                    try rw [ki] at h3_24
                    try rw [ui] at h5_8
                    simp [linkL, *]
                  exact fin1 rfl rfl ⟨_, ⟨by rw [e], _, rfl, kerr (by rw [e]; simp)⟩, (rarL_shut hF (hO.ks [.b r, .p p, .f])).one⟩
                · refine V1 rfl rfl rfl (V1 rfl rfl rfl (V1 rfl rfl rfl (V1 rfl rfl rfl (CK [.b r, .p p] hO rfl (fun k' hx hr hO' => rAbove_spec s hg t.rank (hO := hO')) ?_))))
                  rintro _ _ w ⟨rfl, rfl⟩ hO
                  simp only [List.cons_append, List.nil_append] at hO
                  refine l_y rfl rfl (y_pick_f rfl rfl) (K2 (K3 ?_))
                  refine c_split rfl (fun hc72 => ?_) (fun hc72 => ?_)
                  · refine K0 (K1 (V2 rfl rfl rfl (K2 (K3 (K6 (K9 ?_))))))
                    have e : linkL A up id before = (11, A) := by
                      try rw [ki] at h3_13
                      try rw [ki] at h3_24
                      try rw [ui] at h5_8
                      simp [linkL, *]
                    exact fin1 rfl rfl ⟨_, ⟨by rw [e], _, rfl, kerr (by rw [e]; simp)⟩, (rarL_shut hF (hO.ks [.b r, .p p, .f])).one⟩
                  · refine K5 (K3 (K0 (K0 (K1 (V1 rfl rfl rfl ?_)))))
                    refine Z1 (fun h7_1 => ?_) (fun h7_1 => ?_)
                    · first
                      | (exfalso; omega)
                      | skip
                        refine V1 rfl rfl rfl (V1 rfl rfl rfl (V3 rfl rfl rfl rfl (l_y rfl rfl (y_fldb (o' := 0) rfl) (l_y rfl rfl (D5 hO rfl) ?_))))
                        refine V1 rfl rfl rfl (l_y rfl rfl (y_idx rfl rfl) ?_)
                        refine l_y rfl rfl (y_fld (j' := 8) rfl) ?_
                        refine l_y rfl rfl (y_e1 (x0 := 8) hO rfl) ?_
                        refine V1 rfl rfl rfl ?_
                        refine Z1 (fun h7_12 => ?_) (fun h7_12 => ?_)
                        · refine l_y rfl rfl (y_pick_t rfl rfl) (K2 (K3 (L8 (K0 (K1 (V2 rfl rfl rfl (K2 (K3 (K6 (K9 ?_))))))))))
                          have e : linkL A up id before = (1, A) := by
                            try rw [ki] at h3_13
                            try rw [ki] at h3_24
                            rw [ui] at h5_8
                            rw [ub] at h7_12
                            simp [linkL, *]
                          exact fin1 rfl rfl ⟨_, ⟨by rw [e], _, rfl, kerr (by rw [e]; simp)⟩, (rarL_shut hF (hO.ks [.b r, .p p, .f])).one⟩
                        · refine l_y rfl rfl (y_pick_t rfl rfl) (K2 (K3 (L9 (K5 (K3 (K0 ?_))))))
                          have h0 : (linkL A up id before).1 = 0 := by
                            rw [ui] at h5_8
                            try rw [ub] at h7_12
                            rw [ki] at h3_13
                            try rw [ki] at h3_24
                            try rw [ki] at hc57
                            simp [linkL, *]
                          have hkk : (at_ R up.toNat).Kids.length ≤ 32768 := by
                            have := t.len (inA_iff.1 hg16)
                            rw [(s.atB hg16).kids]; omega
                          have hkids := (hF.atR (i := up.toNat) (by omega)).kids
                          have hgk := sli_gs hkids
                          have hO : Own k w (sls none 0 3 1 (eI .i64) ([] : List Int) :: _) := sl_nil 3 1 hO
                          refine K1 (V2 rfl rfl rfl (K2 (K3 (K0 (K1 (V1 rfl rfl rfl (V3 rfl rfl rfl rfl (l_y rfl rfl (y_fldb (o' := 0) rfl) (l_y rfl rfl (D5 hO rfl) ?_)))))))))
                          refine V1 rfl rfl rfl (l_y rfl rfl (y_idx rfl rfl) ?_)
                          refine l_y rfl rfl (y_fld (j' := 9) rfl) ?_
                          refine l_y rfl rfl (y_e1 (x0 := 9) hO rfl) ?_
                          refine V2 rfl rfl rfl (K2 (K3 (K0 (K0 (K1 (V2 rfl rfl rfl (K2 (K3 (K4 (c_rounds (X := Nat × Option Addr × Nat × List Int) (fun x => [(0, .pointer (some ⟨r, 0, none⟩)), (1, .int .i64 up), (2, .int .i64 id), (3, .int .i64 before), (8, .int .i64 0), (9, .slice x.2.1 x.2.2.2.length x.2.2.1), (10, .slice (at_ R (up : Int).toNat).KidsP (at_ R (up : Int).toNat).Kids.length (at_ R (up : Int).toNat).KidsC), (11, .int .i64 (x.1 : Int))]) (fun x w => Own k w [rB r p R.length c, rS p c R, pool F, sls x.2.1 x.2.2.1 3 1 (eI .i64) x.2.2.2] ∧ (x.1 ≤ (at_ R up.toNat).Kids.length ∧ x.2.2.2 = insP id before ((at_ R up.toNat).Kids.take x.1))) (fun x => (at_ R up.toNat).Kids.length - x.1) ((0, none, 0, [])) ⟨rfl, rfl, rfl, rfl, rfl, rfl, rfl, rfl, trivial⟩ ⟨hO.only [.b r, .p p, .f, .p none], ⟨Nat.zero_le _, rfl⟩⟩ ?_))))))))))
                          rintro x w m hm ⟨hO, hi⟩
                          have hxl : x.2.2.2.length ≤ 65536 := by
                            have h := insP_len (id := id) (before := before) (l := (at_ R up.toNat).Kids.take x.1)
                            rw [← hi.2, List.length_take] at h
                            omega
                          refine K0 (K0 (K1 (V1 rfl rfl rfl (V1 rfl rfl rfl (l_y rfl rfl (y_lenL rfl) ?_)))))
                          refine Z0 (fun h12_3 => ?_) (fun h12_3 => ?_)
                          · refine K2 (K3 (L8 (K5 (K3 (K0 (K4 (K0 (K0 (K1 (V1 rfl rfl rfl (V1 rfl rfl rfl (l_y rfl rfl (y_idx rfl rfl) ?_))))))))))))
                            refine l_y rfl rfl (y_p1 (x0 := 0) (enc := (eI .i64)) (xs := (at_ R up.toNat).Kids) hO rfl) ?_
                            refine V1 rfl rfl rfl ?_
                            refine Z0 (fun h14_5 => ?_) (fun h14_5 => ?_)
                            · refine K2 (K3 (L8 (K1 (V1 rfl rfl rfl (V1 rfl rfl rfl (s_lit (parts := [(0, .tmp 108)]) (enc := (eI .i64)) [id] [.int .i64 id] hO rfl (fun b109 w hO => ?_)))))))
                              refine s_app hO rfl rfl (src_own hO) (fun p110 c110 w hO gs110 => ?_)
                              refine V2 rfl rfl rfl (K2 (K3 (K1 (V1 rfl rfl rfl (V1 rfl rfl rfl (V1 rfl rfl rfl (l_y rfl rfl (y_idx rfl rfl) ?_)))))))
                              refine l_y rfl rfl (y_p1 (x0 := 0) (enc := (eI .i64)) (xs := (at_ R up.toNat).Kids) hO rfl) ?_
                              refine s_lit (parts := [(0, .tmp 115)]) (enc := (eI .i64)) [(at_ (at_ R up.toNat).Kids ((x.1 : Int) : Int).toNat)] [.int .i64 (at_ (at_ R up.toNat).Kids ((x.1 : Int) : Int).toNat)] hO rfl (fun b116 w hO => ?_)
                              refine s_app hO rfl rfl (src_own hO) (fun p117 c117 w hO gs117 => ?_)
                              refine V2 rfl rfl rfl (K2 (K8 (K3 (K1 (V1 rfl rfl rfl (l_y rfl rfl (D4) ?_))))))
                              refine V2 rfl rfl rfl (K2 ?_)
                              have hnl : ((x.2.2.2 ++ [id]) ++ [(at_ (at_ R up.toNat).Kids ((x.1 : Int) : Int).toNat)]) = insP id before ((at_ R up.toNat).Kids.take (x.1 + 1)) := by first | (rw [insP_succ (by omega), ← hi.2, if_pos (show at_ (at_ R up.toNat).Kids x.1 = before from h14_5)]; simp) | (rw [insP_succ (by omega), ← hi.2, if_neg (show ¬ at_ (at_ R up.toNat).Kids x.1 = before from h14_5)]; rfl)
                              exact q_next ((x.1 + 1, p117, c117, ((x.2.2.2 ++ [id]) ++ [(at_ (at_ R up.toNat).Kids ((x.1 : Int) : Int).toNat)]))) ⟨rfl, rfl, rfl, rfl, rfl, rfl, rfl, rfl, trivial⟩ ⟨hO.only [.b r, .p p, .f, .p p117], ⟨by dsimp only; omega, hnl⟩⟩ (by dsimp only; omega)
                            · refine K2 (K3 (L9 (K5 (K3 (K1 (V1 rfl rfl rfl (V1 rfl rfl rfl (V1 rfl rfl rfl (l_y rfl rfl (y_idx rfl rfl) ?_)))))))))
                              refine l_y rfl rfl (y_p1 (x0 := 0) (enc := (eI .i64)) (xs := (at_ R up.toNat).Kids) hO rfl) ?_
                              refine s_lit (parts := [(0, .tmp 115)]) (enc := (eI .i64)) [(at_ (at_ R up.toNat).Kids ((x.1 : Int) : Int).toNat)] [.int .i64 (at_ (at_ R up.toNat).Kids ((x.1 : Int) : Int).toNat)] hO rfl (fun b116 w hO => ?_)
                              refine s_app hO rfl rfl (src_own hO) (fun p117 c117 w hO gs117 => ?_)
                              refine V2 rfl rfl rfl (K2 (K8 (K3 (K1 (V1 rfl rfl rfl (l_y rfl rfl (D4) ?_))))))
                              refine V2 rfl rfl rfl (K2 ?_)
                              have hnl : (x.2.2.2 ++ [(at_ (at_ R up.toNat).Kids ((x.1 : Int) : Int).toNat)]) = insP id before ((at_ R up.toNat).Kids.take (x.1 + 1)) := by first | (rw [insP_succ (by omega), ← hi.2, if_pos (show at_ (at_ R up.toNat).Kids x.1 = before from h14_5)]; simp) | (rw [insP_succ (by omega), ← hi.2, if_neg (show ¬ at_ (at_ R up.toNat).Kids x.1 = before from h14_5)]; rfl)
                              exact q_next ((x.1 + 1, p117, c117, (x.2.2.2 ++ [(at_ (at_ R up.toNat).Kids ((x.1 : Int) : Int).toNat)]))) ⟨rfl, rfl, rfl, rfl, rfl, rfl, rfl, rfl, trivial⟩ ⟨hO.only [.b r, .p p, .f, .p p117], ⟨by dsimp only; omega, hnl⟩⟩ (by dsimp only; omega)
                          · refine K2 (K3 (L9 (K7 (L1 (L1 (L2 (K3 (K0 (K0 ?_)))))))))
                            have hxe : x.2.2.2 = insP id before (at_ R up.toNat).Kids := by rw [hi.2, List.take_of_length_le (by omega)]
                            refine K1 (V1 rfl rfl rfl ?_)
                            refine Z0 (fun h17_1 => ?_) (fun h17_1 => ?_)
                            · first
                              | (exfalso; omega)
                              | skip
                                refine K2 (K3 (L8 (K1 (V1 rfl rfl rfl (V1 rfl rfl rfl (s_lit (parts := [(0, .tmp 121)]) (enc := (eI .i64)) [id] [.int .i64 id] hO rfl (fun b122 w hO => ?_)))))))
                                refine s_app hO rfl rfl (src_own hO) (fun p123 c123 w hO gs123 => ?_)
                                refine V2 rfl rfl rfl (K2 (K3 (K0 ?_)))
                                have hrow : (x.2.2.2 ++ [id]) = insB id before (at_ R up.toNat).Kids := by
                                  rw [insB_P, ← hxe]
                                  first | rw [if_pos h17_1] | rw [if_neg h17_1, List.append_nil]
                                obtain ⟨F2, hle, hO, hsa⟩ := (hO.ks [.p p123, .f]).pooled
                                refine K1 (V1 rfl rfl rfl (V3 rfl rfl rfl rfl (l_y rfl rfl (y_fldb (o' := 0) rfl) (l_y rfl rfl (D5 hO rfl) ?_))))
                                refine V1 rfl rfl rfl (V1 rfl rfl rfl (l_y rfl rfl (y_idx rfl rfl) ?_))
                                refine l_y rfl rfl (y_fld (j' := 9) rfl) ?_
                                refine s_e1 (x0 := 9) hO rfl rfl (fun w hO => ?_)
                                refine K2 (K3 (K0 (K1 (V1 rfl rfl rfl (V3 rfl rfl rfl rfl (l_y rfl rfl (y_fldb (o' := 0) rfl) (l_y rfl rfl (D5 hO rfl) ?_)))))))
                                refine V1 rfl rfl rfl (V1 rfl rfl rfl (l_y rfl rfl (y_idx rfl rfl) ?_))
                                refine l_y rfl rfl (y_fld (j' := 8) rfl) ?_
                                refine s_e1 (x0 := 8) hO rfl rfl (fun w hO => ?_)
                                refine K2 (K3 (K0 (K1 (V2 rfl rfl rfl (K2 (K3 (K6 ?_)))))))
                                refine fin1 rfl rfl ⟨_, ⟨by rw [h0], _, rfl, ?_⟩, (rarL_shut ?_ (hO.ks [.b r, .p p, .f]) ?_).one⟩
                                · rw [linkKs, if_pos h0]; exact Sim.link' t s h0 hrow
                                · exact RF.up (RF.kids (hF.le hle) (by omega) hsa) (by rw [setKidsR_len]; omega)
                                · simp
                            · first
                              | (exfalso; omega)
                              | skip
                                refine K2 (K3 (L9 (K5 (K3 (K0 ?_)))))
                                have hrow : x.2.2.2 = insB id before (at_ R up.toNat).Kids := by
                                  rw [insB_P, ← hxe]
                                  first | rw [if_pos h17_1] | rw [if_neg h17_1, List.append_nil]
                                obtain ⟨F2, hle, hO, hsa⟩ := (hO.ks [.p x.2.1, .f]).pooled
                                refine K1 (V1 rfl rfl rfl (V3 rfl rfl rfl rfl (l_y rfl rfl (y_fldb (o' := 0) rfl) (l_y rfl rfl (D5 hO rfl) ?_))))
                                refine V1 rfl rfl rfl (V1 rfl rfl rfl (l_y rfl rfl (y_idx rfl rfl) ?_))
                                refine l_y rfl rfl (y_fld (j' := 9) rfl) ?_
                                refine s_e1 (x0 := 9) hO rfl rfl (fun w hO => ?_)
                                refine K2 (K3 (K0 (K1 (V1 rfl rfl rfl (V3 rfl rfl rfl rfl (l_y rfl rfl (y_fldb (o' := 0) rfl) (l_y rfl rfl (D5 hO rfl) ?_)))))))
                                refine V1 rfl rfl rfl (V1 rfl rfl rfl (l_y rfl rfl (y_idx rfl rfl) ?_))
                                refine l_y rfl rfl (y_fld (j' := 8) rfl) ?_
                                refine s_e1 (x0 := 8) hO rfl rfl (fun w hO => ?_)
                                refine K2 (K3 (K0 (K1 (V2 rfl rfl rfl (K2 (K3 (K6 ?_)))))))
                                refine fin1 rfl rfl ⟨_, ⟨by rw [h0], _, rfl, ?_⟩, (rarL_shut ?_ (hO.ks [.b r, .p p, .f]) ?_).one⟩
                                · rw [linkKs, if_pos h0]; exact Sim.link' t s h0 hrow
                                · exact RF.up (RF.kids (hF.le hle) (by omega) hsa) (by rw [setKidsR_len]; omega)
                                · simp
                    · first
                      | (exfalso; omega)
                      | skip
                        refine V1 rfl rfl rfl ?_
                        repeat refine M2 ?_
                        refine l_y rfl rfl (y_pick_f rfl rfl) (K2 (K3 (L9 (K5 (K3 (K0 ?_))))))
                        have h0 : (linkL A up id before).1 = 0 := by
                          rw [ui] at h5_8
                          try rw [ub] at h7_12
                          rw [ki] at h3_13
                          try rw [ki] at h3_24
                          try rw [ki] at hc57
                          simp [linkL, *]
                        have hkk : (at_ R up.toNat).Kids.length ≤ 32768 := by
                          have := t.len (inA_iff.1 hg16)
                          rw [(s.atB hg16).kids]; omega
                        have hkids := (hF.atR (i := up.toNat) (by omega)).kids
                        have hgk := sli_gs hkids
                        have hO : Own k w (sls none 0 3 1 (eI .i64) ([] : List Int) :: _) := sl_nil 3 1 hO
                        refine K1 (V2 rfl rfl rfl (K2 (K3 (K0 (K1 (V1 rfl rfl rfl (V3 rfl rfl rfl rfl (l_y rfl rfl (y_fldb (o' := 0) rfl) (l_y rfl rfl (D5 hO rfl) ?_)))))))))
                        refine V1 rfl rfl rfl (l_y rfl rfl (y_idx rfl rfl) ?_)
                        refine l_y rfl rfl (y_fld (j' := 9) rfl) ?_
                        refine l_y rfl rfl (y_e1 (x0 := 9) hO rfl) ?_
                        refine V2 rfl rfl rfl (K2 (K3 (K0 (K0 (K1 (V2 rfl rfl rfl (K2 (K3 (K4 (c_rounds (X := Nat × Option Addr × Nat × List Int) (fun x => [(0, .pointer (some ⟨r, 0, none⟩)), (1, .int .i64 up), (2, .int .i64 id), (3, .int .i64 before), (8, .int .i64 0), (9, .slice x.2.1 x.2.2.2.length x.2.2.1), (10, .slice (at_ R (up : Int).toNat).KidsP (at_ R (up : Int).toNat).Kids.length (at_ R (up : Int).toNat).KidsC), (11, .int .i64 (x.1 : Int))]) (fun x w => Own k w [rB r p R.length c, rS p c R, pool F, sls x.2.1 x.2.2.1 3 1 (eI .i64) x.2.2.2] ∧ (x.1 ≤ (at_ R up.toNat).Kids.length ∧ x.2.2.2 = insP id before ((at_ R up.toNat).Kids.take x.1))) (fun x => (at_ R up.toNat).Kids.length - x.1) ((0, none, 0, [])) ⟨rfl, rfl, rfl, rfl, rfl, rfl, rfl, rfl, trivial⟩ ⟨hO.only [.b r, .p p, .f, .p none], ⟨Nat.zero_le _, rfl⟩⟩ ?_))))))))))
                        rintro x w m hm ⟨hO, hi⟩
                        have hxl : x.2.2.2.length ≤ 65536 := by
                          have h := insP_len (id := id) (before := before) (l := (at_ R up.toNat).Kids.take x.1)
                          rw [← hi.2, List.length_take] at h
                          omega
                        refine K0 (K0 (K1 (V1 rfl rfl rfl (V1 rfl rfl rfl (l_y rfl rfl (y_lenL rfl) ?_)))))
                        refine Z0 (fun h12_3 => ?_) (fun h12_3 => ?_)
                        · refine K2 (K3 (L8 (K5 (K3 (K0 (K4 (K0 (K0 (K1 (V1 rfl rfl rfl (V1 rfl rfl rfl (l_y rfl rfl (y_idx rfl rfl) ?_))))))))))))
                          refine l_y rfl rfl (y_p1 (x0 := 0) (enc := (eI .i64)) (xs := (at_ R up.toNat).Kids) hO rfl) ?_
                          refine V1 rfl rfl rfl ?_
                          refine Z0 (fun h14_5 => ?_) (fun h14_5 => ?_)
                          · refine K2 (K3 (L8 (K1 (V1 rfl rfl rfl (V1 rfl rfl rfl (s_lit (parts := [(0, .tmp 108)]) (enc := (eI .i64)) [id] [.int .i64 id] hO rfl (fun b109 w hO => ?_)))))))
                            refine s_app hO rfl rfl (src_own hO) (fun p110 c110 w hO gs110 => ?_)
                            refine V2 rfl rfl rfl (K2 (K3 (K1 (V1 rfl rfl rfl (V1 rfl rfl rfl (V1 rfl rfl rfl (l_y rfl rfl (y_idx rfl rfl) ?_)))))))
                            refine l_y rfl rfl (y_p1 (x0 := 0) (enc := (eI .i64)) (xs := (at_ R up.toNat).Kids) hO rfl) ?_
                            refine s_lit (parts := [(0, .tmp 115)]) (enc := (eI .i64)) [(at_ (at_ R up.toNat).Kids ((x.1 : Int) : Int).toNat)] [.int .i64 (at_ (at_ R up.toNat).Kids ((x.1 : Int) : Int).toNat)] hO rfl (fun b116 w hO => ?_)
                            refine s_app hO rfl rfl (src_own hO) (fun p117 c117 w hO gs117 => ?_)
                            refine V2 rfl rfl rfl (K2 (K8 (K3 (K1 (V1 rfl rfl rfl (l_y rfl rfl (D4) ?_))))))
                            refine V2 rfl rfl rfl (K2 ?_)
                            have hnl : ((x.2.2.2 ++ [id]) ++ [(at_ (at_ R up.toNat).Kids ((x.1 : Int) : Int).toNat)]) = insP id before ((at_ R up.toNat).Kids.take (x.1 + 1)) := by first | (rw [insP_succ (by omega), ← hi.2, if_pos (show at_ (at_ R up.toNat).Kids x.1 = before from h14_5)]; simp) | (rw [insP_succ (by omega), ← hi.2, if_neg (show ¬ at_ (at_ R up.toNat).Kids x.1 = before from h14_5)]; rfl)
                            exact q_next ((x.1 + 1, p117, c117, ((x.2.2.2 ++ [id]) ++ [(at_ (at_ R up.toNat).Kids ((x.1 : Int) : Int).toNat)]))) ⟨rfl, rfl, rfl, rfl, rfl, rfl, rfl, rfl, trivial⟩ ⟨hO.only [.b r, .p p, .f, .p p117], ⟨by dsimp only; omega, hnl⟩⟩ (by dsimp only; omega)
                          · refine K2 (K3 (L9 (K5 (K3 (K1 (V1 rfl rfl rfl (V1 rfl rfl rfl (V1 rfl rfl rfl (l_y rfl rfl (y_idx rfl rfl) ?_)))))))))
                            refine l_y rfl rfl (y_p1 (x0 := 0) (enc := (eI .i64)) (xs := (at_ R up.toNat).Kids) hO rfl) ?_
                            refine s_lit (parts := [(0, .tmp 115)]) (enc := (eI .i64)) [(at_ (at_ R up.toNat).Kids ((x.1 : Int) : Int).toNat)] [.int .i64 (at_ (at_ R up.toNat).Kids ((x.1 : Int) : Int).toNat)] hO rfl (fun b116 w hO => ?_)
                            refine s_app hO rfl rfl (src_own hO) (fun p117 c117 w hO gs117 => ?_)
                            refine V2 rfl rfl rfl (K2 (K8 (K3 (K1 (V1 rfl rfl rfl (l_y rfl rfl (D4) ?_))))))
                            refine V2 rfl rfl rfl (K2 ?_)
                            have hnl : (x.2.2.2 ++ [(at_ (at_ R up.toNat).Kids ((x.1 : Int) : Int).toNat)]) = insP id before ((at_ R up.toNat).Kids.take (x.1 + 1)) := by first | (rw [insP_succ (by omega), ← hi.2, if_pos (show at_ (at_ R up.toNat).Kids x.1 = before from h14_5)]; simp) | (rw [insP_succ (by omega), ← hi.2, if_neg (show ¬ at_ (at_ R up.toNat).Kids x.1 = before from h14_5)]; rfl)
                            exact q_next ((x.1 + 1, p117, c117, (x.2.2.2 ++ [(at_ (at_ R up.toNat).Kids ((x.1 : Int) : Int).toNat)]))) ⟨rfl, rfl, rfl, rfl, rfl, rfl, rfl, rfl, trivial⟩ ⟨hO.only [.b r, .p p, .f, .p p117], ⟨by dsimp only; omega, hnl⟩⟩ (by dsimp only; omega)
                        · refine K2 (K3 (L9 (K7 (L1 (L1 (L2 (K3 (K0 (K0 ?_)))))))))
                          have hxe : x.2.2.2 = insP id before (at_ R up.toNat).Kids := by rw [hi.2, List.take_of_length_le (by omega)]
                          refine K1 (V1 rfl rfl rfl ?_)
                          refine Z0 (fun h17_1 => ?_) (fun h17_1 => ?_)
                          · first
                            | (exfalso; omega)
                            | skip
                              refine K2 (K3 (L8 (K1 (V1 rfl rfl rfl (V1 rfl rfl rfl (s_lit (parts := [(0, .tmp 121)]) (enc := (eI .i64)) [id] [.int .i64 id] hO rfl (fun b122 w hO => ?_)))))))
                              refine s_app hO rfl rfl (src_own hO) (fun p123 c123 w hO gs123 => ?_)
                              refine V2 rfl rfl rfl (K2 (K3 (K0 ?_)))
                              have hrow : (x.2.2.2 ++ [id]) = insB id before (at_ R up.toNat).Kids := by
                                rw [insB_P, ← hxe]
                                first | rw [if_pos h17_1] | rw [if_neg h17_1, List.append_nil]
                              obtain ⟨F2, hle, hO, hsa⟩ := (hO.ks [.p p123, .f]).pooled
                              refine K1 (V1 rfl rfl rfl (V3 rfl rfl rfl rfl (l_y rfl rfl (y_fldb (o' := 0) rfl) (l_y rfl rfl (D5 hO rfl) ?_))))
                              refine V1 rfl rfl rfl (V1 rfl rfl rfl (l_y rfl rfl (y_idx rfl rfl) ?_))
                              refine l_y rfl rfl (y_fld (j' := 9) rfl) ?_
                              refine s_e1 (x0 := 9) hO rfl rfl (fun w hO => ?_)
                              refine K2 (K3 (K0 (K1 (V1 rfl rfl rfl (V3 rfl rfl rfl rfl (l_y rfl rfl (y_fldb (o' := 0) rfl) (l_y rfl rfl (D5 hO rfl) ?_)))))))
                              refine V1 rfl rfl rfl (V1 rfl rfl rfl (l_y rfl rfl (y_idx rfl rfl) ?_))
                              refine l_y rfl rfl (y_fld (j' := 8) rfl) ?_
                              refine s_e1 (x0 := 8) hO rfl rfl (fun w hO => ?_)
                              refine K2 (K3 (K0 (K1 (V2 rfl rfl rfl (K2 (K3 (K6 ?_)))))))
                              refine fin1 rfl rfl ⟨_, ⟨by rw [h0], _, rfl, ?_⟩, (rarL_shut ?_ (hO.ks [.b r, .p p, .f]) ?_).one⟩
                              · rw [linkKs, if_pos h0]; exact Sim.link' t s h0 hrow
                              · exact RF.up (RF.kids (hF.le hle) (by omega) hsa) (by rw [setKidsR_len]; omega)
                              · simp
                          · first
                            | (exfalso; omega)
                            | skip
                              refine K2 (K3 (L9 (K5 (K3 (K0 ?_)))))
                              have hrow : x.2.2.2 = insB id before (at_ R up.toNat).Kids := by
                                rw [insB_P, ← hxe]
                                first | rw [if_pos h17_1] | rw [if_neg h17_1, List.append_nil]
                              obtain ⟨F2, hle, hO, hsa⟩ := (hO.ks [.p x.2.1, .f]).pooled
                              refine K1 (V1 rfl rfl rfl (V3 rfl rfl rfl rfl (l_y rfl rfl (y_fldb (o' := 0) rfl) (l_y rfl rfl (D5 hO rfl) ?_))))
                              refine V1 rfl rfl rfl (V1 rfl rfl rfl (l_y rfl rfl (y_idx rfl rfl) ?_))
                              refine l_y rfl rfl (y_fld (j' := 9) rfl) ?_
                              refine s_e1 (x0 := 9) hO rfl rfl (fun w hO => ?_)
                              refine K2 (K3 (K0 (K1 (V1 rfl rfl rfl (V3 rfl rfl rfl rfl (l_y rfl rfl (y_fldb (o' := 0) rfl) (l_y rfl rfl (D5 hO rfl) ?_)))))))
                              refine V1 rfl rfl rfl (V1 rfl rfl rfl (l_y rfl rfl (y_idx rfl rfl) ?_))
                              refine l_y rfl rfl (y_fld (j' := 8) rfl) ?_
                              refine s_e1 (x0 := 8) hO rfl rfl (fun w hO => ?_)
                              refine K2 (K3 (K0 (K1 (V2 rfl rfl rfl (K2 (K3 (K6 ?_)))))))
                              refine fin1 rfl rfl ⟨_, ⟨by rw [h0], _, rfl, ?_⟩, (rarL_shut ?_ (hO.ks [.b r, .p p, .f]) ?_).one⟩
                              · rw [linkKs, if_pos h0]; exact Sim.link' t s h0 hrow
                              · exact RF.up (RF.kids (hF.le hle) (by omega) hsa) (by rw [setKidsR_len]; omega)
                              · simp
      · refine V1 rfl rfl rfl ?_
        repeat refine M2 ?_
        refine l_y rfl rfl (y_pick_f rfl rfl) (l_y rfl rfl (y_pick_f rfl rfl) (K2 (K3 (L9 (K5 (K3 (K0 (K0 ?_))))))))
        have hup := hasB_true hg16
        have hid := hasB_true hg22
        have ki := (s.atB hg22).kind
        have ui := (s.atB hg22).up
        try have hbe := hasB_true hc31
        try have ub := (s.atB hc31).up
        refine K1 (V1 rfl rfl rfl (V1 rfl rfl rfl (CK [.b r, .p p] hO rfl (fun k' hx hr hO' => rParent_spec s hg (by assumption) (hO := hO')) ?_)))
        rintro _ _ w ⟨rfl, rfl⟩ hO
        simp only [List.cons_append, List.nil_append] at hO
        refine l_y rfl rfl (y_not rfl rfl) (V1 rfl rfl rfl ?_)
        refine l_split 36 rfl (fun hg36 => ?_) (fun hg36 => ?_)
        · simp only [Bool.not_eq_true', Bool.not_eq_false'] at hg36
          repeat refine M2 ?_
          refine l_y rfl rfl (y_pick_t rfl rfl) (V1 rfl rfl rfl ?_)
          repeat refine M2 ?_
          refine l_y rfl rfl (y_pick_t rfl rfl) (K2 (K3 (L8 (K0 (K1 (V2 rfl rfl rfl (K2 (K3 (K6 (K9 ?_))))))))))
          have e : linkL A up id before = (10, A) := by
            try rw [ki] at h3_13
            try rw [ki] at h3_24
            simp [linkL, *]
          exact fin1 rfl rfl ⟨_, ⟨by rw [e], _, rfl, kerr (by rw [e]; simp)⟩, (rarL_shut hF (hO.ks [.b r, .p p, .f])).one⟩
        · simp only [Bool.not_eq_true', Bool.not_eq_false'] at hg36
          refine V1 rfl rfl rfl (V3 rfl rfl rfl rfl (l_y rfl rfl (y_fldb (o' := 0) rfl) (l_y rfl rfl (D5 hO rfl) ?_)))
          refine V1 rfl rfl rfl (l_y rfl rfl (y_idx rfl rfl) ?_)
          refine l_y rfl rfl (y_fld (j' := 0) rfl) ?_
          refine l_y rfl rfl (y_e1 (x0 := 0) hO rfl) ?_
          refine Z0 (fun h3_13 => ?_) (fun h3_13 => ?_)
          · refine l_y rfl rfl (y_pick_f rfl rfl) (V1 rfl rfl rfl ?_)
            repeat refine M2 ?_
            refine l_y rfl rfl (y_pick_t rfl rfl) (K2 (K3 (L8 (K0 (K1 (V2 rfl rfl rfl (K2 (K3 (K6 (K9 ?_))))))))))
            have e : linkL A up id before = (10, A) := by
              try rw [ki] at h3_13
              try rw [ki] at h3_24
              simp [linkL, *]
            exact fin1 rfl rfl ⟨_, ⟨by rw [e], _, rfl, kerr (by rw [e]; simp)⟩, (rarL_shut hF (hO.ks [.b r, .p p, .f])).one⟩
          · refine l_y rfl rfl (y_pick_f rfl rfl) (V1 rfl rfl rfl (V1 rfl rfl rfl (V3 rfl rfl rfl rfl (l_y rfl rfl (y_fldb (o' := 0) rfl) (l_y rfl rfl (D5 hO rfl) ?_)))))
            refine V1 rfl rfl rfl (l_y rfl rfl (y_idx rfl rfl) ?_)
            refine l_y rfl rfl (y_fld (j' := 0) rfl) ?_
            refine l_y rfl rfl (y_e1 (x0 := 0) hO rfl) ?_
            refine Z0 (fun h3_24 => ?_) (fun h3_24 => ?_)
            · refine l_y rfl rfl (y_pick_f rfl rfl) (K2 (K3 (L8 (K0 (K1 (V2 rfl rfl rfl (K2 (K3 (K6 (K9 ?_))))))))))
              have e : linkL A up id before = (10, A) := by
                try rw [ki] at h3_13
                try rw [ki] at h3_24
                simp [linkL, *]
              exact fin1 rfl rfl ⟨_, ⟨by rw [e], _, rfl, kerr (by rw [e]; simp)⟩, (rarL_shut hF (hO.ks [.b r, .p p, .f])).one⟩
            · refine l_y rfl rfl (y_pick_f rfl rfl) (K2 (K3 (L9 (K5 (K3 (K0 (K0 (K1 (V1 rfl rfl rfl (V3 rfl rfl rfl rfl (l_y rfl rfl (y_fldb (o' := 0) rfl) (l_y rfl rfl (D5 hO rfl) ?_))))))))))))
              refine V1 rfl rfl rfl (l_y rfl rfl (y_idx rfl rfl) ?_)
              refine l_y rfl rfl (y_fld (j' := 8) rfl) ?_
              refine l_y rfl rfl (y_e1 (x0 := 8) hO rfl) ?_
              refine Z1 (fun h5_8 => ?_) (fun h5_8 => ?_)
              · refine V1 rfl rfl rfl ?_
                repeat refine M2 ?_
                refine l_y rfl rfl (y_pick_t rfl rfl) (K2 (K3 (L8 (K0 (K1 (V2 rfl rfl rfl (K2 (K3 (K6 (K9 ?_))))))))))
                have e : linkL A up id before = (11, A) := by
                  try rw [ki] at h3_13
                  try rw [ki] at h3_24
                  try rw [ui] at h5_8
                  simp [linkL, *]
                exact fin1 rfl rfl ⟨_, ⟨by rw [e], _, rfl, kerr (by rw [e]; simp)⟩, (rarL_shut hF (hO.ks [.b r, .p p, .f])).one⟩
              · refine V1 rfl rfl rfl (V1 rfl rfl rfl (V1 rfl rfl rfl (V1 rfl rfl rfl (CK [.b r, .p p] hO rfl (fun k' hx hr hO' => rAbove_spec s hg t.rank (hO := hO')) ?_))))
                rintro _ _ w ⟨rfl, rfl⟩ hO
                simp only [List.cons_append, List.nil_append] at hO
                refine l_y rfl rfl (y_pick_f rfl rfl) (K2 (K3 ?_))
                refine c_split rfl (fun hc72 => ?_) (fun hc72 => ?_)
                · refine K0 (K1 (V2 rfl rfl rfl (K2 (K3 (K6 (K9 ?_))))))
                  have e : linkL A up id before = (11, A) := by
                    try rw [ki] at h3_13
                    try rw [ki] at h3_24
                    try rw [ui] at h5_8
                    simp [linkL, *]
                  exact fin1 rfl rfl ⟨_, ⟨by rw [e], _, rfl, kerr (by rw [e]; simp)⟩, (rarL_shut hF (hO.ks [.b r, .p p, .f])).one⟩
                · refine K5 (K3 (K0 (K0 (K1 (V1 rfl rfl rfl ?_)))))
                  refine Z1 (fun h7_1 => ?_) (fun h7_1 => ?_)
                  · first
                    | (exfalso; omega)
                    | skip
                      refine V1 rfl rfl rfl (V1 rfl rfl rfl (V3 rfl rfl rfl rfl (l_y rfl rfl (y_fldb (o' := 0) rfl) (l_y rfl rfl (D5 hO rfl) ?_))))
                      refine V1 rfl rfl rfl (l_y rfl rfl (y_idx rfl rfl) ?_)
                      refine l_y rfl rfl (y_fld (j' := 8) rfl) ?_
                      refine l_y rfl rfl (y_e1 (x0 := 8) hO rfl) ?_
                      refine V1 rfl rfl rfl ?_
                      refine Z1 (fun h7_12 => ?_) (fun h7_12 => ?_)
                      · refine l_y rfl rfl (y_pick_t rfl rfl) (K2 (K3 (L8 (K0 (K1 (V2 rfl rfl rfl (K2 (K3 (K6 (K9 ?_))))))))))
                        have e : linkL A up id before = (1, A) := by
                          try rw [ki] at h3_13
                          try rw [ki] at h3_24
                          rw [ui] at h5_8
                          rw [ub] at h7_12
                          simp [linkL, *]
                        exact fin1 rfl rfl ⟨_, ⟨by rw [e], _, rfl, kerr (by rw [e]; simp)⟩, (rarL_shut hF (hO.ks [.b r, .p p, .f])).one⟩
                      · refine l_y rfl rfl (y_pick_t rfl rfl) (K2 (K3 (L9 (K5 (K3 (K0 ?_))))))
                        have h0 : (linkL A up id before).1 = 0 := by
                          rw [ui] at h5_8
                          try rw [ub] at h7_12
                          rw [ki] at h3_13
                          try rw [ki] at h3_24
                          try rw [ki] at hc57
                          simp [linkL, *]
                        have hkk : (at_ R up.toNat).Kids.length ≤ 32768 := by
                          have := t.len (inA_iff.1 hg16)
                          rw [(s.atB hg16).kids]; omega
                        have hkids := (hF.atR (i := up.toNat) (by omega)).kids
                        have hgk := sli_gs hkids
                        have hO : Own k w (sls none 0 3 1 (eI .i64) ([] : List Int) :: _) := sl_nil 3 1 hO
                        refine K1 (V2 rfl rfl rfl (K2 (K3 (K0 (K1 (V1 rfl rfl rfl (V3 rfl rfl rfl rfl (l_y rfl rfl (y_fldb (o' := 0) rfl) (l_y rfl rfl (D5 hO rfl) ?_)))))))))
                        refine V1 rfl rfl rfl (l_y rfl rfl (y_idx rfl rfl) ?_)
                        refine l_y rfl rfl (y_fld (j' := 9) rfl) ?_
                        refine l_y rfl rfl (y_e1 (x0 := 9) hO rfl) ?_
                        refine V2 rfl rfl rfl (K2 (K3 (K0 (K0 (K1 (V2 rfl rfl rfl (K2 (K3 (K4 (c_rounds (X := Nat × Option Addr × Nat × List Int) (fun x => [(0, .pointer (some ⟨r, 0, none⟩)), (1, .int .i64 up), (2, .int .i64 id), (3, .int .i64 before), (8, .int .i64 0), (9, .slice x.2.1 x.2.2.2.length x.2.2.1), (10, .slice (at_ R (up : Int).toNat).KidsP (at_ R (up : Int).toNat).Kids.length (at_ R (up : Int).toNat).KidsC), (11, .int .i64 (x.1 : Int))]) (fun x w => Own k w [rB r p R.length c, rS p c R, pool F, sls x.2.1 x.2.2.1 3 1 (eI .i64) x.2.2.2] ∧ (x.1 ≤ (at_ R up.toNat).Kids.length ∧ x.2.2.2 = insP id before ((at_ R up.toNat).Kids.take x.1))) (fun x => (at_ R up.toNat).Kids.length - x.1) ((0, none, 0, [])) ⟨rfl, rfl, rfl, rfl, rfl, rfl, rfl, rfl, trivial⟩ ⟨hO.only [.b r, .p p, .f, .p none], ⟨Nat.zero_le _, rfl⟩⟩ ?_))))))))))
                        rintro x w m hm ⟨hO, hi⟩
                        have hxl : x.2.2.2.length ≤ 65536 := by
                          have h := insP_len (id := id) (before := before) (l := (at_ R up.toNat).Kids.take x.1)
                          rw [← hi.2, List.length_take] at h
                          omega
                        refine K0 (K0 (K1 (V1 rfl rfl rfl (V1 rfl rfl rfl (l_y rfl rfl (y_lenL rfl) ?_)))))
                        refine Z0 (fun h12_3 => ?_) (fun h12_3 => ?_)
                        · refine K2 (K3 (L8 (K5 (K3 (K0 (K4 (K0 (K0 (K1 (V1 rfl rfl rfl (V1 rfl rfl rfl (l_y rfl rfl (y_idx rfl rfl) ?_))))))))))))
                          refine l_y rfl rfl (y_p1 (x0 := 0) (enc := (eI .i64)) (xs := (at_ R up.toNat).Kids) hO rfl) ?_
                          refine V1 rfl rfl rfl ?_
                          refine Z0 (fun h14_5 => ?_) (fun h14_5 => ?_)
                          · refine K2 (K3 (L8 (K1 (V1 rfl rfl rfl (V1 rfl rfl rfl (s_lit (parts := [(0, .tmp 108)]) (enc := (eI .i64)) [id] [.int .i64 id] hO rfl (fun b109 w hO => ?_)))))))
                            refine s_app hO rfl rfl (src_own hO) (fun p110 c110 w hO gs110 => ?_)
                            refine V2 rfl rfl rfl (K2 (K3 (K1 (V1 rfl rfl rfl (V1 rfl rfl rfl (V1 rfl rfl rfl (l_y rfl rfl (y_idx rfl rfl) ?_)))))))
                            refine l_y rfl rfl (y_p1 (x0 := 0) (enc := (eI .i64)) (xs := (at_ R up.toNat).Kids) hO rfl) ?_
                            refine s_lit (parts := [(0, .tmp 115)]) (enc := (eI .i64)) [(at_ (at_ R up.toNat).Kids ((x.1 : Int) : Int).toNat)] [.int .i64 (at_ (at_ R up.toNat).Kids ((x.1 : Int) : Int).toNat)] hO rfl (fun b116 w hO => ?_)
                            refine s_app hO rfl rfl (src_own hO) (fun p117 c117 w hO gs117 => ?_)
                            refine V2 rfl rfl rfl (K2 (K8 (K3 (K1 (V1 rfl rfl rfl (l_y rfl rfl (D4) ?_))))))
                            refine V2 rfl rfl rfl (K2 ?_)
                            have hnl : ((x.2.2.2 ++ [id]) ++ [(at_ (at_ R up.toNat).Kids ((x.1 : Int) : Int).toNat)]) = insP id before ((at_ R up.toNat).Kids.take (x.1 + 1)) := by first | (rw [insP_succ (by omega), ← hi.2, if_pos (show at_ (at_ R up.toNat).Kids x.1 = before from h14_5)]; simp) | (rw [insP_succ (by omega), ← hi.2, if_neg (show ¬ at_ (at_ R up.toNat).Kids x.1 = before from h14_5)]; rfl)
                            exact q_next ((x.1 + 1, p117, c117, ((x.2.2.2 ++ [id]) ++ [(at_ (at_ R up.toNat).Kids ((x.1 : Int) : Int).toNat)]))) ⟨rfl, rfl, rfl, rfl, rfl, rfl, rfl, rfl, trivial⟩ ⟨hO.only [.b r, .p p, .f, .p p117], ⟨by dsimp only; omega, hnl⟩⟩ (by dsimp only; omega)
                          · refine K2 (K3 (L9 (K5 (K3 (K1 (V1 rfl rfl rfl (V1 rfl rfl rfl (V1 rfl rfl rfl (l_y rfl rfl (y_idx rfl rfl) ?_)))))))))
                            refine l_y rfl rfl (y_p1 (x0 := 0) (enc := (eI .i64)) (xs := (at_ R up.toNat).Kids) hO rfl) ?_
                            refine s_lit (parts := [(0, .tmp 115)]) (enc := (eI .i64)) [(at_ (at_ R up.toNat).Kids ((x.1 : Int) : Int).toNat)] [.int .i64 (at_ (at_ R up.toNat).Kids ((x.1 : Int) : Int).toNat)] hO rfl (fun b116 w hO => ?_)
                            refine s_app hO rfl rfl (src_own hO) (fun p117 c117 w hO gs117 => ?_)
                            refine V2 rfl rfl rfl (K2 (K8 (K3 (K1 (V1 rfl rfl rfl (l_y rfl rfl (D4) ?_))))))
                            refine V2 rfl rfl rfl (K2 ?_)
                            have hnl : (x.2.2.2 ++ [(at_ (at_ R up.toNat).Kids ((x.1 : Int) : Int).toNat)]) = insP id before ((at_ R up.toNat).Kids.take (x.1 + 1)) := by first | (rw [insP_succ (by omega), ← hi.2, if_pos (show at_ (at_ R up.toNat).Kids x.1 = before from h14_5)]; simp) | (rw [insP_succ (by omega), ← hi.2, if_neg (show ¬ at_ (at_ R up.toNat).Kids x.1 = before from h14_5)]; rfl)
                            exact q_next ((x.1 + 1, p117, c117, (x.2.2.2 ++ [(at_ (at_ R up.toNat).Kids ((x.1 : Int) : Int).toNat)]))) ⟨rfl, rfl, rfl, rfl, rfl, rfl, rfl, rfl, trivial⟩ ⟨hO.only [.b r, .p p, .f, .p p117], ⟨by dsimp only; omega, hnl⟩⟩ (by dsimp only; omega)
                        · refine K2 (K3 (L9 (K7 (L1 (L1 (L2 (K3 (K0 (K0 ?_)))))))))
                          have hxe : x.2.2.2 = insP id before (at_ R up.toNat).Kids := by rw [hi.2, List.take_of_length_le (by omega)]
                          refine K1 (V1 rfl rfl rfl ?_)
                          refine Z0 (fun h17_1 => ?_) (fun h17_1 => ?_)
                          · first
                            | (exfalso; omega)
                            | skip
                              refine K2 (K3 (L8 (K1 (V1 rfl rfl rfl (V1 rfl rfl rfl (s_lit (parts := [(0, .tmp 121)]) (enc := (eI .i64)) [id] [.int .i64 id] hO rfl (fun b122 w hO => ?_)))))))
                              refine s_app hO rfl rfl (src_own hO) (fun p123 c123 w hO gs123 => ?_)
                              refine V2 rfl rfl rfl (K2 (K3 (K0 ?_)))
                              have hrow : (x.2.2.2 ++ [id]) = insB id before (at_ R up.toNat).Kids := by
                                rw [insB_P, ← hxe]
                                first | rw [if_pos h17_1] | rw [if_neg h17_1, List.append_nil]
                              obtain ⟨F2, hle, hO, hsa⟩ := (hO.ks [.p p123, .f]).pooled
                              refine K1 (V1 rfl rfl rfl (V3 rfl rfl rfl rfl (l_y rfl rfl (y_fldb (o' := 0) rfl) (l_y rfl rfl (D5 hO rfl) ?_))))
                              refine V1 rfl rfl rfl (V1 rfl rfl rfl (l_y rfl rfl (y_idx rfl rfl) ?_))
                              refine l_y rfl rfl (y_fld (j' := 9) rfl) ?_
                              refine s_e1 (x0 := 9) hO rfl rfl (fun w hO => ?_)
                              refine K2 (K3 (K0 (K1 (V1 rfl rfl rfl (V3 rfl rfl rfl rfl (l_y rfl rfl (y_fldb (o' := 0) rfl) (l_y rfl rfl (D5 hO rfl) ?_)))))))
                              refine V1 rfl rfl rfl (V1 rfl rfl rfl (l_y rfl rfl (y_idx rfl rfl) ?_))
                              refine l_y rfl rfl (y_fld (j' := 8) rfl) ?_
                              refine s_e1 (x0 := 8) hO rfl rfl (fun w hO => ?_)
                              refine K2 (K3 (K0 (K1 (V2 rfl rfl rfl (K2 (K3 (K6 ?_)))))))
                              refine fin1 rfl rfl ⟨_, ⟨by rw [h0], _, rfl, ?_⟩, (rarL_shut ?_ (hO.ks [.b r, .p p, .f]) ?_).one⟩
                              · rw [linkKs, if_pos h0]; exact Sim.link' t s h0 hrow
                              · exact RF.up (RF.kids (hF.le hle) (by omega) hsa) (by rw [setKidsR_len]; omega)
                              · simp
                          · first
                            | (exfalso; omega)
                            | skip
                              refine K2 (K3 (L9 (K5 (K3 (K0 ?_)))))
                              have hrow : x.2.2.2 = insB id before (at_ R up.toNat).Kids := by
                                rw [insB_P, ← hxe]
                                first | rw [if_pos h17_1] | rw [if_neg h17_1, List.append_nil]
                              obtain ⟨F2, hle, hO, hsa⟩ := (hO.ks [.p x.2.1, .f]).pooled
                              refine K1 (V1 rfl rfl rfl (V3 rfl rfl rfl rfl (l_y rfl rfl (y_fldb (o' := 0) rfl) (l_y rfl rfl (D5 hO rfl) ?_))))
                              refine V1 rfl rfl rfl (V1 rfl rfl rfl (l_y rfl rfl (y_idx rfl rfl) ?_))
                              refine l_y rfl rfl (y_fld (j' := 9) rfl) ?_
                              refine s_e1 (x0 := 9) hO rfl rfl (fun w hO => ?_)
                              refine K2 (K3 (K0 (K1 (V1 rfl rfl rfl (V3 rfl rfl rfl rfl (l_y rfl rfl (y_fldb (o' := 0) rfl) (l_y rfl rfl (D5 hO rfl) ?_)))))))
                              refine V1 rfl rfl rfl (V1 rfl rfl rfl (l_y rfl rfl (y_idx rfl rfl) ?_))
                              refine l_y rfl rfl (y_fld (j' := 8) rfl) ?_
                              refine s_e1 (x0 := 8) hO rfl rfl (fun w hO => ?_)
                              refine K2 (K3 (K0 (K1 (V2 rfl rfl rfl (K2 (K3 (K6 ?_)))))))
                              refine fin1 rfl rfl ⟨_, ⟨by rw [h0], _, rfl, ?_⟩, (rarL_shut ?_ (hO.ks [.b r, .p p, .f]) ?_).one⟩
                              · rw [linkKs, if_pos h0]; exact Sim.link' t s h0 hrow
                              · exact RF.up (RF.kids (hF.le hle) (by omega) hsa) (by rw [setKidsR_len]; omega)
                              · simp
                  · first
                    | (exfalso; omega)
                    | skip
                      refine V1 rfl rfl rfl ?_
                      repeat refine M2 ?_
                      refine l_y rfl rfl (y_pick_f rfl rfl) (K2 (K3 (L9 (K5 (K3 (K0 ?_))))))
                      have h0 : (linkL A up id before).1 = 0 := by
                        rw [ui] at h5_8
                        try rw [ub] at h7_12
                        rw [ki] at h3_13
                        try rw [ki] at h3_24
                        try rw [ki] at hc57
                        simp [linkL, *]
                      have hkk : (at_ R up.toNat).Kids.length ≤ 32768 := by
                        have := t.len (inA_iff.1 hg16)
                        rw [(s.atB hg16).kids]; omega
                      have hkids := (hF.atR (i := up.toNat) (by omega)).kids
                      have hgk := sli_gs hkids
                      have hO : Own k w (sls none 0 3 1 (eI .i64) ([] : List Int) :: _) := sl_nil 3 1 hO
                      refine K1 (V2 rfl rfl rfl (K2 (K3 (K0 (K1 (V1 rfl rfl rfl (V3 rfl rfl rfl rfl (l_y rfl rfl (y_fldb (o' := 0) rfl) (l_y rfl rfl (D5 hO rfl) ?_)))))))))
                      refine V1 rfl rfl rfl (l_y rfl rfl (y_idx rfl rfl) ?_)
                      refine l_y rfl rfl (y_fld (j' := 9) rfl) ?_
                      refine l_y rfl rfl (y_e1 (x0 := 9) hO rfl) ?_
                      refine V2 rfl rfl rfl (K2 (K3 (K0 (K0 (K1 (V2 rfl rfl rfl (K2 (K3 (K4 (c_rounds (X := Nat × Option Addr × Nat × List Int) (fun x => [(0, .pointer (some ⟨r, 0, none⟩)), (1, .int .i64 up), (2, .int .i64 id), (3, .int .i64 before), (8, .int .i64 0), (9, .slice x.2.1 x.2.2.2.length x.2.2.1), (10, .slice (at_ R (up : Int).toNat).KidsP (at_ R (up : Int).toNat).Kids.length (at_ R (up : Int).toNat).KidsC), (11, .int .i64 (x.1 : Int))]) (fun x w => Own k w [rB r p R.length c, rS p c R, pool F, sls x.2.1 x.2.2.1 3 1 (eI .i64) x.2.2.2] ∧ (x.1 ≤ (at_ R up.toNat).Kids.length ∧ x.2.2.2 = insP id before ((at_ R up.toNat).Kids.take x.1))) (fun x => (at_ R up.toNat).Kids.length - x.1) ((0, none, 0, [])) ⟨rfl, rfl, rfl, rfl, rfl, rfl, rfl, rfl, trivial⟩ ⟨hO.only [.b r, .p p, .f, .p none], ⟨Nat.zero_le _, rfl⟩⟩ ?_))))))))))
                      rintro x w m hm ⟨hO, hi⟩
                      have hxl : x.2.2.2.length ≤ 65536 := by
                        have h := insP_len (id := id) (before := before) (l := (at_ R up.toNat).Kids.take x.1)
                        rw [← hi.2, List.length_take] at h
                        omega
                      refine K0 (K0 (K1 (V1 rfl rfl rfl (V1 rfl rfl rfl (l_y rfl rfl (y_lenL rfl) ?_)))))
                      refine Z0 (fun h12_3 => ?_) (fun h12_3 => ?_)
                      · refine K2 (K3 (L8 (K5 (K3 (K0 (K4 (K0 (K0 (K1 (V1 rfl rfl rfl (V1 rfl rfl rfl (l_y rfl rfl (y_idx rfl rfl) ?_))))))))))))
                        refine l_y rfl rfl (y_p1 (x0 := 0) (enc := (eI .i64)) (xs := (at_ R up.toNat).Kids) hO rfl) ?_
                        refine V1 rfl rfl rfl ?_
                        refine Z0 (fun h14_5 => ?_) (fun h14_5 => ?_)
                        · refine K2 (K3 (L8 (K1 (V1 rfl rfl rfl (V1 rfl rfl rfl (s_lit (parts := [(0, .tmp 108)]) (enc := (eI .i64)) [id] [.int .i64 id] hO rfl (fun b109 w hO => ?_)))))))
                          refine s_app hO rfl rfl (src_own hO) (fun p110 c110 w hO gs110 => ?_)
                          refine V2 rfl rfl rfl (K2 (K3 (K1 (V1 rfl rfl rfl (V1 rfl rfl rfl (V1 rfl rfl rfl (l_y rfl rfl (y_idx rfl rfl) ?_)))))))
                          refine l_y rfl rfl (y_p1 (x0 := 0) (enc := (eI .i64)) (xs := (at_ R up.toNat).Kids) hO rfl) ?_
                          refine s_lit (parts := [(0, .tmp 115)]) (enc := (eI .i64)) [(at_ (at_ R up.toNat).Kids ((x.1 : Int) : Int).toNat)] [.int .i64 (at_ (at_ R up.toNat).Kids ((x.1 : Int) : Int).toNat)] hO rfl (fun b116 w hO => ?_)
                          refine s_app hO rfl rfl (src_own hO) (fun p117 c117 w hO gs117 => ?_)
                          refine V2 rfl rfl rfl (K2 (K8 (K3 (K1 (V1 rfl rfl rfl (l_y rfl rfl (D4) ?_))))))
                          refine V2 rfl rfl rfl (K2 ?_)
                          have hnl : ((x.2.2.2 ++ [id]) ++ [(at_ (at_ R up.toNat).Kids ((x.1 : Int) : Int).toNat)]) = insP id before ((at_ R up.toNat).Kids.take (x.1 + 1)) := by first | (rw [insP_succ (by omega), ← hi.2, if_pos (show at_ (at_ R up.toNat).Kids x.1 = before from h14_5)]; simp) | (rw [insP_succ (by omega), ← hi.2, if_neg (show ¬ at_ (at_ R up.toNat).Kids x.1 = before from h14_5)]; rfl)
                          exact q_next ((x.1 + 1, p117, c117, ((x.2.2.2 ++ [id]) ++ [(at_ (at_ R up.toNat).Kids ((x.1 : Int) : Int).toNat)]))) ⟨rfl, rfl, rfl, rfl, rfl, rfl, rfl, rfl, trivial⟩ ⟨hO.only [.b r, .p p, .f, .p p117], ⟨by dsimp only; omega, hnl⟩⟩ (by dsimp only; omega)
                        · refine K2 (K3 (L9 (K5 (K3 (K1 (V1 rfl rfl rfl (V1 rfl rfl rfl (V1 rfl rfl rfl (l_y rfl rfl (y_idx rfl rfl) ?_)))))))))
                          refine l_y rfl rfl (y_p1 (x0 := 0) (enc := (eI .i64)) (xs := (at_ R up.toNat).Kids) hO rfl) ?_
                          refine s_lit (parts := [(0, .tmp 115)]) (enc := (eI .i64)) [(at_ (at_ R up.toNat).Kids ((x.1 : Int) : Int).toNat)] [.int .i64 (at_ (at_ R up.toNat).Kids ((x.1 : Int) : Int).toNat)] hO rfl (fun b116 w hO => ?_)
                          refine s_app hO rfl rfl (src_own hO) (fun p117 c117 w hO gs117 => ?_)
                          refine V2 rfl rfl rfl (K2 (K8 (K3 (K1 (V1 rfl rfl rfl (l_y rfl rfl (D4) ?_))))))
                          refine V2 rfl rfl rfl (K2 ?_)
                          have hnl : (x.2.2.2 ++ [(at_ (at_ R up.toNat).Kids ((x.1 : Int) : Int).toNat)]) = insP id before ((at_ R up.toNat).Kids.take (x.1 + 1)) := by first | (rw [insP_succ (by omega), ← hi.2, if_pos (show at_ (at_ R up.toNat).Kids x.1 = before from h14_5)]; simp) | (rw [insP_succ (by omega), ← hi.2, if_neg (show ¬ at_ (at_ R up.toNat).Kids x.1 = before from h14_5)]; rfl)
                          exact q_next ((x.1 + 1, p117, c117, (x.2.2.2 ++ [(at_ (at_ R up.toNat).Kids ((x.1 : Int) : Int).toNat)]))) ⟨rfl, rfl, rfl, rfl, rfl, rfl, rfl, rfl, trivial⟩ ⟨hO.only [.b r, .p p, .f, .p p117], ⟨by dsimp only; omega, hnl⟩⟩ (by dsimp only; omega)
                      · refine K2 (K3 (L9 (K7 (L1 (L1 (L2 (K3 (K0 (K0 ?_)))))))))
                        have hxe : x.2.2.2 = insP id before (at_ R up.toNat).Kids := by rw [hi.2, List.take_of_length_le (by omega)]
                        refine K1 (V1 rfl rfl rfl ?_)
                        refine Z0 (fun h17_1 => ?_) (fun h17_1 => ?_)
                        · first
                          | (exfalso; omega)
                          | skip
                            refine K2 (K3 (L8 (K1 (V1 rfl rfl rfl (V1 rfl rfl rfl (s_lit (parts := [(0, .tmp 121)]) (enc := (eI .i64)) [id] [.int .i64 id] hO rfl (fun b122 w hO => ?_)))))))
                            refine s_app hO rfl rfl (src_own hO) (fun p123 c123 w hO gs123 => ?_)
                            refine V2 rfl rfl rfl (K2 (K3 (K0 ?_)))
                            have hrow : (x.2.2.2 ++ [id]) = insB id before (at_ R up.toNat).Kids := by
                              rw [insB_P, ← hxe]
                              first | rw [if_pos h17_1] | rw [if_neg h17_1, List.append_nil]
                            obtain ⟨F2, hle, hO, hsa⟩ := (hO.ks [.p p123, .f]).pooled
                            refine K1 (V1 rfl rfl rfl (V3 rfl rfl rfl rfl (l_y rfl rfl (y_fldb (o' := 0) rfl) (l_y rfl rfl (D5 hO rfl) ?_))))
                            refine V1 rfl rfl rfl (V1 rfl rfl rfl (l_y rfl rfl (y_idx rfl rfl) ?_))
                            refine l_y rfl rfl (y_fld (j' := 9) rfl) ?_
                            refine s_e1 (x0 := 9) hO rfl rfl (fun w hO => ?_)
                            refine K2 (K3 (K0 (K1 (V1 rfl rfl rfl (V3 rfl rfl rfl rfl (l_y rfl rfl (y_fldb (o' := 0) rfl) (l_y rfl rfl (D5 hO rfl) ?_)))))))
                            refine V1 rfl rfl rfl (V1 rfl rfl rfl (l_y rfl rfl (y_idx rfl rfl) ?_))
                            refine l_y rfl rfl (y_fld (j' := 8) rfl) ?_
                            refine s_e1 (x0 := 8) hO rfl rfl (fun w hO => ?_)
                            refine K2 (K3 (K0 (K1 (V2 rfl rfl rfl (K2 (K3 (K6 ?_)))))))
                            refine fin1 rfl rfl ⟨_, ⟨by rw [h0], _, rfl, ?_⟩, (rarL_shut ?_ (hO.ks [.b r, .p p, .f]) ?_).one⟩
                            · rw [linkKs, if_pos h0]; exact Sim.link' t s h0 hrow
                            · exact RF.up (RF.kids (hF.le hle) (by omega) hsa) (by rw [setKidsR_len]; omega)
                            · simp
                        · first
                          | (exfalso; omega)
                          | skip
                            refine K2 (K3 (L9 (K5 (K3 (K0 ?_)))))
                            have hrow : x.2.2.2 = insB id before (at_ R up.toNat).Kids := by
                              rw [insB_P, ← hxe]
                              first | rw [if_pos h17_1] | rw [if_neg h17_1, List.append_nil]
                            obtain ⟨F2, hle, hO, hsa⟩ := (hO.ks [.p x.2.1, .f]).pooled
                            refine K1 (V1 rfl rfl rfl (V3 rfl rfl rfl rfl (l_y rfl rfl (y_fldb (o' := 0) rfl) (l_y rfl rfl (D5 hO rfl) ?_))))
                            refine V1 rfl rfl rfl (V1 rfl rfl rfl (l_y rfl rfl (y_idx rfl rfl) ?_))
                            refine l_y rfl rfl (y_fld (j' := 9) rfl) ?_
                            refine s_e1 (x0 := 9) hO rfl rfl (fun w hO => ?_)
                            refine K2 (K3 (K0 (K1 (V1 rfl rfl rfl (V3 rfl rfl rfl rfl (l_y rfl rfl (y_fldb (o' := 0) rfl) (l_y rfl rfl (D5 hO rfl) ?_)))))))
                            refine V1 rfl rfl rfl (V1 rfl rfl rfl (l_y rfl rfl (y_idx rfl rfl) ?_))
                            refine l_y rfl rfl (y_fld (j' := 8) rfl) ?_
                            refine s_e1 (x0 := 8) hO rfl rfl (fun w hO => ?_)
                            refine K2 (K3 (K0 (K1 (V2 rfl rfl rfl (K2 (K3 (K6 ?_)))))))
                            refine fin1 rfl rfl ⟨_, ⟨by rw [h0], _, rfl, ?_⟩, (rarL_shut ?_ (hO.ks [.b r, .p p, .f]) ?_).one⟩
                            · rw [linkKs, if_pos h0]; exact Sim.link' t s h0 hrow
                            · exact RF.up (RF.kids (hF.le hle) (by omega) hsa) (by rw [setKidsR_len]; omega)
                            · simp
end Go.Proofs.YtoohapbaelmkcaaGreat
end
section
set_option maxRecDepth 100000
namespace Go.Proofs.YtoohapbaelmkcaaGreat
open Go Go.Hb Go.RowKit
theorem Sim.unlink' {A : List Node_one} {K : Int → List Int} {R : List Ref01_one} (t : Tree A K) (s : Sim A K R) {id : Int} (h0 : (unlinkL A id).1 = 0) {p : Option Addr} {c : Nat} {l : List Int} (hl : l = (at_ R ((at_ A id.toNat).Node.Parent).toNat).Kids.filter (fun y => y ≠ id)) :
  Sim (unlinkL A id).2 (unlinkK K (at_ A id.toNat).Node.Parent id) (setUpR (setKidsR R (at_ A id.toNat).Node.Parent p l c) id (-1)) := by rw [hl]; exact Sim.unlink t s h0 p c
set_option maxHeartbeats 4000000 in
theorem rUnlink_spec {k : Ctx} {w : World} {r : Nat} {A : List Node_one} {K : Int → List Int} {R : List Ref01_one} {id : Int} (t : Tree A K) (s : Sim A K R) (hlen : A.length ≤ 32768) (hO : Own k w [rarL r R]) :
  Tri Tryz.prog 116 #[.pointer (some ⟨r, 0, none⟩), .int .i64 id] k w fun v m => v = .int .i64 (unlinkL A id).1 ∧ ∃ R', m = [rarL r R'] ∧ Sim (unlinkL A id).2 (unlinkKs A K id) R' := by
 refine enter (args := [.pointer (some ⟨r, 0, none⟩), .int .i64 id]) Tryz.func116 rfl rfl ?_
 obtain ⟨p, c, F, hg, hF, hO⟩ := rarL_open hO
 have hl := s.len
 have kerr : (unlinkL A id).1 ≠ 0 → Sim (unlinkL A id).2 (unlinkKs A K id) R := fun h => by rw [unlinkL_err h, unlinkKs, if_neg h]; exact s
 refine K0 (K1 (V2 rfl rfl rfl (K2 (K3 (K0 (K0 (K1 (V1 rfl rfl rfl (V1 rfl rfl rfl (CK [.b r, .p p] hO rfl (fun k' hx hr hO' => IsA_spec s (hO := hO')) ?_))))))))))
 rintro _ _ w ⟨rfl, rfl⟩ hO
 simp only [List.cons_append, List.nil_append] at hO
 refine l_y rfl rfl (y_not rfl rfl) (K2 (K3 ?_))
 refine c_split rfl (fun hc11 => ?_) (fun hc11 => ?_)
 ·simp only [Bool.not_eq_true', Bool.not_eq_false'] at hc11
  refine K0 (K1 (V2 rfl rfl rfl (K2 (K3 (K6 (K9 ?_))))))
  have e : unlinkL A id = (6, A) := by simp [unlinkL, *]
  exact fin1 rfl rfl ⟨_, ⟨by rw [e], _, rfl, kerr (by rw [e]; simp)⟩, (rarL_shut hF (hO.ks [.b r, .p p, .f])).one⟩
 ·simp only [Bool.not_eq_true', Bool.not_eq_false'] at hc11
  refine K5 (K3 (K0 ?_))
  have hid := hasB_true hc11
  have ui := (s.atB hc11).up
  refine K1 (V1 rfl rfl rfl (V3 rfl rfl rfl rfl (l_y rfl rfl (y_fldb (o' := 0) rfl) (l_y rfl rfl (D5 hO rfl) ?_))))
  refine V1 rfl rfl rfl (l_y rfl rfl (y_idx rfl rfl) ?_)
  refine l_y rfl rfl (y_fld (j' := 8) rfl) ?_
  refine l_y rfl rfl (y_e1 (x0 := 8) hO rfl) ?_
  refine V2 rfl rfl rfl (K2 (K3 (K0 (K0 (K1 (V1 rfl rfl rfl ?_))))))
  refine Z0 (fun h4_1 => ?_) (fun h4_1 => ?_)
  ·refine K2 (K3 (L8 (K0 (K1 (V2 rfl rfl rfl (K2 (K3 (K6 (K9 ?_)))))))))
   have e : unlinkL A id = (5, A) := by
    rw [ui] at h4_1
    simp [unlinkL, *]
   exact fin1 rfl rfl ⟨_, ⟨by rw [e], _, rfl, kerr (by rw [e]; simp)⟩, (rarL_shut hF (hO.ks [.b r, .p p, .f])).one⟩
  ·refine K2 (K3 (L9 (K5 (K3 (K0 ?_)))))
   obtain ⟨up, hue⟩ : ∃ up, up = (at_ R id.toNat).Up := ⟨_, rfl⟩
   have hpa : (at_ A id.toNat).Node.Parent = up := by rw [hue, ui]
   have h0 : (unlinkL A id).1 = 0 := by
    rw [ui] at h4_1
    rw [unlinkL, if_neg (by rw [hc11]; simp), if_neg h4_1]
   have hupi : InA A up := by rw [← hpa]; exact (t.up id (inA_iff.1 hc11) (by rw [ui] at h4_1; exact h4_1)).1
   have hup := hupi.1
   have hup2 := hupi.2
   have hkk : (at_ R up.toNat).Kids.length ≤ 32768 := by
    have := t.len hupi
    rw [(s.one up hupi).kids]; omega
   have hkids := (hF.atR (i := up.toNat) (by omega)).kids
   have hgk := sli_gs hkids
   have hO : Own k w (sls none 0 3 1 (eI .i64) ([] : List Int) :: _) := sl_nil 3 1 hO
   rw [← hue]
   refine K1 (V2 rfl rfl rfl (K2 (K3 (K0 (K0 (K1 (V2 rfl rfl rfl (K2 (K3 (K4 (c_rounds (X := Nat × Option Addr × Nat × List Int) (fun x => [(0, .pointer (some ⟨r, 0, none⟩)), (1, .int .i64 id), (4, .int .i64 0), (5, .int .i64 up), (6, .slice x.2.1 x.2.2.2.length x.2.2.1), (7, .int .i64 (x.1 : Int))]) (fun x w => Own k w [rB r p R.length c, rS p c R, pool F, sls x.2.1 x.2.2.1 3 1 (eI .i64) x.2.2.2] ∧ (x.1 ≤ (at_ R up.toNat).Kids.length ∧ x.2.2.2 = ((at_ R up.toNat).Kids.take x.1).filter (fun y => y ≠ id))) (fun x => (at_ R up.toNat).Kids.length - x.1) ((0, none, 0, [])) ⟨rfl, rfl, rfl, rfl, rfl, rfl, trivial⟩ ⟨hO.only [.b r, .p p, .f, .p none], ⟨Nat.zero_le _, rfl⟩⟩ ?_)))))))))))
   rintro x w m hm ⟨hO, hi⟩
   have hxl : x.2.2.2.length ≤ 65536 := by
    have h := List.length_filter_le (fun y => decide (y ≠ id)) ((at_ R up.toNat).Kids.take x.1)
    rw [← hi.2, List.length_take] at h
    omega
   refine K0 (K0 (K1 (V1 rfl rfl rfl (V1 rfl rfl rfl (V3 rfl rfl rfl rfl (l_y rfl rfl (y_fldb (o' := 0) rfl) (l_y rfl rfl (D5 hO rfl) ?_)))))))
   refine V1 rfl rfl rfl (l_y rfl rfl (y_idx rfl rfl) ?_)
   refine l_y rfl rfl (y_fld (j' := 9) rfl) ?_
   refine l_y rfl rfl (y_e1 (x0 := 9) hO rfl) ?_
   refine l_y rfl rfl (y_lenL rfl) ?_
   refine Z0 (fun h8_10 => ?_) (fun h8_10 => ?_)
   ·refine K2 (K3 (L8 (K5 (K3 (K0 (K4 (K0 (K1 (V1 rfl rfl rfl (V3 rfl rfl rfl rfl (l_y rfl rfl (y_fldb (o' := 0) rfl) (l_y rfl rfl (D5 hO rfl) ?_))))))))))))
    refine V1 rfl rfl rfl (l_y rfl rfl (y_idx rfl rfl) ?_)
    refine l_y rfl rfl (y_fld (j' := 9) rfl) ?_
    refine l_y rfl rfl (y_e1 (x0 := 9) hO rfl) ?_
    refine V1 rfl rfl rfl (l_y rfl rfl (y_idx rfl rfl) ?_)
    refine l_y rfl rfl (y_p1 (x0 := 0) (enc := (eI .i64)) (xs := (at_ R up.toNat).Kids) hO rfl) ?_
    refine V1 rfl rfl rfl ?_
    refine Z1 (fun h10_12 => ?_) (fun h10_12 => ?_)
    ·refine K2 (K3 (L8 (K1 (V1 rfl rfl rfl (V1 rfl rfl rfl (V3 rfl rfl rfl rfl (l_y rfl rfl (y_fldb (o' := 0) rfl) (l_y rfl rfl (D5 hO rfl) ?_))))))))
     refine V1 rfl rfl rfl (l_y rfl rfl (y_idx rfl rfl) ?_)
     refine l_y rfl rfl (y_fld (j' := 9) rfl) ?_
     refine l_y rfl rfl (y_e1 (x0 := 9) hO rfl) ?_
     refine V1 rfl rfl rfl (l_y rfl rfl (y_idx rfl rfl) ?_)
     refine l_y rfl rfl (y_p1 (x0 := 0) (enc := (eI .i64)) (xs := (at_ R up.toNat).Kids) hO rfl) ?_
     refine s_lit (parts := [(0, .tmp 59)]) (enc := (eI .i64)) [(at_ (at_ R up.toNat).Kids ((x.1 : Int) : Int).toNat)] [.int .i64 (at_ (at_ R up.toNat).Kids ((x.1 : Int) : Int).toNat)] hO rfl (fun b60 w hO => ?_)
     refine s_app hO rfl rfl (src_own hO) (fun p61 c61 w hO gs61 => ?_)
     refine V2 rfl rfl rfl (K2 (K8 (K3 (K1 (V1 rfl rfl rfl (l_y rfl rfl (D4) ?_))))))
     refine V2 rfl rfl rfl (K2 ?_)
     have hnl : (x.2.2.2 ++ [(at_ (at_ R up.toNat).Kids ((x.1 : Int) : Int).toNat)]) = ((at_ R up.toNat).Kids.take (x.1 + 1)).filter (fun y => y ≠ id) := by first | (rw [take_succ_at (by omega), List.filter_append, ← hi.2, List.filter_cons, if_pos (by simpa using show ¬ at_ (at_ R up.toNat).Kids x.1 = id from h10_12)]; rfl) | (rw [take_succ_at (by omega), List.filter_append, ← hi.2, List.filter_cons, if_neg (by simpa using show at_ (at_ R up.toNat).Kids x.1 = id from h10_12)]; simp)
     exact q_next ((x.1 + 1, p61, c61, (x.2.2.2 ++ [(at_ (at_ R up.toNat).Kids ((x.1 : Int) : Int).toNat)]))) ⟨rfl, rfl, rfl, rfl, rfl, rfl, trivial⟩ ⟨hO.only [.b r, .p p, .f, .p p61], ⟨by dsimp only; omega, hnl⟩⟩ (by dsimp only; omega)
    ·refine K2 (K3 (L9 (K5 (K8 (K3 (K1 (V1 rfl rfl rfl (l_y rfl rfl (D4) ?_))))))))
     refine V2 rfl rfl rfl (K2 ?_)
     have hnl : x.2.2.2 = ((at_ R up.toNat).Kids.take (x.1 + 1)).filter (fun y => y ≠ id) := by first | (rw [take_succ_at (by omega), List.filter_append, ← hi.2, List.filter_cons, if_pos (by simpa using show ¬ at_ (at_ R up.toNat).Kids x.1 = id from h10_12)]; rfl) | (rw [take_succ_at (by omega), List.filter_append, ← hi.2, List.filter_cons, if_neg (by simpa using show at_ (at_ R up.toNat).Kids x.1 = id from h10_12)]; simp)
     exact q_next ((x.1 + 1, x.2.1, x.2.2.1, x.2.2.2)) ⟨rfl, rfl, rfl, rfl, rfl, rfl, trivial⟩ ⟨hO.only [.b r, .p p, .f, .p x.2.1], ⟨by dsimp only; omega, hnl⟩⟩ (by dsimp only; omega)
   ·refine K2 (K3 (L9 (K7 (L1 (L1 (L2 (K3 (K0 ?_))))))))
    have hrow : x.2.2.2 = (at_ R ((at_ A id.toNat).Node.Parent).toNat).Kids.filter (fun y => y ≠ id) := by rw [hpa, hi.2, List.take_of_length_le (by omega)]
    obtain ⟨F2, hle, hO, hsa⟩ := (hO.ks [.p x.2.1, .f]).pooled
    refine K1 (V1 rfl rfl rfl (V3 rfl rfl rfl rfl (l_y rfl rfl (y_fldb (o' := 0) rfl) (l_y rfl rfl (D5 hO rfl) ?_))))
    refine V1 rfl rfl rfl (V1 rfl rfl rfl (l_y rfl rfl (y_idx rfl rfl) ?_))
    refine l_y rfl rfl (y_fld (j' := 9) rfl) ?_
    refine s_e1 (x0 := 9) hO rfl rfl (fun w hO => ?_)
    refine K2 (K3 (K0 (K1 (V1 rfl rfl rfl (V3 rfl rfl rfl rfl (l_y rfl rfl (y_fldb (o' := 0) rfl) (l_y rfl rfl (D5 hO rfl) ?_)))))))
    refine V1 rfl rfl rfl (l_y rfl rfl (y_idx rfl rfl) ?_)
    refine l_y rfl rfl (y_fld (j' := 8) rfl) ?_
    refine s_e1 (x0 := 8) hO rfl rfl (fun w hO => ?_)
    refine K2 (K3 (K0 (K1 (V2 rfl rfl rfl (K2 (K3 (K6 ?_)))))))
    refine fin1 rfl rfl ⟨_, ⟨by rw [h0], _, rfl, ?_⟩, (rarL_shut ?_ (hO.ks [.b r, .p p, .f]) ?_).one⟩
    ·rw [unlinkKs, if_pos h0]; rw [← hpa]; exact Sim.unlink' t s h0 hrow
    ·exact RF.up (RF.kids (hF.le hle) (by omega) hsa) (by rw [setKidsR_len]; omega)
    ·simp
end Go.Proofs.YtoohapbaelmkcaaGreat
end
section
set_option maxRecDepth 100000
namespace Go.Proofs.YtoohapbaelmkcaaGreat
open Go Go.Hb Go.RowKit
structure Two (A : List Node_one) (K : Int → List Int) (R : List Ref01_one) : Prop where
 tree : Tree A K
 sim : Sim A K R
 pos : 0 < A.length
 max : A.length ≤ 32768
theorem Two.rmax {A : List Node_one} {K : Int → List Int} {R : List Ref01_one} (h : Two A K R) : R.length ≤ 32768 := by rw [h.sim.len]; exact h.max
theorem Two.new : Two [docD] (fun _ => []) [docR] := ⟨Tree.new, Sim.new, by simp, by simp⟩
theorem Two.add {A : List Node_one} {K : Int → List Int} {R : List Ref01_one} (h : Two A K R) {n : Api_node} {o : Ref01_one} (hl : A.length < 32768) (ha : n.Attrs.length ≤ 1024) (hs : Sim1 (blankN n) [] (blankR o)) : Two (A ++ [blankN n]) (addK A K) (R ++ [blankR o]) :=
 ⟨h.tree.add n ha, h.sim.add hs, by simp, by simp; omega⟩
theorem el_both {A : List Node_one} {K : Int → List Int} {R : List Ref01_one} (h : Two A K R) (sp : Int) (nm : ByteArray) (xs : List Api_attr) (q q' : Option Addr) (d d' : Nat) :
    (elementL A sp nm xs q d).1 = (elementR R sp nm xs q' d').1 ∧ (A.length ≠ 32767 ∨ longB (nm :: attrTexts xs) = false → (elementL A sp nm xs q d).2.1 = (elementR R sp nm xs q' d').2.1) ∧ ∃ K', Two (elementL A sp nm xs q d).2.2 K' (elementR R sp nm xs q' d').2.2 := by
  have hl := h.sim.len
  unfold elementL elementR
  by_cases h1 : sp < 0 ∨ 2 < sp
  · rw [if_pos h1, if_pos h1]; exact ⟨rfl, fun _ => rfl, K, h⟩
  rw [if_neg h1, if_neg h1]
  by_cases h2 : 1024 < xs.length
  · rw [if_pos h2, if_pos h2]; exact ⟨rfl, fun _ => rfl, K, h⟩
  rw [if_neg h2, if_neg h2]
  by_cases h3 : tmpl sp nm ∧ A.length = 32767
  · rw [if_pos h3]
    by_cases h4 : longB (nm :: attrTexts xs) = true
    · rw [if_pos h4]
      refine ⟨rfl, fun h5 => ?_, K, h⟩
      rcases h5 with h5 | h5
      · exact absurd h3.2 h5
      · rw [h4] at h5; simp at h5
    · rw [if_neg h4, if_pos ⟨h3.1, by omega⟩]; exact ⟨rfl, fun _ => rfl, K, h⟩
  rw [if_neg h3]
  by_cases h4 : longB (nm :: attrTexts xs) = true
  · rw [if_pos h4, if_pos h4]; exact ⟨rfl, fun _ => rfl, K, h⟩
  rw [if_neg h4, if_neg h4]
  by_cases h5 : 32768 ≤ A.length
  · rw [if_pos h5]
    by_cases h6 : tmpl sp nm ∧ 32767 ≤ R.length
    · rw [if_pos h6]; exact ⟨rfl, fun _ => rfl, K, h⟩
    · rw [if_neg h6, if_pos (by omega)]; exact ⟨rfl, fun _ => rfl, K, h⟩
  rw [if_neg h5, if_neg (show ¬ (tmpl sp nm ∧ 32767 ≤ R.length) from fun h6 => h3 ⟨h6.1, by omega⟩), if_neg (show ¬ 32768 ≤ R.length by omega)]
  have s1 : Sim1 (blankN (elementN q d sp nm xs)) [] (blankR (elR q' d' sp nm xs)) := ⟨rfl, rfl, rfl, rfl, rfl, rfl, rfl, rfl, rfl, rfl⟩
  have h7 := h.add (n := elementN q d sp nm xs) (o := elR q' d' sp nm xs) (by omega) (show xs.length ≤ 1024 by omega) s1
  by_cases ht : tmpl sp nm
  · rw [if_pos ht, if_pos ht]
    refine ⟨by rw [hl], fun _ => rfl, addK (A ++ [blankN (elementN q d sp nm xs)]) (addK A K), ?_⟩
    have hA1 : A.length ≠ 32767 := fun e => h3 ⟨ht, e⟩
    have hl1 : (A ++ [blankN (elementN q d sp nm xs)]).length = A.length + 1 := by simp
    have hlR : (R ++ [blankR (elR q' d' sp nm xs)]).length = A.length + 1 := by simp [hl]
    have s2 : Sim1 (blankN fragmentN) [] (blankR fragmentR) := ⟨rfl, rfl, rfl, rfl, rfl, rfl, rfl, rfl, rfl, rfl⟩
    have h8 := h7.add (n := fragmentN) (o := fragmentR) (by omega) (Nat.zero_le _) s2
    have i1 : InA (A ++ [blankN (elementN q d sp nm xs)]) (A.length : Int) := ⟨by omega, by omega⟩
    have id2 : InA (A ++ [blankN (elementN q d sp nm xs)] ++ [blankN fragmentN]) (A.length : Int) := inA_new.2 (.inl i1)
    have if2 : InA (A ++ [blankN (elementN q d sp nm xs)] ++ [blankN fragmentN]) ((A ++ [blankN (elementN q d sp nm xs)]).length : Int) := inA_new.2 (.inr rfl)
    have e1 : at_ (A ++ [blankN (elementN q d sp nm xs)] ++ [blankN fragmentN]) ((A.length : Int)).toNat = blankN (elementN q d sp nm xs) := by rw [at_old i1, at_new]
    have e2 : at_ (A ++ [blankN (elementN q d sp nm xs)] ++ [blankN fragmentN]) (((A ++ [blankN (elementN q d sp nm xs)]).length : Int)).toNat = blankN fragmentN := at_new
    have ht3 := h8.tree.hosted id2 if2 (by rw [nodeA, e2]; rfl) (by rw [e2]; rfl) (fun hA => by
      have hA := (anc_ne (by omega) (by omega)).1 hA
      have : nextUp (A ++ [blankN (elementN q d sp nm xs)] ++ [blankN fragmentN]) (A.length : Int) = -1 := by rw [nextUp, e1]; rfl
      rw [this] at hA
      have := anc_none hA
      omega)
    refine ⟨ht3, ?_, by simp [setHost, setInner], by simp only [setHost, setInner, List.length_set, List.length_append, List.length_cons, List.length_nil]; omega⟩
    have hs := h8.sim
    have r1 : InR2 (R ++ [blankR (elR q' d' sp nm xs)] ++ [blankR fragmentR]) (A.length : Int) := hs.inR id2
    have r2 : InR2 (R ++ [blankR (elR q' d' sp nm xs)] ++ [blankR fragmentR]) ((A ++ [blankN (elementN q d sp nm xs)]).length : Int) := hs.inR if2
    refine ⟨by simp [setHostR, setInnerR, setHost, setInner, hl], fun y hy => ?_⟩
    have hlen : (setHost (setInner (A ++ [blankN (elementN q d sp nm xs)] ++ [blankN fragmentN]) A.length (A ++ [blankN (elementN q d sp nm xs)]).length) (A ++ [blankN (elementN q d sp nm xs)]).length A.length).length = (A ++ [blankN (elementN q d sp nm xs)] ++ [blankN fragmentN]).length := by simp [setHost, setInner]
    have hyA := hy.len hlen.symm
    have sy := hs.one y hyA
    have iL : InA (setInner (A ++ [blankN (elementN q d sp nm xs)] ++ [blankN fragmentN]) A.length (A ++ [blankN (elementN q d sp nm xs)]).length) ((A ++ [blankN (elementN q d sp nm xs)]).length : Int) := if2.len (by simp [setInner])
    have iR : InR2 (setInnerR (R ++ [blankR (elR q' d' sp nm xs)] ++ [blankR fragmentR]) A.length (A ++ [blankN (elementN q d sp nm xs)]).length) ((A ++ [blankN (elementN q d sp nm xs)]).length : Int) := ⟨r2.1, by have := r2.2; simpa [setInnerR] using this⟩
    have eR1 : (((R ++ [blankR (elR q' d' sp nm xs)]).length : Nat) : Int) = ((A ++ [blankN (elementN q d sp nm xs)]).length : Int) := by rw [hlR, hl1]
    have eR0 : ((R.length : Nat) : Int) = (A.length : Int) := by rw [hl]
    rw [eR1, eR0]
    rw [setHost, setHostR, at_setI iL hy.1, at_setR iR hy.1]
    by_cases c1 : y = ((A ++ [blankN (elementN q d sp nm xs)]).length : Int)
    · rw [if_pos c1, if_pos c1]
      rw [setInner, setInnerR, at_setI id2 if2.1, at_setR r1 if2.1, if_neg (by omega), if_neg (by omega)]
      rw [c1] at sy
      exact ⟨sy.kind, sy.space, sy.name, sy.attrs, sy.data, sy.system, sy.inner, rfl, sy.up, by rw [c1]; exact sy.kids⟩
    · rw [if_neg c1, if_neg c1, setInner, setInnerR, at_setI id2 hy.1, at_setR r1 hy.1]
      by_cases c2 : y = (A.length : Int)
      · rw [if_pos c2, if_pos c2]
        rw [c2] at sy
        exact ⟨sy.kind, sy.space, sy.name, sy.attrs, sy.data, sy.system, rfl, sy.host, sy.up, by rw [c2]; exact sy.kids⟩
      · rw [if_neg c2, if_neg c2]; exact sy
  · rw [if_neg ht, if_neg ht]
    exact ⟨by rw [hl], fun _ => rfl, _, h7⟩
theorem Two.link {A : List Node_one} {K : Int → List Int} {R R' : List Ref01_one} (t : Two A K R) {up id before : Int} (s : Sim (linkL A up id before).2 (linkKs A K up id before) R') : Two (linkL A up id before).2 (linkKs A K up id before) R' := ⟨t.tree.linkS _ _ _, s, by rw [linkL_len]; exact t.pos, by rw [linkL_len]; exact t.max⟩
theorem Two.unlink {A : List Node_one} {K : Int → List Int} {R R' : List Ref01_one} (t : Two A K R) {id : Int} (s : Sim (unlinkL A id).2 (unlinkKs A K id) R') : Two (unlinkL A id).2 (unlinkKs A K id) R' := ⟨t.tree.unlinkS _, s, by rw [unlinkL_len]; exact t.pos, by rw [unlinkL_len]; exact t.max⟩
end Go.Proofs.YtoohapbaelmkcaaGreat
end
section
set_option maxRecDepth 100000
namespace Go.Proofs.YtoohapbaelmkcaaGreat
open Go Go.Hb Go.RowKit
abbrev tB (t r : Nat) (q : Option Addr) (n d : Nat) : HP := blk t 97 [.pointer (some ⟨r, 0, none⟩), .slice q n d]
def rstkL (t r : Nat) (l : List Int) : HP := fun h => ∃ x : Option Addr × Nat, sep [tB t r x.1 l.length x.2, sI x.1 x.2 l] h
theorem rstkL_open {k : Ctx} {w : World} {L : List HP} {t r : Nat} {l : List Int} (hO : Own k w (rstkL t r l :: L)) : ∃ q d, Gs q l.length ∧ l.length ≤ d ∧ Own k w (tB t r q l.length d :: sI q d l :: L) := by
 obtain ⟨⟨q, d⟩, hO⟩ := Own.ex (A := fun (x : Option Addr × Nat) => sep [tB t r x.1 l.length x.2, sI x.1 x.2 l]) hO
 have hO := Own.open hO
 simp only [List.cons_append, List.nil_append] at hO
 exact ⟨q, d, (sls_fct (p := q) hO).2, (sls_fct (p := q) hO).1, hO⟩
theorem rstkL_shut {k : Ctx} {w : World} {L : List HP} {t r n : Nat} {l : List Int} {q : Option Addr} {d : Nat} (hO : Own k w (tB t r q n d :: sI q d l :: L)) (hn : n = l.length := by first | rfl | simp) : Own k w (rstkL t r l :: L) := by
 subst hn
 exact (Own.shut (l := [tB t r q l.length d, sI q d l]) hO).tell fun h hA => ⟨(q, d), hA⟩
instance (priority := high) AtK.hrstk (t r : Nat) (l : List Int) (L : List HP) : AtK (rstkL t r l :: L) (.o t) (rstkL t r l) L := ⟨.hd _ L⟩
theorem Sim.el {A : List Node_one} {K : Int → List Int} {R : List Ref01_one} (s : Sim A K R) {id : Int} : elB A id = (hasR R id && decide ((at_ R id.toNat).Kind = 1)) := by
 rw [elB, ← s.has]
 cases h : hasR R id with
 | false => rfl
 | true => rw [(s.atB (by rw [← s.has]; exact h)).kind]
section
variable {k : Ctx} {w : World} {r t c : Nat} {p : Option Addr} {A : List Node_one} {K : Int → List Int} {R : List Ref01_one} {l : List Int} {id kind : Int} {name : ByteArray}
theorem tEl_spec (s : Sim A K R) (hg : Gs p R.length) (hO : Own k w [rB r p R.length c, rS p c R]) :
  Tri Tryz.prog 68 #[.pointer (some ⟨r, 0, none⟩), .int .i64 id] k w fun v m => v = .bool (elB A id) ∧ m = [rB r p R.length c, rS p c R] := by
 refine enter (args := [.pointer (some ⟨r, 0, none⟩), .int .i64 id]) Tryz.func68 rfl rfl (K0 (K1 (V2 rfl rfl rfl (K2 (K3 (K0 (K1 (V1 rfl rfl rfl (V1 rfl rfl rfl (CK [.b r, .p p] hO rfl (fun k' hx hr hO' => Is_spec (hO := hO')) ?_))))))))))
 rintro _ _ w ⟨rfl, rfl⟩ hO
 simp only [List.cons_append, List.nil_append] at hO
 refine V1 rfl rfl rfl ?_
 refine l_split 8 rfl (fun hg8 => ?_) (fun hg8 => ?_)
 ·have hid := hasR_true hg8
  refine V1 rfl rfl rfl (V3 rfl rfl rfl rfl (l_y rfl rfl (y_fldb (o' := 0) rfl) (l_y rfl rfl (D5 hO rfl) ?_)))
  refine V1 rfl rfl rfl (l_y rfl rfl (y_idx rfl rfl) ?_)
  refine l_y rfl rfl (y_fld (j' := 0) rfl) ?_
  refine l_y rfl rfl (y_e1 (x0 := 0) hO rfl) ?_
  refine Z0 (fun h1_12 => ?_) (fun h1_12 => ?_)
  ·refine l_y rfl rfl (y_pick_t rfl rfl) (V2 rfl rfl rfl (K2 (K3 (K6 ?_))))
   exact fin1 rfl rfl ⟨_, ⟨by rw [s.el]; simp [*], rfl⟩, hO.only [.b r, .p p]⟩
  ·refine l_y rfl rfl (y_pick_t rfl rfl) (V2 rfl rfl rfl (K2 (K3 (K6 ?_))))
   exact fin1 rfl rfl ⟨_, ⟨by rw [s.el]; simp [*], rfl⟩, hO.only [.b r, .p p]⟩
 ·repeat refine M2 ?_
  refine l_y rfl rfl (y_pick_f rfl rfl) (V2 rfl rfl rfl (K2 (K3 (K6 ?_))))
  exact fin1 rfl rfl ⟨_, ⟨by rw [s.el]; simp [*], rfl⟩, hO.only [.b r, .p p]⟩
theorem tIn_spec {x : ByteArray} {ts : List ByteArray} {tp : Option Addr} {n tc : Nat} (hs : Sli (Ro k) (.slice tp n tc) (ts.map eS)) (hl : ts.length ≤ 1000000) (hO : Own k w []) :
  Tri Tryz.prog 133 #[.slice tp n tc, .string x] k w fun v m => v = .bool (inB x ts) ∧ m = [] := by
 obtain rfl : n = ts.length := by have := hs.fits.1; simpa using this
 refine enter (args := [.slice tp ts.length tc, .string x]) Tryz.func133 rfl rfl ?_
 have hgs := sli_gs hs
 refine K0 (K1 (V2 rfl rfl rfl (K2 (K3 (K0 (K0 (K1 (V2 rfl rfl rfl (K2 (K3 (K4 (c_rounds (X := Nat) (fun i => [(0, .slice tp ts.length tc), (1, .string x), (4, .bool false), (5, .int .i64 (i : Int))]) (fun i w => Own k w [] ∧ (i ≤ ts.length ∧ inB x (ts.take i) = false)) (fun i => ts.length - i) (0) ⟨rfl, rfl, rfl, rfl, trivial⟩ ⟨hO.only [], ⟨Nat.zero_le _, rfl⟩⟩ ?_))))))))))))
 rintro i w m hm ⟨hO, hi⟩
 refine K0 (K0 (K1 (V1 rfl rfl rfl (V1 rfl rfl rfl (l_y rfl rfl (y_lenL rfl) ?_)))))
 refine Z0 (fun h2_3 => ?_) (fun h2_3 => ?_)
 ·refine K2 (K3 (L8 (K5 (K3 (K0 (K4 (K0 (K1 (V1 rfl rfl rfl (V1 rfl rfl rfl (l_y rfl rfl (y_idx rfl rfl) ?_)))))))))))
  refine l_y rfl rfl (y_r1 (x0 := 0) (enc := eS) (xs := ts) hO rfl) ?_
  refine V1 rfl rfl rfl ?_
  refine Z2 (fun h4_5 => ?_) (fun h4_5 => ?_)
  ·refine K2 (K3 (L8 (K0 (K1 (V2 rfl rfl rfl (K2 (K3 (K6 (L0 (K9 (K9 (L0 (K9 ?_)))))))))))))
   have hlt : inB x ts = true := List.any_eq_true.2 ⟨at_ ts i, at_mem (by omega), decide_eq_true h4_5.symm⟩
   exact fin1 rfl rfl ⟨_, ⟨by rw [hlt], rfl⟩, hO⟩
  ·refine K2 (K3 (L9 (K5 (K8 (K3 (K1 (V1 rfl rfl rfl (l_y rfl rfl (D4) ?_))))))))
   refine V2 rfl rfl rfl (K2 ?_)
   exact q_next (i + 1) ⟨rfl, rfl, rfl, rfl, trivial⟩ ⟨hO.only [], ⟨by omega, by rw [take_succ_at (by omega), inB, List.any_append]; simp only [List.any_cons, List.any_nil, Bool.or_false, Bool.or_eq_false_iff]; exact ⟨hi.2, decide_eq_false (fun h => h4_5 h.symm)⟩⟩⟩ (by omega)
 ·refine K2 (K3 (L9 (K7 (L1 (L1 (L2 (K3 (K0 (K1 (V2 rfl rfl rfl (K2 (K3 (K6 ?_)))))))))))))
  have hlf : inB x ts = false := by rw [show ts = ts.take i by rw [List.take_of_length_le (by omega)]]; exact hi.2
  exact fin1 rfl rfl ⟨_, ⟨by rw [hlf], rfl⟩, hO⟩
theorem tNamed_spec {q : Option Addr} {n d : Nat} (s : Sim A K R) (hg : Gs p R.length) (hO : Own k w [rB r p R.length c, rS p c R, tB t r q n d]) :
  Tri Tryz.prog 39 #[.pointer (some ⟨t, 0, none⟩), .int .i64 id, .string name] k w fun v m => v = .bool (elB A id && namA A [name] id) ∧ m = [rB r p R.length c, rS p c R, tB t r q n d] := by
 refine enter (args := [.pointer (some ⟨t, 0, none⟩), .int .i64 id, .string name]) Tryz.func39 rfl rfl (K0 (K1 (V2 rfl rfl rfl (K2 (K3 (K0 (K1 (V1 rfl rfl rfl (V3 rfl rfl rfl rfl (l_y rfl rfl (y_fldb (o' := 0) rfl) (l_y rfl rfl (D5 hO rfl) ?_)))))))))))
 refine V1 rfl rfl rfl (CK [.b r, .p p] hO rfl (fun k' hx hr hO' => tEl_spec s hg (hO := hO')) ?_)
 rintro _ _ w ⟨rfl, rfl⟩ hO
 simp only [List.cons_append, List.nil_append] at hO
 refine V1 rfl rfl rfl ?_
 refine l_split 13 rfl (fun hg13 => ?_) (fun hg13 => ?_)
 ·have hb := elB_has hg13
  have hid := hasR_true (by rw [s.has]; exact hb)
  have e1 := (s.atB hb).space
  have e2 := (s.atB hb).name
  refine V1 rfl rfl rfl (V3 rfl rfl rfl rfl (l_y rfl rfl (y_fldb (o' := 0) rfl) (l_y rfl rfl (D5 hO rfl) ?_)))
  refine V3 rfl rfl rfl rfl (l_y rfl rfl (y_fldb (o' := 0) rfl) (l_y rfl rfl (D5 hO rfl) ?_))
  refine V1 rfl rfl rfl (l_y rfl rfl (y_idx rfl rfl) ?_)
  refine l_y rfl rfl (y_fld (j' := 1) rfl) ?_
  refine l_y rfl rfl (y_e1 (x0 := 1) hO rfl) ?_
  refine Z0 (fun h1_18 => ?_) (fun h1_18 => ?_)
  ·rw [e1] at h1_18
   refine l_y rfl rfl (y_pick_t rfl rfl) (V1 rfl rfl rfl (V1 rfl rfl rfl (V3 rfl rfl rfl rfl (l_y rfl rfl (y_fldb (o' := 0) rfl) (l_y rfl rfl (D5 hO rfl) ?_)))))
   refine V3 rfl rfl rfl rfl (l_y rfl rfl (y_fldb (o' := 0) rfl) (l_y rfl rfl (D5 hO rfl) ?_))
   refine V1 rfl rfl rfl (l_y rfl rfl (y_idx rfl rfl) ?_)
   refine l_y rfl rfl (y_fld (j' := 2) rfl) ?_
   refine l_y rfl rfl (y_e1 (x0 := 2) hO rfl) ?_
   refine V1 rfl rfl rfl ?_
   refine Z2 (fun h1_33 => ?_) (fun h1_33 => ?_)
   ·rw [e2] at h1_33
    refine l_y rfl rfl (y_pick_t rfl rfl) (V2 rfl rfl rfl (K2 (K3 (K6 ?_))))
    exact fin1 rfl rfl ⟨_, ⟨by simp [namA, namB, inB, *], rfl⟩, hO.only [.b r, .p p, .b t]⟩
   ·rw [e2] at h1_33
    refine l_y rfl rfl (y_pick_t rfl rfl) (V2 rfl rfl rfl (K2 (K3 (K6 ?_))))
    exact fin1 rfl rfl ⟨_, ⟨by simp [namA, namB, inB, *], rfl⟩, hO.only [.b r, .p p, .b t]⟩
  ·rw [e1] at h1_18
   refine l_y rfl rfl (y_pick_t rfl rfl) (V1 rfl rfl rfl ?_)
   repeat refine M2 ?_
   refine l_y rfl rfl (y_pick_f rfl rfl) (V2 rfl rfl rfl (K2 (K3 (K6 ?_))))
   exact fin1 rfl rfl ⟨_, ⟨by simp [namA, namB, inB, *], rfl⟩, hO.only [.b r, .p p, .b t]⟩
 ·repeat refine M2 ?_
  refine l_y rfl rfl (y_pick_f rfl rfl) (V1 rfl rfl rfl ?_)
  repeat refine M2 ?_
  refine l_y rfl rfl (y_pick_f rfl rfl) (V2 rfl rfl rfl (K2 (K3 (K6 ?_))))
  exact fin1 rfl rfl ⟨_, ⟨by simp [namA, namB, inB, *], rfl⟩, hO.only [.b r, .p p, .b t]⟩
theorem tOf_spec {q tp : Option Addr} {n d tn tc : Nat} {ts : List ByteArray} (hs : Sli (Ro k) (.slice tp tn tc) (ts.map eS)) (hl : ts.length ≤ 1000000) (s : Sim A K R) (hg : Gs p R.length) (hO : Own k w [rB r p R.length c, rS p c R, tB t r q n d]) :
  Tri Tryz.prog 114 #[.pointer (some ⟨t, 0, none⟩), .int .i64 id, .slice tp tn tc] k w fun v m => v = .bool (elB A id && namA A ts id) ∧ m = [rB r p R.length c, rS p c R, tB t r q n d] := by
 refine enter (args := [.pointer (some ⟨t, 0, none⟩), .int .i64 id, .slice tp tn tc]) Tryz.func114 rfl rfl (K0 (K1 (V2 rfl rfl rfl (K2 (K3 (K0 (K1 (V1 rfl rfl rfl (V3 rfl rfl rfl rfl (l_y rfl rfl (y_fldb (o' := 0) rfl) (l_y rfl rfl (D5 hO rfl) ?_)))))))))))
 refine V1 rfl rfl rfl (CK [.b r, .p p] hO rfl (fun k' hx hr hO' => tEl_spec s hg (hO := hO')) ?_)
 rintro _ _ w ⟨rfl, rfl⟩ hO
 simp only [List.cons_append, List.nil_append] at hO
 refine V1 rfl rfl rfl ?_
 refine l_split 13 rfl (fun hg13 => ?_) (fun hg13 => ?_)
 ·have hb := elB_has hg13
  have hid := hasR_true (by rw [s.has]; exact hb)
  have e1 := (s.atB hb).space
  have e2 := (s.atB hb).name
  refine V1 rfl rfl rfl (V3 rfl rfl rfl rfl (l_y rfl rfl (y_fldb (o' := 0) rfl) (l_y rfl rfl (D5 hO rfl) ?_)))
  refine V3 rfl rfl rfl rfl (l_y rfl rfl (y_fldb (o' := 0) rfl) (l_y rfl rfl (D5 hO rfl) ?_))
  refine V1 rfl rfl rfl (l_y rfl rfl (y_idx rfl rfl) ?_)
  refine l_y rfl rfl (y_fld (j' := 1) rfl) ?_
  refine l_y rfl rfl (y_e1 (x0 := 1) hO rfl) ?_
  refine Z0 (fun h1_18 => ?_) (fun h1_18 => ?_)
  ·rw [e1] at h1_18
   refine l_y rfl rfl (y_pick_t rfl rfl) (V1 rfl rfl rfl (V1 rfl rfl rfl (V1 rfl rfl rfl (V3 rfl rfl rfl rfl (l_y rfl rfl (y_fldb (o' := 0) rfl) (l_y rfl rfl (D5 hO rfl) ?_))))))
   refine V3 rfl rfl rfl rfl (l_y rfl rfl (y_fldb (o' := 0) rfl) (l_y rfl rfl (D5 hO rfl) ?_))
   refine V1 rfl rfl rfl (l_y rfl rfl (y_idx rfl rfl) ?_)
   refine l_y rfl rfl (y_fld (j' := 2) rfl) ?_
   refine l_y rfl rfl (y_e1 (x0 := 2) hO rfl) ?_
   refine CK [] hO rfl (fun k' hx hr hO' => tIn_spec (hs.ext hO hx) hl (hO := hO')) ?_
   rintro _ _ w ⟨rfl, rfl⟩ hO
   simp only [List.nil_append] at hO
   rw [e2]
   refine l_y rfl rfl (y_pick_t rfl rfl) (V2 rfl rfl rfl (K2 (K3 (K6 ?_))))
   exact fin1 rfl rfl ⟨_, ⟨by simp [namA, namB, *], rfl⟩, hO.only [.b r, .p p, .b t]⟩
  ·rw [e1] at h1_18
   refine l_y rfl rfl (y_pick_t rfl rfl) (V1 rfl rfl rfl ?_)
   repeat refine M2 ?_
   refine l_y rfl rfl (y_pick_f rfl rfl) (V2 rfl rfl rfl (K2 (K3 (K6 ?_))))
   exact fin1 rfl rfl ⟨_, ⟨by simp [namA, namB, *], rfl⟩, hO.only [.b r, .p p, .b t]⟩
 ·repeat refine M2 ?_
  refine l_y rfl rfl (y_pick_f rfl rfl) (V1 rfl rfl rfl ?_)
  repeat refine M2 ?_
  refine l_y rfl rfl (y_pick_f rfl rfl) (V2 rfl rfl rfl (K2 (K3 (K6 ?_))))
  exact fin1 rfl rfl ⟨_, ⟨by simp [namA, namB, *], rfl⟩, hO.only [.b r, .p p, .b t]⟩
theorem tmath_spec (hO : Own k w []) : Tri Tryz.prog 134 #[] k w fun v m => ∃ b, v = .slice (some ⟨b, 0, none⟩) mathL.length mathL.length ∧ m = [sls (some ⟨b, 0, none⟩) mathL.length 9 1 eS mathL] := by
 refine enter (args := []) Tryz.func134 rfl rfl (K0 (K1 (V2 rfl rfl rfl (K2 (K3 (K0 (K1 (s_lit (parts := [(0, .const (.string ⟨#[109, 105]⟩)), (1, .const (.string ⟨#[109, 111]⟩)), (2, .const (.string ⟨#[109, 110]⟩)), (3, .const (.string ⟨#[109, 115]⟩)), (4, .const (.string ⟨#[109, 116, 101, 120, 116]⟩)), (5, .const (.string ⟨#[97, 110, 110, 111, 116, 97, 116, 105, 111, 110, 45, 120, 109, 108]⟩))]) (enc := eS) [⟨#[109, 105]⟩, ⟨#[109, 111]⟩, ⟨#[109, 110]⟩, ⟨#[109, 115]⟩, ⟨#[109, 116, 101, 120, 116]⟩, ⟨#[97, 110, 110, 111, 116, 97, 116, 105, 111, 110, 45, 120, 109, 108]⟩] [.string ⟨#[109, 105]⟩, .string ⟨#[109, 111]⟩, .string ⟨#[109, 110]⟩, .string ⟨#[109, 115]⟩, .string ⟨#[109, 116, 101, 120, 116]⟩, .string ⟨#[97, 110, 110, 111, 116, 97, 116, 105, 111, 110, 45, 120, 109, 108]⟩] hO rfl (fun b1 w hO => ?_)))))))))
 refine V2 rfl rfl rfl (K2 (K3 (K6 ?_)))
 exact fin1 rfl rfl ⟨_, ⟨_, rfl, rfl⟩, hO.one⟩
theorem tdrawn_spec (hO : Own k w []) : Tri Tryz.prog 135 #[] k w fun v m => ∃ b, v = .slice (some ⟨b, 0, none⟩) drawL.length drawL.length ∧ m = [sls (some ⟨b, 0, none⟩) drawL.length 9 1 eS drawL] := by
 refine enter (args := []) Tryz.func135 rfl rfl (K0 (K1 (V2 rfl rfl rfl (K2 (K3 (K0 (K1 (s_lit (parts := [(0, .const (.string ⟨#[102, 111, 114, 101, 105, 103, 110, 79, 98, 106, 101, 99, 116]⟩)), (1, .const (.string ⟨#[100, 101, 115, 99]⟩)), (2, .const (.string ⟨#[116, 105, 116, 108, 101]⟩))]) (enc := eS) [⟨#[102, 111, 114, 101, 105, 103, 110, 79, 98, 106, 101, 99, 116]⟩, ⟨#[100, 101, 115, 99]⟩, ⟨#[116, 105, 116, 108, 101]⟩] [.string ⟨#[102, 111, 114, 101, 105, 103, 110, 79, 98, 106, 101, 99, 116]⟩, .string ⟨#[100, 101, 115, 99]⟩, .string ⟨#[116, 105, 116, 108, 101]⟩] hO rfl (fun b1 w hO => ?_)))))))))
 refine V2 rfl rfl rfl (K2 (K3 (K6 ?_)))
 exact fin1 rfl rfl ⟨_, ⟨_, rfl, rfl⟩, hO.one⟩
theorem tspecial_spec (hO : Own k w []) : Tri Tryz.prog 136 #[] k w fun v m => ∃ b, v = .slice (some ⟨b, 0, none⟩) specL.length specL.length ∧ m = [sls (some ⟨b, 0, none⟩) specL.length 9 1 eS specL] := by
 refine enter (args := []) Tryz.func136 rfl rfl (K0 (K1 (V2 rfl rfl rfl (K2 (K3 (K0 (K1 (s_litE (enc := eS) (specL.zipIdx.map fun x => (x.2, Operand.const (.string x.1))) specL (specL.map Value.string) hO (fun b w hO => ?_) (by kernel_rfl) (by kernel_rfl) (by kernel_rfl) (hn := by decide)))))))))
 refine V2 rfl rfl rfl (K2 (K3 (K6 ?_)))
 exact fin1 rfl rfl ⟨_, ⟨_, rfl, rfl⟩, hO.one⟩
end
end Go.Proofs.YtoohapbaelmkcaaGreat
end
