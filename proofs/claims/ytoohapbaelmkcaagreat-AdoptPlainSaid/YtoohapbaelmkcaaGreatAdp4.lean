/- The walk of the law AdoptPlain; no condition. -/
import Derived.Test.YtoohapbaelmkcaaGreatAdp3
import Derived.Test.YtoohapbaelmkcaaGreatAdz1
import Derived.Test.YtoohapbaelmkcaaGreatBeh
set_option linter.unusedVariables false
set_option linter.unusedSimpArgs false
set_option maxRecDepth 100000
namespace Go.Proofs.YtoohapbaelmkcaaGreat
open Go Go.Hb Go.RowKit
def fmL : List ByteArray := [⟨#[98]⟩, ⟨#[105]⟩, ⟨#[97]⟩, ⟨#[99, 111, 100, 101]⟩]
theorem fm_small {nm : ByteArray} (h : nm ∈ fmL) : nm.size ≤ 100 ∧ ¬ tmpl 0 nm := by
  simp only [fmL, List.mem_cons, List.not_mem_nil, or_false] at h
  rcases h with rfl | rfl | rfl | rfl <;> exact ⟨by decide, by decide⟩
def upTo (i : Nat) : List Int := (List.range i).map fun (j : Nat) => ((j : Nat) : Int) + 1
theorem upTo_len (i : Nat) : (upTo i).length = i := by simp [upTo]
theorem upTo_succ (i : Nat) : upTo (i + 1) = upTo i ++ [(i : Int) + 1] := by simp [upTo, List.range_succ]
theorem upTo_mem {i : Nat} {x : Int} (h : x ∈ upTo i) : 1 ≤ x ∧ x ≤ i := by
  obtain ⟨j, hj, rfl⟩ := List.mem_map.1 h
  have := List.mem_range.1 hj
  omega
theorem findI_new {l : List Int} {x : Int} (h : x ∉ l) : findI l x = -1 := idx_none fun j hj => decide_eq_false fun e => h (e ▸ at_mem hj)
theorem findI_app {l : List Int} {x : Int} (h : x ∉ l) : findI (l ++ [x]) x = l.length := by
  refine idx_at (i := l.length) (by simp) (decide_eq_true (at_app_new)) fun j hj => decide_eq_false fun e => h ?_
  rw [at_app_l hj] at e
  exact e ▸ at_mem hj
structure DivS (A : List Node_one) (K : Int → List Int) (i : Nat) : Prop where
  tree : Tree A K
  len : A.length = i + 1
  root : (nodeA A 0).Kind = 0
  el : ∀ j : Nat, 1 ≤ j → j ≤ i → (nodeA A (j : Int)).Kind = 1
theorem DivS.new : DivS [docD] (fun _ => []) 0 := ⟨Tree.new, rfl, rfl, fun j h1 h2 => by omega⟩
theorem DivS.par {A : List Node_one} {K : Int → List Int} {i : Nat} (h : DivS A K i) : parentB (nodeA A (i : Int)).Kind = true := by
  by_cases c : i = 0
  · subst c; rw [show ((0 : Nat) : Int) = 0 from rfl, h.root]; rfl
  · rw [h.el i (by omega) (Nat.le_refl _)]; rfl
theorem DivS.go {A : List Node_one} {K : Int → List Int} {i : Nat} (h : DivS A K i) (q : Option Addr) (d : Nat) (nm : ByteArray) :
    (linkL (A ++ [blankN (elementN q d 0 nm [])]) i A.length (-1)).1 = 0 ∧ DivS (linkL (A ++ [blankN (elementN q d 0 nm [])]) i A.length (-1)).2 (linkK (addK A K) i A.length (-1)) (i + 1) ∧ Behind A (linkL (A ++ [blankN (elementN q d 0 nm [])]) i A.length (-1)).2 K (linkK (addK A K) i A.length (-1)) (elementN q d 0 nm []) i := by
  have hi : InA A (i : Int) := ⟨by omega, by have := h.len; omega⟩
  obtain ⟨h0, g⟩ := behind_go h.tree (n := elementN q d 0 nm []) ⟨by show (1 : Int) ≠ 0; decide, by show (1 : Int) ≠ 5; decide⟩ (Nat.zero_le _) hi h.par
  have hl := h.len
  refine ⟨h0, ⟨g.tree, by rw [g.len, hl], ?_, ?_⟩, g⟩
  · exact (core_kind (g.same 0 ⟨by decide, by omega⟩)).trans h.root
  · intro j h1 h2
    by_cases c : j = i + 1
    · have e : (j : Int) = (A.length : Int) := by rw [hl, c]
      rw [e]; exact core_kind g.node
    · exact (core_kind (g.same j ⟨by omega, by omega⟩)).trans (h.el j h1 (by omega))
theorem DivS.all {A : List Node_one} {K : Int → List Int} {i : Nat} (h : DivS A K i) {j : Nat} (hj : j ≤ i) : AllEl A (upTo j) := fun x hx => by
  have hm := upTo_mem hx
  have hl := h.len
  obtain ⟨m, rfl⟩ : ∃ m : Nat, x = (m : Int) := ⟨x.toNat, by omega⟩
  rw [elB, hasB, decide_eq_true (show 0 ≤ (m : Int) ∧ (m : Int) < A.length by omega)]
  have := h.el m (by omega) (by omega)
  rw [nodeA] at this
  rw [this]; rfl
theorem core_name3 {o p : Node_one} (h : coreN o = coreN p) : o.Node.Name = p.Node.Name := by
  have := congrArg (fun z : Node_one => z.Node.Name) h; simpa [coreN] using this
theorem core_space3 {o p : Node_one} (h : coreN o = coreN p) : o.Node.Space = p.Node.Space := by
  have := congrArg (fun z : Node_one => z.Node.Space) h; simpa [coreN] using this
theorem scope_top {A : List Node_one} {l : List Int} {f : Int} : scopeL A (fun x => decide (x = f)) 0 (l ++ [f]) = true := by
  rw [scopeL, if_neg (by decide), scopeG_snoc, if_pos (decide_eq_true rfl)]
theorem topI_app {l : List Int} {f : Int} : topI (l ++ [f]) = f := by
  rw [topI, atI, if_neg (by simp; omega)]
  rw [show ((((l ++ [f]).length : Nat) : Int) - 1).toNat = l.length by simp]
  exact at_app_new
theorem furth_top {A : List Node_one} {l : List Int} {f : Int} (h : f ∉ l) : furthF A (l ++ [f]) f = -1 := by
  rw [furthF, findI_app h, List.drop_eq_nil_of_le (by simp)]; rfl
theorem findE_one {f : Int} {tk : Api_token} (h : f ≠ -1) : findE [⟨f, tk⟩] f = 0 := by
  rw [findE, if_neg h]
  exact idx_at (i := 0) (by simp) (decide_eq_true rfl) fun j hj => by omega
theorem forget_one {f : Int} {tk : Api_token} (h : f ≠ -1) : (forgetF [⟨f, tk⟩] 0 f).1 = [] := by
  have e := findE_one (tk := tk) h
  rw [forgetF, e, if_neg (by decide), if_neg (by omega), removeE, e, if_neg (by decide)]; rfl
section
variable {k : Ctx} {w : World}
set_option maxHeartbeats 4000000 in
theorem AdoptPlain_spec {dp nn : Int} (hd : 0 ≤ dp ∧ dp ≤ 255) (hb : 0 ≤ nn ∧ nn ≤ 255) (hO : Own k w []) :
    Tri Tryz.prog 6 #[.int .u8 dp, .int .u8 nn] k w fun v m => v = .bool true := by
  refine enter (args := [.int .u8 dp, .int .u8 nn]) Tryz.func6 rfl rfl ?_
  obtain ⟨m0, hm0⟩ : ∃ m0 : Nat, nn % 4 = (m0 : Int) := ⟨(nn % 4).toNat, by omega⟩
  have hm4 : m0 < 4 := by omega
  obtain ⟨n0, hn0⟩ : ∃ n0 : Nat, dp % 20 = (n0 : Int) := ⟨(dp % 20).toNat, by omega⟩
  have hn20 : n0 < 20 := by omega
  obtain ⟨nm, hnm⟩ : ∃ nm, nm = at_ fmL ((m0 : Int)).toNat := ⟨_, rfl⟩
  have hnl : nm ∈ fmL := by rw [hnm]; exact at_mem (by show m0 < 4; exact hm4)
  have hsm := fm_small hnl
  have hdv : ByteArray.size ⟨#[100, 105, 118]⟩ ≤ 100 ∧ ¬ tmpl 0 ⟨#[100, 105, 118]⟩ := ⟨by decide, by decide⟩
  refine K0 (K1 ?_)
  refine l_y rfl rfl (y_assign rfl) ?_
  refine K2 (K3 (K0 (K1 ?_)))
  refine s_lit (parts := [(0, .const (.string ⟨#[98]⟩)), (1, .const (.string ⟨#[105]⟩)), (2, .const (.string ⟨#[97]⟩)), (3, .const (.string ⟨#[99, 111, 100, 101]⟩))]) (enc := eS) [⟨#[98]⟩, ⟨#[105]⟩, ⟨#[97]⟩, ⟨#[99, 111, 100, 101]⟩] [.string ⟨#[98]⟩, .string ⟨#[105]⟩, .string ⟨#[97]⟩, .string ⟨#[99, 111, 100, 101]⟩] hO rfl (fun b21 w hO => ?_)
  refine l_y rfl rfl (y_assign rfl) ?_
  refine K2 (K3 (K0 ?_))
  have hlg : Gs (some ⟨b21, 0, none⟩) 4 := Gs.some _ _ _
  have hO : Own k w [sls (some ⟨b21, 0, none⟩) 4 9 1 eS fmL] := hO
  refine K1 ?_
  refine l_y rfl rfl (y_move rfl) ?_
  refine l_y rfl rfl (y_move rfl) ?_
  refine l_y rfl rfl (y_remN rfl rfl hb.1 (by decide)) ?_
  rw [hm0]
  refine l_y rfl rfl (y_idx rfl rfl (h1 := by show (m0 : Int) < ((4 : Nat) : Int); omega)) ?_
  refine l_y rfl rfl (y_e1 (x0 := 0) (xs := fmL) hO rfl (hi := by show m0 < 4; exact hm4)) ?_
  rw [← hnm]
  refine l_y rfl rfl (y_assign rfl) ?_
  refine K2 (K3 (K0 (K1 ?_)))
  refine CK [] hO rfl (fun k' hx hr hO' => build0_spec (hO := hO')) ?_
  rintro _ _ w ⟨a, s, l, x, y, z, rfl, rfl⟩ hO
  simp only [List.cons_append, List.nil_append] at hO
  refine l_y rfl rfl (y_move rfl) ?_
  refine l_y rfl rfl (y_extract rfl rfl) ?_
  refine l_y rfl rfl (y_extract rfl rfl) ?_
  refine s_alloc (vs := [.pointer none, .pointer none, .pointer none]) hO rfl rfl rfl fun b7 w hO => ?_
  refine s_alloc (vs := [.pointer none, .pointer none, .pointer none]) hO rfl rfl rfl fun b8 w hO => ?_
  refine Y3 hO rfl rfl (fun w hO => ?_)
  refine Y3 hO rfl rfl (fun w hO => ?_)
  refine K2 (K3 (K0 (K0 (K1 ?_))))
  refine l_y rfl rfl (y_fldb (o' := 0) rfl) ?_
  refine l_y rfl rfl (D5 hO rfl) ?_
  refine l_y rfl rfl (y_eqPnil rfl rfl rfl) ?_
  refine l_y rfl rfl (y_move rfl) ?_
  refine l_y rfl rfl (y_fldb (o' := 1) rfl) ?_
  refine l_y rfl rfl (D5 hO rfl) ?_
  refine l_y rfl rfl (y_eqPnil rfl rfl rfl) ?_
  refine l_y rfl rfl (y_pick_f rfl rfl) ?_
  refine l_y rfl rfl (y_move rfl) ?_
  refine l_y rfl rfl (y_fldb (o' := 2) rfl) ?_
  refine l_y rfl rfl (D5 hO rfl) ?_
  refine l_y rfl rfl (y_eqPnil rfl rfl rfl) ?_
  refine l_y rfl rfl (y_pick_f rfl rfl) ?_
  refine K2 (K3 (L9 (K5 (K3 (K0 (K1 ?_))))))
  refine l_y rfl rfl (y_assign rfl) ?_
  refine K2 (K3 (K0 (K1 ?_)))
  refine l_y rfl rfl (y_move rfl) ?_
  refine l_y rfl rfl (y_remN rfl rfl hd.1 (by decide)) ?_
  rw [hn0]
  refine l_y rfl rfl (D7) ?_
  refine l_y rfl rfl (y_assign rfl) ?_
  refine K2 (K3 (K0 (K0 (K1 ?_))))
  refine l_y rfl rfl (y_assign rfl) ?_
  refine K2 (K3 (K4 ?_))
  refine c_rounds (X := Nat × List Node_one × (Int → List Int)) (fun x => [(4, .bool false), (6, .string nm), (7, .pointer (some ⟨b7, 0, none⟩)), (9, .int .i64 (x.1 : Int)), (10, .int .i64 (n0 : Int)), (11, .int .i64 (x.1 : Int))]) (fun x w => Own k w [arenaL a x.2.1, stkL s a (upTo x.1), actL l a [], blk b7 26 [.pointer (some ⟨a, 0, none⟩), .pointer (some ⟨s, 0, none⟩), .pointer (some ⟨l, 0, none⟩)]] ∧ (x.1 ≤ n0) ∧ (DivS x.2.1 x.2.2 x.1)) (fun x => n0 - x.1) ((0, _, _)) ⟨rfl, rfl, rfl, rfl, rfl, rfl, trivial⟩ ⟨hO.only [.o a, .o s, .o l, .b b7], Nat.zero_le _, DivS.new⟩ ?_
  rintro x w m hm ⟨hO, hi, t⟩
  refine K0 (K0 (K1 ?_))
  refine l_y rfl rfl (y_move rfl) ?_
  refine l_y rfl rfl (y_move rfl) ?_
  refine Z0 (fun h9_2 => ?_) (fun h9_2 => ?_)
  · refine K2 (K3 (L8 (K5 (K3 (K0 (K4 (K0 ?_)))))))
    have htl := t.len
    have hn := t.tree.attrs
    refine K1 ?_
    refine l_y rfl rfl (y_fldb (o' := 0) rfl) ?_
    refine l_y rfl rfl (D5 hO rfl) ?_
    refine CK [.o a] hO rfl (fun k' hx hr hO' => Element_spec (xs := []) (by omega) (by omega) (Sli.nil rfl) (hO := hO')) ?_
    rintro _ _ w ⟨q1, d1, rfl, rfl⟩ hO
    simp only [List.cons_append, List.nil_append] at hO
    rw [el_new hdv.2 hdv.1 (by omega) q1 d1] at hO ⊢
    have t1 := t.tree.add (elementN q1 d1 0 ⟨#[100, 105, 118]⟩ []) (Nat.zero_le _)
    obtain ⟨hgo, t9, hbe⟩ := t.go q1 d1 ⟨#[100, 105, 118]⟩
    refine l_y rfl rfl (y_move rfl) ?_
    refine l_y rfl rfl (y_extract rfl rfl) ?_
    refine l_y rfl rfl (y_extract rfl rfl) ?_
    refine l_y rfl rfl (y_assign rfl) ?_
    refine l_y rfl rfl (y_assign rfl) ?_
    refine K2 (K3 (K0 (K1 ?_)))
    refine l_y rfl rfl (y_fldb (o' := 0) rfl) ?_
    refine l_y rfl rfl (D5 hO rfl) ?_
    refine l_y rfl rfl (y_move rfl) ?_
    refine l_y rfl rfl (y_move rfl) ?_
    refine CK [.o a] hO rfl (fun k' hx hr hO' => LinkC_spec (by simp) t1.rank t1.links (hO := hO')) ?_
    rintro _ _ w ⟨rfl, rfl⟩ hO
    simp only [List.cons_append, List.nil_append] at hO
    rw [hgo]
    refine K2 (K3 (K0 ?_))
    have hel9 := t9.all (Nat.le_refl _)
    have hnew : ((x.1 : Int) + 1) ∉ upTo x.1 := fun h => by have := upTo_mem h; omega
    have hfr : freshE (linkL (x.2.1 ++ [blankN (elementN q1 d1 0 ⟨#[100, 105, 118]⟩ [])]) x.1 x.2.1.length (-1)).2 (upTo x.1) (x.2.1.length : Int) = 0 := by
      have hidf : (x.2.1.length : Int) = (x.1 : Int) + 1 := by omega
      have hel1 : elB (linkL (x.2.1 ++ [blankN (elementN q1 d1 0 ⟨#[100, 105, 118]⟩ [])]) x.1 x.2.1.length (-1)).2 (x.2.1.length : Int) = true := hel9 _ (by rw [upTo_succ, hidf]; simp)
      rw [freshE, hel1, if_neg (by simp), findI_new (by rw [hidf]; exact hnew), if_neg (by decide)]
    refine K1 ?_
    refine l_y rfl rfl (y_fldb (o' := 1) rfl) ?_
    refine l_y rfl rfl (D5 hO rfl) ?_
    refine l_y rfl rfl (y_move rfl) ?_
    refine CK [.o a, .o s] hO rfl (fun k' hx hr hO' => sPush_spec (by rw [t9.len]; omega) t9.tree.attrs (by rw [upTo_len]; omega) (hO := hO')) ?_
    rintro _ _ w ⟨rfl, rfl⟩ hO
    simp only [List.cons_append, List.nil_append] at hO
    rw [hfr, if_pos rfl] at hO
    have e9 : upTo x.1 ++ [(x.2.1.length : Int)] = upTo (x.1 + 1) := by rw [upTo_succ, htl]; rfl
    rw [e9] at hO
    rw [hfr]
    refine K2 (K3 ?_)
    have hidn : (x.2.1.length : Int) = ((x.1 + 1 : Nat) : Int) := by omega
    refine K1 ?_
    rw [hidn]
    refine l_y rfl rfl (y_move rfl) ?_
    refine l_y rfl rfl (y_assign rfl) ?_
    refine K2 (K8 (K3 (K1 ?_)))
    refine l_y rfl rfl (y_move rfl) ?_
    refine l_y rfl rfl (D4) ?_
    refine l_y rfl rfl (y_assign rfl) ?_
    refine K2 ?_
    exact q_next ((x.1 + 1, _, _)) ⟨rfl, rfl, rfl, rfl, rfl, rfl, trivial⟩ ⟨hO.only [.o a, .o s, .o l, .b b7], (by dsimp only; omega), t9⟩ (by dsimp only; omega)
  · refine K2 (K3 (L9 (K7 (L1 (L1 (L2 (K3 (K0 ?_))))))))
    have htl := t.len
    have hx1 : x.1 = n0 := by omega
    refine K1 ?_
    refine l_y rfl rfl (y_fldb (o' := 0) rfl) ?_
    refine l_y rfl rfl (D5 hO rfl) ?_
    refine l_y rfl rfl (y_move rfl) ?_
    refine CK [.o a] hO rfl (fun k' hx hr hO' => Element_spec (xs := []) (by omega) (by omega) (Sli.nil rfl) (hO := hO')) ?_
    rintro _ _ w ⟨q2, d2, rfl, rfl⟩ hO
    simp only [List.cons_append, List.nil_append] at hO
    rw [el_new hsm.2 hsm.1 (by omega) q2 d2] at hO ⊢
    have t1 := t.tree.add (elementN q2 d2 0 nm []) (Nat.zero_le _)
    obtain ⟨hgo, t9, hbe⟩ := t.go q2 d2 nm
    refine l_y rfl rfl (y_move rfl) ?_
    refine l_y rfl rfl (y_extract rfl rfl) ?_
    refine l_y rfl rfl (y_extract rfl rfl) ?_
    refine l_y rfl rfl (y_assign rfl) ?_
    refine l_y rfl rfl (y_assign rfl) ?_
    refine K2 (K3 (K0 (K1 ?_)))
    refine l_y rfl rfl (y_fldb (o' := 0) rfl) ?_
    refine l_y rfl rfl (D5 hO rfl) ?_
    refine l_y rfl rfl (y_move rfl) ?_
    refine l_y rfl rfl (y_move rfl) ?_
    refine CK [.o a] hO rfl (fun k' hx hr hO' => LinkC_spec (by simp) t1.rank t1.links (hO := hO')) ?_
    rintro _ _ w ⟨rfl, rfl⟩ hO
    simp only [List.cons_append, List.nil_append] at hO
    rw [hgo]
    have hpar : (nodeA (linkL (x.2.1 ++ [blankN (elementN q2 d2 0 nm [])]) x.1 x.2.1.length (-1)).2 (x.2.1.length : Int)).Parent = (x.1 : Int) := by
      have h1 := (hbe.tree.lnk (x.1 : Int) ⟨by omega, by rw [hbe.len]; omega⟩).mem (y := (x.2.1.length : Int)) (by rw [hbe.kid]; simp)
      exact h1.2
    refine K2 (K3 (K0 ?_))
    have hn2 : 0 < (linkL (x.2.1 ++ [blankN (elementN q2 d2 0 nm [])]) x.1 x.2.1.length (-1)).2.length := by rw [t9.len]; omega
    have hel9 := t9.all (Nat.le_refl _)
    have ha9 := t9.tree.attrs
    have hnew : ((x.1 : Int) + 1) ∉ upTo x.1 := fun h => by have := upTo_mem h; omega
    have hidf : (x.2.1.length : Int) = (x.1 : Int) + 1 := by omega
    have hel1 : elB (linkL (x.2.1 ++ [blankN (elementN q2 d2 0 nm [])]) x.1 x.2.1.length (-1)).2 (x.2.1.length : Int) = true := hel9 _ (by rw [upTo_succ, hidf]; simp)
    have hfr : freshE (linkL (x.2.1 ++ [blankN (elementN q2 d2 0 nm [])]) x.1 x.2.1.length (-1)).2 (upTo x.1) (x.2.1.length : Int) = 0 := by
      rw [freshE, hel1, if_neg (by simp), hidf, findI_new hnew, if_neg (by decide)]
    have hsp9 : (at_ (linkL (x.2.1 ++ [blankN (elementN q2 d2 0 nm [])]) x.1 x.2.1.length (-1)).2 ((x.2.1.length : Int)).toNat).Node.Space = 0 := core_space3 hbe.node
    have hnm9 : (at_ (linkL (x.2.1 ++ [blankN (elementN q2 d2 0 nm [])]) x.1 x.2.1.length (-1)).2 ((x.2.1.length : Int)).toNat).Node.Name = nm := core_name3 hbe.node
    have hfE : freshF (linkL (x.2.1 ++ [blankN (elementN q2 d2 0 nm [])]) x.1 x.2.1.length (-1)).2 [] (x.2.1.length : Int) = 0 := by
      have e : findE [] (x.2.1.length : Int) = -1 := by rw [findE, if_neg (by omega)]; rfl
      rw [freshF, hel1, if_neg (by simp), e, if_neg (by decide)]
    have hlen9 : (linkL (x.2.1 ++ [blankN (elementN q2 d2 0 nm [])]) x.1 x.2.1.length (-1)).2.length = x.1 + 2 := by rw [t9.len]
    refine K1 ?_
    refine l_y rfl rfl (y_fldb (o' := 1) rfl) ?_
    refine l_y rfl rfl (D5 hO rfl) ?_
    refine l_y rfl rfl (y_move rfl) ?_
    refine CK [.o a, .o s] hO rfl (fun k' hx hr hO' => sPush_spec hn2 ha9 (by rw [upTo_len]; omega) (hO := hO')) ?_
    rintro _ _ w ⟨rfl, rfl⟩ hO
    simp only [List.cons_append, List.nil_append] at hO
    rw [hfr, if_pos rfl] at hO
    rw [hfr]
    refine K2 (K3 (K0 (K1 ?_)))
    refine l_y rfl rfl (y_fldb (o' := 2) rfl) ?_
    refine l_y rfl rfl (D5 hO rfl) ?_
    refine l_y rfl rfl (y_move rfl) ?_
    refine l_y rfl rfl (y_move rfl) ?_
    refine s_build (parts := [(0, .const (.int .i64 1)), (1, .tmp 87)]) (cs := [.int .i64 1, .string nm, .string ⟨#[]⟩, .string ⟨#[]⟩, .int .i64 0, .bool false, .int .i32 0, .bool false, .slice none 0 0]) rfl rfl (fun a ha => partsOf_sound ha _ _ rfl) (by kernel_rfl) ?_
    refine CK [.o a, .o l] hO rfl (fun k' hx hr hO' => aPush_spec (id := (x.2.1.length : Int)) (tk := ⟨1, nm, ⟨#[]⟩, ⟨#[]⟩, 0, false, 0, false, none, [], 0⟩) (es := []) hn2 ha9 (by simp) (by simp) (by simp) ⟨Sli.nil rfl, by simp⟩ (hO := hO')) ?_
    rintro _ _ w ⟨rfl, rfl⟩ hO
    simp only [List.cons_append, List.nil_append] at hO
    rw [hfE, if_pos rfl, show pushE (linkL (x.2.1 ++ [blankN (elementN q2 d2 0 nm [])]) x.1 x.2.1.length (-1)).2 [] ⟨(x.2.1.length : Int), ⟨1, nm, ⟨#[]⟩, ⟨#[]⟩, 0, false, 0, false, none, [], 0⟩⟩ = [⟨(x.2.1.length : Int), ⟨1, nm, ⟨#[]⟩, ⟨#[]⟩, 0, false, 0, false, none, [], 0⟩⟩] from rfl] at hO
    rw [hfE]
    refine K2 (K3 (K0 ?_))
    have hne1 : (x.2.1.length : Int) ≠ -1 := by omega
    have hnl9 : (x.2.1.length : Int) ∉ upTo x.1 := by rw [hidf]; exact hnew
    refine K1 ?_
    refine l_y rfl rfl (y_fldb (o' := 0) rfl) ?_
    refine l_y rfl rfl (D5 hO rfl) ?_
    refine l_y rfl rfl (y_fldb (o' := 1) rfl) ?_
    refine l_y rfl rfl (D5 hO rfl) ?_
    refine l_y rfl rfl (y_fldb (o' := 2) rfl) ?_
    refine l_y rfl rfl (D5 hO rfl) ?_
    refine l_y rfl rfl (y_move rfl) ?_
    refine CK [.o a, .o s, .o l] hO rfl (fun k' hx hr hO' => runP_spec (f := (x.2.1.length : Int)) (at' := (x.1 : Int)) hn2 (by omega) ha9 (by simp [upTo_len]; omega) (by simp) (by have h := hel9; rw [upTo_succ, ← hidf] at h; exact h) (fun e he _ => by rw [List.mem_singleton.1 he]; exact elB_has hel1) (by show lastE _ _ _ (if (x.2.1.length : Int) = -1 then [] else [0]) = _; rw [if_neg hne1, lastE, if_pos ⟨hsp9, hnm9⟩]; rfl) hne1 (by rw [findI_app hnl9, upTo_len]) (by omega) scope_top topI_app (furth_top hnl9) hsp9 hnm9 (elB_has hel1) (by rw [findE_one hne1]; decide) (hO := hO')) ?_
    rintro _ _ w ⟨rfl, rfl⟩ hO
    simp only [List.cons_append, List.nil_append] at hO
    rw [forget_one hne1, Int.toNat_natCast, show (upTo x.1 ++ [(x.2.1.length : Int)]).take x.1 = upTo x.1 by rw [List.take_append_of_le_length (by rw [upTo_len]; exact Nat.le_refl _), List.take_of_length_le (by rw [upTo_len]; exact Nat.le_refl _)]] at hO
    refine l_y rfl rfl (y_move rfl) ?_
    refine l_y rfl rfl (y_extract rfl rfl) ?_
    refine l_y rfl rfl (y_extract rfl rfl) ?_
    refine l_y rfl rfl (y_extract rfl rfl) ?_
    refine l_y rfl rfl (y_assign rfl) ?_
    refine l_y rfl rfl (y_assign rfl) ?_
    refine l_y rfl rfl (y_assign rfl) ?_
    refine K2 (K3 (K0 (K1 ?_)))
    refine l_y rfl rfl (y_fldb (o' := 0) rfl) ?_
    refine l_y rfl rfl (D5 hO rfl) ?_
    refine l_y rfl rfl (y_move rfl) ?_
    refine CK [.o a] hO rfl (fun k' hx hr hO' => NodeD_spec (id := (x.2.1.length : Int)) hn2 ha9 (hO := hO')) ?_
    rintro _ _ w ⟨n, hnv, rfl, rfl⟩ hO
    simp only [List.cons_append, List.nil_append] at hO
    have hnp : n.Parent = (x.1 : Int) := by
      rcases hnv with ⟨h, _⟩ | ⟨_, q, d, rfl⟩
      · rw [elB_has hel1] at h; cases h
      · exact hpar
    refine l_y rfl rfl (y_move rfl) ?_
    refine l_y rfl rfl (y_extract rfl rfl) ?_
    refine l_y rfl rfl (y_extract rfl rfl) ?_
    refine s_alloc (vs := [.int .i64 0, .int .i64 0, .string ⟨#[]⟩, .slice none 0 0, .string ⟨#[]⟩, .string ⟨#[]⟩, .int .i64 0, .int .i64 0, .int .i64 0, .int .i64 0, .int .i64 0, .int .i64 0]) hO rfl rfl rfl fun b19 w hO => ?_
    refine Y3 hO rfl rfl (fun w hO => ?_)
    refine l_y rfl rfl (y_assign rfl) ?_
    refine K2 (K3 (K0 (K1 ?_)))
    refine l_y rfl rfl (y_move rfl) ?_
    refine l_y rfl rfl (y_not rfl rfl) ?_
    refine l_y rfl rfl (y_move rfl) ?_
    refine l_y rfl rfl (y_move rfl) ?_
    refine N2 ?_
    refine l_y rfl rfl (y_pick_t rfl rfl) ?_
    refine l_y rfl rfl (y_move rfl) ?_
    refine l_y rfl rfl (y_move rfl) ?_
    refine N2 ?_
    refine l_y rfl rfl (y_pick_t rfl rfl) ?_
    refine l_y rfl rfl (y_move rfl) ?_
    refine l_y rfl rfl (y_fldb (o' := 1) rfl) ?_
    refine l_y rfl rfl (D5 hO rfl) ?_
    refine CK [.o s] hO rfl (fun k' hx hr hO' => sLenC_spec (hO := hO')) ?_
    rintro _ _ w ⟨rfl, rfl⟩ hO
    simp only [List.cons_append, List.nil_append] at hO
    rw [upTo_len]
    refine l_y rfl rfl (y_move rfl) ?_
    refine N2 (hp := (by omega)) ?_
    refine l_y rfl rfl (y_pick_t rfl rfl) ?_
    refine l_y rfl rfl (y_move rfl) ?_
    refine l_y rfl rfl (y_fldb (o' := 2) rfl) ?_
    refine l_y rfl rfl (D5 hO rfl) ?_
    refine CK [.o l] hO rfl (fun k' hx hr hO' => aLen_spec (hO := hO')) ?_
    rintro _ _ w ⟨rfl, rfl⟩ hO
    simp only [List.cons_append, List.nil_append] at hO
    rw [show ((([] : List Api_entry).length : Nat) : Int) = 0 from rfl]
    refine N2 (hp := rfl) ?_
    refine l_y rfl rfl (y_pick_t rfl rfl) ?_
    refine l_y rfl rfl (y_move rfl) ?_
    refine l_y rfl rfl (y_fldb (o' := 0) rfl) ?_
    refine l_y rfl rfl (D5 hO rfl) ?_
    refine CK [.o a] hO rfl (fun k' hx hr hO' => LenC_spec hn2 (hO := hO')) ?_
    rintro _ _ w ⟨rfl, rfl⟩ hO
    simp only [List.cons_append, List.nil_append] at hO
    rw [hlen9]
    refine l_y rfl rfl (y_move rfl) ?_
    refine l_y rfl rfl (D4) ?_
    refine N2 (hp := (by omega)) ?_
    refine l_y rfl rfl (y_pick_t rfl rfl) ?_
    refine l_y rfl rfl (y_move rfl) ?_
    refine l_y rfl rfl (y_fldb (o' := 6) rfl) ?_
    refine l_y rfl rfl (D5 hO rfl) ?_
    refine l_y rfl rfl (y_move rfl) ?_
    refine N2 (hp := hnp) ?_
    refine l_y rfl rfl (y_pick_t rfl rfl) ?_
    refine l_y rfl rfl (y_assign rfl) ?_
    refine K2 (K3 (K6 ?_))
    exact fin1 rfl rfl ⟨_, rfl, hO⟩
end
end Go.Proofs.YtoohapbaelmkcaaGreat
