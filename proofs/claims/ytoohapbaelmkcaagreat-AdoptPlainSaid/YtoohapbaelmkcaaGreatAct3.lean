/- The walk of the list's Push and Last. -/
import Derived.Test.YtoohapbaelmkcaaGreatAct2
import Derived.OrdersIn
set_option linter.unusedVariables false
set_option linter.unusedSimpArgs false
set_option maxRecDepth 100000
namespace Go.Proofs.YtoohapbaelmkcaaGreat
open Go Go.Hb Go.RowKit
section
variable {P : Program} {lo : List Oper} {Q : Exit → Act → World → Prop} {n : Nat} {ds : List Deferred} {E : Env} {w : World}
/-- a drawn region where nothing may panic -/
theorem da_regM [hm : Mixed P] {id : Nat} (h : DA P lo (fun e a w => (∀ c, e ≠ .panic c) ∧ Q e a w) n ds lo.length (List.replicate lo.length false).toArray E w.drew) : CW P Q n ds (.region id lo.toArray true) E w := by
  intro a ha
  exact wp_mono (da_region (fun c a d v w h => absurd rfl (h.1 c)) h a ha) (fun e a w h => h.2)
section
variable {ops : Array Oper} {md : Region.Mode} {X : Nat}
theorem op_in (hQ : ¬ LetsOut Q) (hd : ∀ o ∈ ops.toList, (match o.op with | .defer _ => false | _ => true) = true) {K K' : Act → World → Prop} (hK : ∀ a w, K a w → K' a w) {i : Nat} {a : Act} {w : World} (h : wpOp P ops Q i K a w) : wpOpIn (Fence.wide.inRound X) 0 P ops Q i K' a w := by
  unfold wpOp at h
  unfold wpOpIn
  cases ho : ops[i]? with
  | none => rw [ho] at h; exact hK _ _ h
  | some o =>
    rw [ho] at h
    have hdo := hd o (List.mem_of_getElem? (by rw [Array.getElem?_toList]; exact ho))
    simp only at h ⊢
    split
    · next hw =>
      rw [if_pos hw] at h
      rcases h with h | ⟨_, hout⟩
      · refine ⟨fun _ _ => trivial, ?_⟩
        rw [Oper.semAt_eq _ _ _ (fun c hc => by rw [hc] at hdo; exact absurd hdo (by simp))]
        unfold Oper.wp at h
        generalize (execOp a.eval o).run P w = r at h ⊢
        cases r with
        | ok x w1 =>
          cases x with
          | value v => exact hK _ _ h
          | skip => exact hK _ _ h
          | defer d => exact hK _ _ h
          | enter f args =>
            refine ⟨fun _ => by simp_all [Fence.inRound, Fence.wide], callsIn_round (Calls.mono h fun e w2 he => ?_)⟩
            cases e with
            | returned v => exact hK _ _ he
            | panicked c => exact he
            | outgrown => exact he
          | row r args =>
            refine ⟨fun _ => by simp_all [Fence.inRound, Fence.wide], rowsIn_any (.inr ⟨X, rfl⟩) ?_⟩
            intro c cs
            obtain ⟨v, w', r, s⟩ := h c cs
            exact ⟨v, w', hK _ _ r, s⟩
          | _ => exact h.elim
        | halt x w1 => cases x <;> first | exact h | exact h.elim
      · exact absurd hout hQ
    · next hw =>
      rw [if_neg hw] at h
      exact ⟨fun _ _ => trivial, hK _ _ h⟩
theorem any_in (hQ : ¬ LetsOut Q) (hd : ∀ o ∈ ops.toList, (match o.op with | .defer _ => false | _ => true) = true) : ∀ (f : Nat) (listed : Array Bool) (a : Act) (w : World), wpAny P md ops Q f listed a w → wpAnyIn (Fence.wide.inRound X) 0 P md ops Q f listed a w
  | 0, _, _, _, h => h
  | f + 1, _, _, _, h => ⟨h.1, fun i hi => op_in hQ hd (fun a w h => any_in hQ hd f _ a w h) (h.2 i hi)⟩
theorem noDefer_mem {l : List Oper} (h : noDefer l = true) : ∀ o ∈ l, (match o.op with | .defer _ => false | _ => true) = true := by
  induction l with
  | nil => intro o ho; cases ho
  | cons x l ih =>
    simp only [noDefer, Bool.and_eq_true] at h
    intro o ho
    rcases List.mem_cons.1 ho with rfl | ho
    · exact h.1
    · exact ih h.2 o ho
/-- a drawn region in a round -/
theorem CRa [hm : Mixed P] [hQ : NoOut Q] {id : Nat} (h : DA P lo (fun e a w => (∀ c, e ≠ .panic c) ∧ Q e a w) n [] lo.length (List.replicate lo.length false).toArray E w.drew) (hd : noDefer lo = true := by rfl) : CR P Q n X (.region id lo.toArray true) E w := by
  intro a ha
  have h1 := h (fun c a d v w h => absurd rfl (h.1 c)) a ha
  refine wpIn_mono (wpIn_region_any (Q := fun e a w => (∀ c, e ≠ .panic c) ∧ Q e a w) hm.eq ?_) (fun e a w h => h.2)
  rw [show Array.replicate lo.toArray.size false = (List.replicate lo.length false).toArray from by simp]
  exact any_in (fun ⟨a, w, h⟩ => hQ.no ⟨a, w, h.2⟩) (noDefer_mem hd) _ _ _ _ h1
end
theorem q_nopan (h : QW Q n ds .normal E w) : QW (fun e a w => (∀ c, e ≠ .panic c) ∧ Q e a w) n ds .normal E w := fun a ha => ⟨(fun c e => Exit.noConfusion e), h a ha⟩
end
section
variable {k : Ctx} {w : World} {s a c : Nat} {p : Option Addr} {L : List Api_entry} {A : List Node_one}
def pk (A : List Node_one) (L : List Api_entry) (e : Api_entry) (xs : List Nat) : Nat × Nat := xs.foldl (fun z i => if kinB A e (at_ L i) = true then (z.1 + 1, i) else z) (0, 0)
theorem pk_snoc {e : Api_entry} {xs : List Nat} {i : Nat} : pk A L e (xs ++ [i]) = if kinB A e (at_ L i) = true then ((pk A L e xs).1 + 1, i) else pk A L e xs := by
  rw [pk, List.foldl_append]; rfl
theorem bk_lt {n : Nat} : ∀ {i : Nat}, i ∈ bk L n → i < n := by
  induction n with
  | zero => intro i h; cases h
  | succ n ih =>
    intro i h
    rw [bk] at h
    split at h
    · cases h
    · rcases List.mem_cons.1 h with rfl | h
      · omega
      · have := ih h; omega
theorem pk_gen {e : Api_entry} (xs : List Nat) : ∀ z : Nat × Nat, (xs.foldl (fun z i => if kinB A e (at_ L i) = true then (z.1 + 1, i) else z) z).1 ≤ z.1 + xs.length ∧ ((xs.foldl (fun z i => if kinB A e (at_ L i) = true then (z.1 + 1, i) else z) z) = z ∨ (xs.foldl (fun z i => if kinB A e (at_ L i) = true then (z.1 + 1, i) else z) z).2 ∈ xs) := by
  induction xs with
  | nil => intro z; exact ⟨Nat.le_refl _, .inl rfl⟩
  | cons i xs ih =>
    intro z
    rw [List.foldl_cons]
    by_cases h : kinB A e (at_ L i) = true
    · rw [if_pos h]
      obtain ⟨h1, h2⟩ := ih (z.1 + 1, i)
      refine ⟨by simp only [List.length_cons] at *; omega, .inr ?_⟩
      rcases h2 with h2 | h2
      · rw [h2]; simp
      · exact List.mem_cons_of_mem _ h2
    · rw [if_neg h]
      obtain ⟨h1, h2⟩ := ih z
      exact ⟨by simp only [List.length_cons]; omega, h2.imp id (List.mem_cons_of_mem _)⟩
theorem pk_le {e : Api_entry} {xs : List Nat} : (pk A L e xs).1 ≤ xs.length := by have := (pk_gen (A := A) (L := L) (e := e) xs (0, 0)).1; simpa [pk] using this
theorem pk_mem {e : Api_entry} {xs : List Nat} (h : 0 < (pk A L e xs).1) : (pk A L e xs).2 ∈ xs := by
  rcases (pk_gen (A := A) (L := L) (e := e) xs (0, 0)).2 with h2 | h2
  · rw [pk, h2] at h; exact absurd h (by decide)
  · exact h2
theorem bk_len {n : Nat} : (bk L n).length ≤ n := by
  induction n with
  | zero => exact Nat.le_refl _
  | succ n ih => rw [bk]; split <;> simp <;> omega
def pushE (A : List Node_one) (L : List Api_entry) (e : Api_entry) : List Api_entry := (if 3 ≤ (pk A L e (bk L L.length)).1 then cutE L (pk A L e (bk L L.length)).2 else L) ++ [e]
abbrev pushM (s a b3 b5 b8 b9 b10 : Nat) (A : List Node_one) (es : List Api_entry) (tk : Api_token) (e : Api_entry) (pre : List Nat) : List HP :=
  [arenaL a A, blk b3 24 [.pointer (some ⟨s, 0, none⟩)], blk b5 53 (Api_token.cells tk), blk b8 55 (Api_entry.cells e), blk b9 3 [.int .i64 ((pk A es e pre).1 : Int)], blk b10 3 [.int .i64 ((pk A es e pre).2 : Int)]]
set_option maxHeartbeats 2000000 in
theorem aPush_spec {id : Int} {tk : Api_token} {es : List Api_entry} (hn : 0 < A.length) (ha : AttrsOk A) (hl : es.length ≤ 2000000) (hb : ∀ e ∈ es, e.Node ≠ -1 → hasB A e.Node = true) (hE : ∀ e ∈ es, EOk k e) (ht : EOk k ⟨id, tk⟩) (hO : Own k w [arenaL a A, actL s a es]) :
    Tri Tryz.prog 21 #[.pointer (some ⟨s, 0, none⟩), .int .i64 id, .agg (Api_token.cells tk).toArray] k w fun v m => v = .int .i64 (freshF A es id) ∧ m = [arenaL a A, actL s a (if freshF A es id = 0 then pushE A es ⟨id, tk⟩ else es)] := by
  refine enterM (args := [.pointer (some ⟨s, 0, none⟩), .int .i64 id, .agg (Api_token.cells tk).toArray]) Tryz.func21 rfl rfl ?_
  obtain ⟨p, c, hg, hlc, hO⟩ := actL_open (hO.ks [.o s])
  have hfr : freshF A es id = 0 → elB A id = true := by
    intro h; unfold freshF at h
    cases h2 : elB A id with
    | true => rfl
    | false => rw [if_pos h2] at h; exact absurd h (by decide)
  refine K0 (K1 ?_)
  refine s_box (vs := [.pointer (some ⟨s, 0, none⟩)]) hO rfl rfl rfl (by rfl) fun b3 w hO => ?_
  refine s_box (vs := [.int .i64 tk.Kind, .string tk.Name, .string tk.Data, .string tk.System, .int .i64 tk.Has, .bool tk.Quirks, .int .i32 tk.Char, .bool tk.Self, .slice tk.AttrsP tk.Attrs.length tk.AttrsC]) hO rfl rfl rfl (by rfl) fun b5 w hO => ?_
  refine l_y rfl rfl (y_assign rfl) ?_
  refine K2 (K3 (K0 (K0 (K1 ?_))))
  refine l_y rfl rfl (D5 hO rfl) ?_
  refine l_y rfl rfl (y_move rfl) ?_
  refine CK [.o a, .b s, .p p] hO rfl (fun k' hx hr hO' => afresh_spec hn ha hg hl (hO := hO')) ?_
  rintro _ _ w ⟨rfl, rfl⟩ hO
  simp only [List.cons_append, List.nil_append] at hO
  refine l_y rfl rfl (y_assign rfl) ?_
  refine K2 (K3 (K0 (K1 ?_)))
  refine l_y rfl rfl (y_move rfl) ?_
  refine Z1 (fun h2_1 => ?_) (fun h2_1 => ?_)
  · refine K2 (K3 (L8 (K0 (K1 ?_))))
    refine l_y rfl rfl (y_move rfl) ?_
    refine l_y rfl rfl (y_assign rfl) ?_
    refine K2 (K3 (K6 (K9 ?_)))
    refine finM0 (R := fun _ _ => True) ?_
    rw [if_neg h2_1]
    exact fin1 rfl rfl ⟨_, ⟨rfl, rfl⟩, ((actL_shut (hO.ks [.b s, .p p])).ks [.o a, .o s]).two⟩
  · refine K2 (K3 (L9 (K5 (K3 (K0 ?_)))))
    have hid := elB_has (hfr h2_1)
    refine K1 ?_
    refine l_y rfl rfl (y_move rfl) ?_
    refine l_y rfl rfl (D8 (cs := [.int .i64 tk.Kind, .string tk.Name, .string tk.Data, .string tk.System, .int .i64 tk.Has, .bool tk.Quirks, .int .i32 tk.Char, .bool tk.Self, .slice tk.AttrsP tk.Attrs.length tk.AttrsC]) hO rfl) ?_
    refine s_build (parts := [(0, .tmp 19), (1, .tmp 20)]) (cs := [.int .i64 id, .int .i64 tk.Kind, .string tk.Name, .string tk.Data, .string tk.System, .int .i64 tk.Has, .bool tk.Quirks, .int .i32 tk.Char, .bool tk.Self, .slice tk.AttrsP tk.Attrs.length tk.AttrsC]) rfl rfl (fun a ha => partsOf_sound ha _ _ rfl) (by kernel_rfl) ?_
    refine s_alloc (vs := [.int .i64 0, .int .i64 0, .string ⟨#[]⟩, .string ⟨#[]⟩, .string ⟨#[]⟩, .int .i64 0, .bool false, .int .i32 0, .bool false, .slice none 0 0]) hO rfl rfl rfl fun b8 w hO => ?_
    refine Y3 hO rfl rfl (fun w hO => ?_)
    refine K2 (K3 (K0 (K1 ?_)))
    refine s_alloc (vs := [.int .i64 0]) hO rfl rfl rfl fun b9 w hO => ?_
    refine s_alloc (vs := [.int .i64 0]) hO rfl rfl rfl fun b10 w hO => ?_
    refine Y1 hO rfl rfl (fun w hO => ?_)
    simp only [List.set_cons_zero, List.set_cons_succ] at hO
    refine Y1 hO rfl rfl (fun w hO => ?_)
    simp only [List.set_cons_zero, List.set_cons_succ] at hO
    refine K2 (K3 (K0 (K0 (K1 ?_))))
    refine l_y rfl rfl (D5 hO rfl) ?_
    refine CK [] hO rfl (fun k' hx hr hO' => back_spec (hO := hO')) ?_
    rintro _ _ w ⟨b, rfl, rfl⟩ hO
    simp only [List.cons_append, List.nil_append] at hO
    refine K2 (K3 (K4 ?_))
    refine c_range (gf := 94) (lb := [.pointer (some ⟨b, 0, none⟩)]) (done := fun M => M = bF s a p c es b ++ pushM s a b3 b5 b8 b9 b10 A es tk ⟨id, tk⟩ (bk es es.length)) (stop := fun _ _ => False) hO rfl (fun fn tmps L D w hF hO => ?_) (fun D w M hM hO => ?_) (fun D w c M hM hO => ?_)
    · have hO2 : Own k w (obj L (loopO .ready none fn tmps _ _ _ D) :: (bF s a p c es b ++ (pushM s a b3 b5 b8 b9 b10 A es tk ⟨id, tk⟩ [] ++ [obj D (.deferred (some []))]))) := hO.ks [.o L, .b s, .p p, .b b, .o a, .b b3, .b b5, .b b8, .b b9, .b b10, .o D]
      refine Ret.mono (biter_spec (B := fun pre M => M = pushM s a b3 b5 b8 b9 b10 A es tk ⟨id, tk⟩ pre ++ [obj D (.deferred (some []))]) (stop := fun _ _ => False) hg hl rfl rfl hO2 ?_) (fun v w2 h => ?_)
      rotate_left
      · rcases h with ⟨M, ⟨M', rfl, rfl⟩, hO⟩ | ⟨_, _, h, _⟩
        · exact .inl ⟨_, rfl, hO.ks [.o L, .o D]⟩
        · exact h.elim
      rintro pre x suf _ w hxs hxl hxm rfl hO
      have hpl : pre.length < es.length := by have := bk_len (L := es) (n := es.length); rw [hxs] at this; simp at this; omega
      have hpk := pk_le (A := A) (L := es) (e := ⟨id, tk⟩) (xs := pre)
      have hEx := hE _ (at_mem hxl)
      have hbx := hb _ (at_mem hxl) hxm
      simp only [List.cons_append, List.nil_append] at hO
      obtain ⟨y, hy⟩ : ∃ y, at_ es x = y := ⟨_, rfl⟩
      rw [hy] at hEx hbx ⊢
      refine round_ok (n := Tryz.f21.ntmps) (E := [(3, .pointer (some ⟨b3, 0, none⟩)), (8, .pointer (some ⟨b8, 0, none⟩)), (9, .pointer (some ⟨b9, 0, none⟩)), (10, .pointer (some ⟨b10, 0, none⟩)), (24, .int .i64 (x : Int)), (25, .agg [.int .i64 y.Node, .int .i64 y.Token.Kind, .string y.Token.Name, .string y.Token.Data, .string y.Token.System, .int .i64 y.Token.Has, .bool y.Token.Quirks, .int .i32 y.Token.Char, .bool y.Token.Self, .slice y.Token.AttrsP y.Token.Attrs.length y.Token.AttrsC].toArray)]) ?_ hO ?_
      · have e1 : (#[24, 25].zip #[Value.int .i64 x, .agg (Api_entry.cells y).toArray]).foldl (fun tmps (t, a) => tmps.setIfInBounds t a) tmps = (tmps.setIfInBounds 24 (.int .i64 x)).setIfInBounds 25 (.agg (Api_entry.cells y).toArray) := by simp
        rw [e1]
        exact ((hF.put (d := some 24) rfl (.int .i64 x)).put (d := some 25) rfl (.agg (Api_entry.cells y).toArray)).weaken (E' := [(3, .pointer (some ⟨b3, 0, none⟩)), (8, .pointer (some ⟨b8, 0, none⟩)), (9, .pointer (some ⟨b9, 0, none⟩)), (10, .pointer (some ⟨b10, 0, none⟩)), (24, .int .i64 x), (25, .agg (Api_entry.cells y).toArray)]) ⟨rfl, rfl, rfl, rfl, rfl, rfl, trivial⟩
      · refine CR0 (CR1 ?_)
        refine l_y rfl rfl (y_assign rfl) ?_
        refine K2 (CR3 (CR1 ?_))
        refine s_alloc (vs := [.int .i64 0, .int .i64 0, .string ⟨#[]⟩, .string ⟨#[]⟩, .string ⟨#[]⟩, .int .i64 0, .bool false, .int .i32 0, .bool false, .slice none 0 0]) hO rfl rfl rfl fun b12 w hO => ?_
        refine Y3 hO rfl rfl (fun w hO => ?_)
        refine K2 ?_
        refine q_assign (hO.ks [.o L]) (fun w hO => ?_)
        refine CR4 (CR0 (CR1 ?_))
        refine l_y rfl rfl (D5 hO rfl) ?_
        refine l_y rfl rfl (D8 (cs := [.int .i64 id, .int .i64 tk.Kind, .string tk.Name, .string tk.Data, .string tk.System, .int .i64 tk.Has, .bool tk.Quirks, .int .i32 tk.Char, .bool tk.Self, .slice tk.AttrsP tk.Attrs.length tk.AttrsC]) hO rfl) ?_
        refine l_y rfl rfl (D8 (cs := [.int .i64 y.Node, .int .i64 y.Token.Kind, .string y.Token.Name, .string y.Token.Data, .string y.Token.System, .int .i64 y.Token.Has, .bool y.Token.Quirks, .int .i32 y.Token.Char, .bool y.Token.Self, .slice y.Token.AttrsP y.Token.Attrs.length y.Token.AttrsC]) hO rfl) ?_
        refine CK [.o a, .b s] hO rfl (fun k' hx hr hO' => kin_spec (x := ⟨id, tk⟩) (y := y) hn ha hid hbx ⟨ht.1.ext hO hx, ht.2⟩ ⟨hEx.1.ext hO hx, hEx.2⟩ (hO := hO')) ?_
        rintro _ _ w ⟨rfl, rfl⟩ hO
        simp only [List.cons_append, List.nil_append] at hO
        refine K2 (CR3 ?_)
        refine CRs rfl (fun hc29 => ?_) (fun hc29 => ?_)
        · have hpkT : pk A es ⟨id, tk⟩ (pre ++ [x]) = ((pk A es ⟨id, tk⟩ pre).1 + 1, x) := by rw [pk_snoc, hy, if_pos hc29]
          refine CR1 ?_
          refine l_y rfl rfl (D5 hO rfl) ?_
          refine l_y rfl rfl (v := .int .i64 ((pk A es ⟨id, tk⟩ (pre ++ [x])).1 : Int)) (by rw [hpkT]; exact D4) ?_
          refine l_y rfl rfl (v := .int .i64 ((pk A es ⟨id, tk⟩ (pre ++ [x])).2 : Int)) (by rw [hpkT]; exact y_move rfl) ?_
          refine Y1 hO rfl rfl (fun w hO => ?_)
          simp only [List.set_cons_zero, List.set_cons_succ] at hO
          refine Y1 hO rfl rfl (fun w hO => ?_)
          simp only [List.set_cons_zero, List.set_cons_succ] at hO
          refine K2 (K8 ?_)
          first
            | exact q_bodyend ⟨_, rfl, rfl⟩ (hO.only [.o L, .b s, .p p, .b b, .o a, .b b3, .b b5, .b b8, .b b9, .b b10, .o D])
            | (have hpkF : pk A es ⟨id, tk⟩ (pre ++ [x]) = pk A es ⟨id, tk⟩ pre := by rw [pk_snoc, hy, if_neg (by rw [hc29]; simp)]
               exact q_bodyend ⟨pushM s a b3 b5 b8 b9 b10 A es tk ⟨id, tk⟩ pre ++ [obj D (.deferred (some []))], by simp only [pushM, hpkF], rfl⟩ (hO.only [.o L, .b s, .p p, .b b, .o a, .b b3, .b b5, .b b8, .b b9, .b b10, .o D]))
        · refine CR5 (K8 ?_)
          first
            | exact q_bodyend ⟨_, rfl, rfl⟩ (hO.only [.o L, .b s, .p p, .b b, .o a, .b b3, .b b5, .b b8, .b b9, .b b10, .o D])
            | (have hpkF : pk A es ⟨id, tk⟩ (pre ++ [x]) = pk A es ⟨id, tk⟩ pre := by rw [pk_snoc, hy, if_neg (by rw [hc29]; simp)]
               exact q_bodyend ⟨pushM s a b3 b5 b8 b9 b10 A es tk ⟨id, tk⟩ pre ++ [obj D (.deferred (some []))], by simp only [pushM, hpkF], rfl⟩ (hO.only [.o L, .b s, .p p, .b b, .o a, .b b3, .b b5, .b b8, .b b9, .b b10, .o D]))
    · subst hM
      simp only [List.cons_append, List.nil_append] at hO
      refine K8 (K3 ?_)
      refine c_cut (X := Option Addr × Nat × List Api_entry) (fun z => [(3, .pointer (some ⟨b3, 0, none⟩)), (6, .int .i64 0), (8, .pointer (some ⟨b8, 0, none⟩))]) (fun z w => Own k w [arenaL a A, aB s a z.1 z.2.2.length z.2.1, aI z.1 z.2.1 z.2.2, blk b3 24 [.pointer (some ⟨s, 0, none⟩)], blk b8 55 (Api_entry.cells ⟨id, tk⟩), obj D (.deferred (some []))] ∧ (pushE A es ⟨id, tk⟩ = z.2.2 ++ [⟨id, tk⟩]) ∧ (z.2.2.length ≤ 2000000)) ?_ ?_
      · refine K0 (K1 ?_)
        refine l_y rfl rfl (D5 hO rfl) ?_
        refine Z0 (fun h11_1 => ?_) (fun h11_1 => ?_)
        · refine K2 (K3 (L8 (K1 ?_)))
          refine l_y rfl rfl (D5 hO rfl) ?_
          refine l_y rfl rfl (D5 hO rfl) ?_
          have hlt : (pk A es ⟨id, tk⟩ (bk es es.length)).2 < es.length := bk_lt (pk_mem (by omega))
          refine CK [.b s, .p p] hO rfl (fun k' hx hr hO' => remove_spec hlt hg hlc hl (hO := hO')) ?_
          rintro _ _ w ⟨rfl, rfl⟩ hO
          simp only [List.cons_append, List.nil_append] at hO
          obtain ⟨p2, c2, es2, hO, hpu, hl2⟩ : ∃ (p2 : Option Addr) (c2 : Nat) (es2 : List Api_entry), Own k w [arenaL a A, aB s a p2 es2.length c2, aI p2 c2 es2, blk b3 24 [.pointer (some ⟨s, 0, none⟩)], blk b8 55 (Api_entry.cells ⟨id, tk⟩), obj D (.deferred (some []))] ∧ pushE A es ⟨id, tk⟩ = es2 ++ [⟨id, tk⟩] ∧ es2.length ≤ 2000000 := by
            obtain ⟨p2, c2, hg2, hlc2, hO⟩ := actL_open (hO.ks [.o s])
            exact ⟨p2, c2, _, hO.only [.o a, .b s, .p p2, .b b3, .b b8, .o D], by rw [pushE, if_pos (by omega)], by simp [cutE]; omega⟩
          refine K2 ?_
          exact q_cut ((p2, c2, es2)) ⟨rfl, rfl, rfl, trivial⟩ ⟨hO.only [.o a, .b s, .p p2, .b b3, .b b8, .o D], hpu, hl2⟩
        · obtain ⟨p2, c2, es2, hO, hpu, hl2⟩ : ∃ (p2 : Option Addr) (c2 : Nat) (es2 : List Api_entry), Own k w [arenaL a A, aB s a p2 es2.length c2, aI p2 c2 es2, blk b3 24 [.pointer (some ⟨s, 0, none⟩)], blk b8 55 (Api_entry.cells ⟨id, tk⟩), obj D (.deferred (some []))] ∧ pushE A es ⟨id, tk⟩ = es2 ++ [⟨id, tk⟩] ∧ es2.length ≤ 2000000 := ⟨p, c, es, hO.only [.o a, .b s, .p p, .b b3, .b b8, .o D], by rw [pushE, if_neg (by omega)], hl⟩
          refine K2 (K3 (L9 (K5 ?_)))
          exact q_cut ((p2, c2, es2)) ⟨rfl, rfl, rfl, trivial⟩ ⟨hO.only [.o a, .b s, .p p2, .b b3, .b b8, .o D], hpu, hl2⟩
      · rintro z w ⟨hO, hz, hzl⟩
        refine K0 ?_
        refine da_regM ?_
        have hO := hO.drew
        refine da_phase _ [10] (SO.ks [.b b3, .b s, .b b8] hO) ?_
        refine dx_y 0 (by kernel_rfl) rfl rfl rfl (fun w ⟨m, hw⟩ => D5 hw rfl) ?_
        refine dx_y 1 (by kernel_rfl) rfl rfl rfl (fun w ⟨m, hw⟩ => D5 hw rfl) ?_
        refine dx_u 2 (by kernel_rfl) rfl rfl rfl (fun w => y_nilCheck rfl rfl) ?_
        refine dx_u 3 (by kernel_rfl) rfl rfl rfl (fun w => y_fldb (o' := 1) rfl) ?_
        refine dx_y 4 (by kernel_rfl) rfl rfl rfl (fun w ⟨m, hw⟩ => D5 hw rfl) ?_
        refine dx_y 5 (by kernel_rfl) rfl rfl rfl (fun w ⟨m, hw⟩ => D8 (cs := [.int .i64 id, .int .i64 tk.Kind, .string tk.Name, .string tk.Data, .string tk.System, .int .i64 tk.Has, .bool tk.Quirks, .int .i32 tk.Char, .bool tk.Self, .slice tk.AttrsP tk.Attrs.length tk.AttrsC]) hw rfl) ?_
        refine dx_only 6 (by kernel_rfl) rfl rfl ?_
        refine s_lit (parts := [(0, .tmp 43)]) (enc := Api_entry.cells) [⟨id, ⟨tk.Kind, tk.Name, tk.Data, tk.System, tk.Has, tk.Quirks, tk.Char, tk.Self, tk.AttrsP, tk.Attrs, tk.AttrsC⟩⟩] [.agg [.int .i64 id, .int .i64 tk.Kind, .string tk.Name, .string tk.Data, .string tk.System, .int .i64 tk.Has, .bool tk.Quirks, .int .i32 tk.Char, .bool tk.Self, .slice tk.AttrsP tk.Attrs.length tk.AttrsC].toArray] hO rfl (fun b44 w hO => ?_)
        refine o_done ?_
        refine ⟨SO.ks [.b b3, .b s, .b b8] hO, ?_⟩
        refine dx_only 7 (by kernel_rfl) rfl rfl ?_
        refine s_app hO rfl rfl (src_own hO) (fun p45 c45 w hO gs45 => ?_)
        refine o_done ?_
        refine ⟨SO.ks [.b b3, .b s, .b b8] hO, ?_⟩
        refine dx_u 8 (by kernel_rfl) rfl rfl rfl (fun w => y_nilCheck rfl rfl) ?_
        refine dx_u 9 (by kernel_rfl) rfl rfl rfl (fun w => y_fldb (o' := 1) rfl) ?_
        refine dx_close 10 (by kernel_rfl) rfl rfl ?_
        refine Y1 hO rfl rfl (fun w hO => ?_)
        simp only [List.set_cons_zero, List.set_cons_succ] at hO
        refine o_done ?_
        refine da_end (by kernel_rfl) (q_nopan ?_)
        refine K3 (K0 (K1 ?_))
        refine l_y rfl rfl (y_assign rfl) ?_
        refine K2 (K3 (K6 ?_))
        refine finM (hO.ks [.o D]) (fun w hO => ?_)
        rw [if_pos h2_1, hz]
        exact fin1 rfl rfl ⟨_, ⟨by rw [h2_1], rfl⟩, ((actL_shut (hO.ks [.b s, .p p45])).ks [.o a, .o s]).two⟩
    · exact hM.elim
theorem finS {P : Program} {E : Env} {n : Nat} {l : List HP} {fn : Func} {T' : Value → World → Prop} {t b : Nat} {ty T : TypeId} {v : Value} {vs : List Value} {M : HP → List HP} [hl : Lay P ty false 1] (hO : Own k w l) (hrs : fn.results = #[.cell t ty]) (hv : Hb.look E t = some (.pointer (some ⟨b, 0, none⟩))) [ha : AtB l b T vs M] (hT : T' v w) (hv0 : vs[0]? = some v := by rfl) :
    QW (bodyPost P fn fun e w' => ∃ v, e = .returned v ∧ T' v w') n [] .ret E w := fun c hc =>
  ⟨hc.defers, _, by
    obtain ⟨m, hm⟩ := ha.self
    have hh : Holds w ⟨b, 0, none⟩ [v] := hO.holds hm (.ofBlk1 hv0)
    have := hc.at_ t _ hv
    simp only [Array.getD_eq_getD_getElem?] at this
    have h1 : w.cell? ⟨b, 0, none⟩ = some v := by have := hh 0 v (by simp); simpa [Addr.add] using this
    simp [results, hrs, this, asAddr, loadVar, hl.isAgg, load, Sem.run, h1], _, rfl, hT⟩
/-- the last element of a name -/
def lastE (A : List Node_one) (L : List Api_entry) (nm : ByteArray) : List Nat → Int
  | [] => -1
  | i :: xs => if (nodeA A (at_ L i).Node).Space = 0 ∧ (nodeA A (at_ L i).Node).Name = nm then (at_ L i).Node else lastE A L nm xs
theorem lastE_skip {nm : ByteArray} {pre suf : List Nat} (h : ∀ i ∈ pre, ¬ ((nodeA A (at_ L i).Node).Space = 0 ∧ (nodeA A (at_ L i).Node).Name = nm)) : lastE A L nm (pre ++ suf) = lastE A L nm suf := by
  induction pre with
  | nil => rfl
  | cons i pre ih => rw [List.cons_append, lastE, if_neg (h i (by simp)), ih (fun j hj => h j (by simp [hj]))]
abbrev lastM (s a b2 b3 b4 : Nat) (A : List Node_one) (nm : ByteArray) (z : Int) : List HP :=
  [arenaL a A, blk b2 24 [.pointer (some ⟨s, 0, none⟩)], blk b3 9 [.string nm], blk b4 3 [.int .i64 z]]
set_option maxHeartbeats 2000000 in
theorem aLast_spec {nm : ByteArray} {es : List Api_entry} (hn : 0 < A.length) (ha : AttrsOk A) (hl : es.length ≤ 2000000) (hb : ∀ e ∈ es, e.Node ≠ -1 → hasB A e.Node = true) (hO : Own k w [arenaL a A, actL s a es]) :
    Tri Tryz.prog 73 #[.pointer (some ⟨s, 0, none⟩), .string nm] k w fun v m => v = .int .i64 (lastE A es nm (bk es es.length)) ∧ m = [arenaL a A, actL s a es] := by
  refine enterM (args := [.pointer (some ⟨s, 0, none⟩), .string nm]) Tryz.func73 rfl rfl ?_
  obtain ⟨p, c, hg, hlc, hO⟩ := actL_open (hO.ks [.o s])
  refine K0 (K1 ?_)
  refine s_box (vs := [.pointer (some ⟨s, 0, none⟩)]) hO rfl rfl rfl (by rfl) fun b2 w hO => ?_
  refine s_box (vs := [.string nm]) hO rfl rfl rfl (by rfl) fun b3 w hO => ?_
  refine s_alloc (vs := [.int .i64 0]) hO rfl rfl rfl fun b4 w hO => ?_
  refine K2 (K3 (K0 (K0 (K1 ?_))))
  refine l_y rfl rfl (D5 hO rfl) ?_
  refine CK [.b s] hO rfl (fun k' hx hr hO' => anone_spec (hO := hO')) ?_
  rintro _ _ w ⟨rfl, rfl⟩ hO
  simp only [List.cons_append, List.nil_append] at hO
  refine K2 (K3 (L9 (K5 (K3 (K0 (K0 (K1 ?_)))))))
  refine l_y rfl rfl (D5 hO rfl) ?_
  refine CK [] hO rfl (fun k' hx hr hO' => back_spec (hO := hO')) ?_
  rintro _ _ w ⟨b, rfl, rfl⟩ hO
  simp only [List.cons_append, List.nil_append] at hO
  refine K2 (K3 (K4 ?_))
  refine c_range (gf := 94) (lb := [.pointer (some ⟨b, 0, none⟩)]) (done := fun M => M = bF s a p c es b ++ lastM s a b2 b3 b4 A nm 0 ∧ lastE A es nm (bk es es.length) = -1) (stop := fun c9 M => c9 = .ret ∧ M = bF s a p c es b ++ lastM s a b2 b3 b4 A nm (lastE A es nm (bk es es.length))) hO rfl (fun fn tmps L D w hF hO => ?_) (fun D w M hM hO => ?_) (fun D w c M hM hO => ?_)
  · have hO2 : Own k w (obj L (loopO .ready none fn tmps _ _ _ D) :: (bF s a p c es b ++ (lastM s a b2 b3 b4 A nm 0 ++ [obj D (.deferred (some []))]))) := hO.ks [.o L, .b s, .p p, .b b, .o a, .b b2, .b b3, .b b4, .o D]
    refine Ret.mono (biter_spec (B := fun pre M => M = lastM s a b2 b3 b4 A nm 0 ++ [obj D (.deferred (some []))] ∧ ∀ i ∈ pre, ¬ ((nodeA A (at_ es i).Node).Space = 0 ∧ (nodeA A (at_ es i).Node).Name = nm)) (stop := fun c9 M => c9 = .ret ∧ M = bF s a p c es b ++ (lastM s a b2 b3 b4 A nm (lastE A es nm (bk es es.length)) ++ [obj D (.deferred (some []))])) hg hl rfl ⟨rfl, fun i hi => by cases hi⟩ hO2 ?_) (fun v w2 h => ?_)
    rotate_left
    · rcases h with ⟨M, ⟨M', ⟨rfl, hs⟩, rfl⟩, hO⟩ | ⟨_, _, ⟨rfl, rfl⟩, hO⟩
      · exact .inl ⟨_, ⟨rfl, by have := lastE_skip (A := A) (L := es) (suf := []) hs; rw [List.append_nil] at this; exact this⟩, hO.ks [.o L, .o D]⟩
      · exact .inr ⟨_, _, ⟨rfl, rfl⟩, hO.ks [.o L, .o D]⟩
    rintro pre x suf _ w hxs hxl hxm ⟨rfl, hsk⟩ hO
    have hbx := hb _ (at_mem hxl) hxm
    simp only [List.cons_append, List.nil_append] at hO
    obtain ⟨y, hy⟩ : ∃ y, at_ es x = y := ⟨_, rfl⟩
    rw [hy] at hbx hxm ⊢
    refine round_ok (n := Tryz.f73.ntmps) (E := [(2, .pointer (some ⟨b2, 0, none⟩)), (3, .pointer (some ⟨b3, 0, none⟩)), (4, .pointer (some ⟨b4, 0, none⟩)), (13, .int .i64 (x : Int)), (14, .agg [.int .i64 y.Node, .int .i64 y.Token.Kind, .string y.Token.Name, .string y.Token.Data, .string y.Token.System, .int .i64 y.Token.Has, .bool y.Token.Quirks, .int .i32 y.Token.Char, .bool y.Token.Self, .slice y.Token.AttrsP y.Token.Attrs.length y.Token.AttrsC].toArray)]) ?_ hO ?_
    · have e1 : (#[13, 14].zip #[Value.int .i64 x, .agg (Api_entry.cells y).toArray]).foldl (fun tmps (t, a) => tmps.setIfInBounds t a) tmps = (tmps.setIfInBounds 13 (.int .i64 x)).setIfInBounds 14 (.agg (Api_entry.cells y).toArray) := by simp
      rw [e1]
      exact ((hF.put (d := some 13) rfl (.int .i64 x)).put (d := some 14) rfl (.agg (Api_entry.cells y).toArray)).weaken (E' := [(2, .pointer (some ⟨b2, 0, none⟩)), (3, .pointer (some ⟨b3, 0, none⟩)), (4, .pointer (some ⟨b4, 0, none⟩)), (13, .int .i64 x), (14, .agg (Api_entry.cells y).toArray)]) ⟨rfl, rfl, rfl, rfl, rfl, trivial⟩
    · refine CR1 ?_
      refine s_alloc (vs := [.int .i64 0, .int .i64 0, .string ⟨#[]⟩, .string ⟨#[]⟩, .string ⟨#[]⟩, .int .i64 0, .bool false, .int .i32 0, .bool false, .slice none 0 0]) hO rfl rfl rfl fun b6 w hO => ?_
      refine Y3 hO rfl rfl (fun w hO => ?_)
      refine K2 ?_
      refine q_assign (hO.ks [.o L]) (fun w hO => ?_)
      refine CR4 (CR0 ?_)
      refine CRa ?_
      have hO := hO.drew
      refine da_phase _ [11] (SO.ks [.b b2, .b s, .b b6] hO) ?_
      refine dx_y 0 (by kernel_rfl) rfl rfl rfl (fun w ⟨m, hw⟩ => D5 hw rfl) ?_
      refine dx_u 1 (by kernel_rfl) rfl rfl rfl (fun w => y_nilCheck rfl rfl) ?_
      refine dx_u 2 (by kernel_rfl) rfl rfl rfl (fun w => y_fldb (o' := 0) rfl) ?_
      refine dx_y 3 (by kernel_rfl) rfl rfl rfl (fun w ⟨m, hw⟩ => D5 hw rfl) ?_
      refine dx_u 4 (by kernel_rfl) rfl rfl rfl (fun w => y_fldb (o' := 0) rfl) ?_
      refine dx_y 5 (by kernel_rfl) rfl rfl rfl (fun w ⟨m, hw⟩ => D5 hw rfl) ?_
      refine dx_two 6 10 (by kernel_rfl) rfl rfl rfl rfl ?_ ?_
      · refine CK [.o a] hO rfl (fun k' hx hr hO' => NodeD_spec hn ha (hO := hO')) ?_
        rintro _ _ w ⟨n1, hn1, rfl, rfl⟩ hO
        simp only [List.cons_append, List.nil_append] at hO
        refine o_done ?_
        refine ⟨SO.ks [.b b2, .b s, .b b6] hO, ?_⟩
        refine dx_u 7 (by kernel_rfl) rfl rfl rfl (fun w => y_move rfl) ?_
        refine dx_u 8 (by kernel_rfl) rfl rfl rfl (fun w => y_extract rfl rfl) ?_
        refine dx_u 9 (by kernel_rfl) rfl rfl rfl (fun w => y_extract rfl rfl) ?_
        refine dx_only 10 (by kernel_rfl) rfl rfl ?_
        refine s_alloc (vs := [.int .i64 0, .int .i64 0, .string ⟨#[]⟩, .slice none 0 0, .string ⟨#[]⟩, .string ⟨#[]⟩, .int .i64 0, .int .i64 0, .int .i64 0, .int .i64 0, .int .i64 0, .int .i64 0]) hO rfl rfl rfl fun b7 w hO => ?_
        refine o_done ?_
        refine ⟨SO.ks [.b b2, .b s, .b b6] hO, ?_⟩
        refine dx_close 11 (by kernel_rfl) rfl rfl ?_
        refine Y3 hO rfl rfl (fun w hO => ?_)
        refine o_done ?_
        refine da_phase _ [] (SO.ks [] hO) ?_
        refine dx_u 12 (by kernel_rfl) rfl rfl rfl (fun w => y_assign rfl) ?_
        refine dx_end (by kernel_rfl) (q_nopan ?_)
        refine CR3 (CR0 ?_)
        have e2 : n1.Space = (nodeA A y.Node).Space := hn1.space hbx
        have e3 : n1.Name = (nodeA A y.Node).Name := hn1.name hbx
        refine CR1 ?_
        refine l_y rfl rfl (y_fldb (o' := 1) rfl) ?_
        refine l_y rfl rfl (D5 hO rfl) ?_
        refine Z0 (fun h6_2 => ?_) (fun h6_2 => ?_)
        · refine l_y rfl rfl (y_move rfl) ?_
          refine l_y rfl rfl (y_fldb (o' := 2) rfl) ?_
          refine l_y rfl rfl (D5 hO rfl) ?_
          refine l_y rfl rfl (D5 hO rfl) ?_
          refine Z2 (fun h6_7 => ?_) (fun h6_7 => ?_)
          · refine l_y rfl rfl (y_pick_t rfl rfl) ?_
            refine K2 (CR3 (CR8 (CR0 ?_)))
            have hla : lastE A es nm (bk es es.length) = y.Node := by
              rw [hxs, lastE_skip hsk, lastE, hy, if_pos ⟨by rw [← e2]; exact h6_2, by rw [← e3]; exact h6_7⟩]
            rw [hla]
            refine CR1 ?_
            refine l_y rfl rfl (y_fldb (o' := 0) rfl) ?_
            refine l_y rfl rfl (D5 hO rfl) ?_
            refine Y1 hO rfl rfl (fun w hO => ?_)
            simp only [List.set_cons_zero, List.set_cons_succ] at hO
            refine K2 (CR3 (CR6 (L0 ?_)))
            exact q_bodyret ⟨rfl, rfl⟩ (hO.only [.o L, .b s, .p p, .b b, .o a, .b b2, .b b3, .b b4, .o D])
          · refine l_y rfl rfl (y_pick_t rfl rfl) ?_
            refine K2 (CR3 (CR9 (CR5 (K8 ?_))))
            have hno : ¬ ((nodeA A (at_ es x).Node).Space = 0 ∧ (nodeA A (at_ es x).Node).Name = nm) := by
              rw [hy, ← e2, ← e3]
              first | (intro h; exact h6_7 h.2) | (intro h; exact h6_2 h.1)
            exact q_bodyend ⟨_, ⟨rfl, fun i hi => (List.mem_append.1 hi).elim (hsk i) (fun h => by rw [List.mem_singleton.1 h]; exact hno)⟩, rfl⟩ (hO.only [.o L, .b s, .p p, .b b, .o a, .b b2, .b b3, .b b4, .o D])
        · refine l_y rfl rfl (y_move rfl) ?_
          repeat refine M2 ?_
          refine l_y rfl rfl (y_pick_f rfl rfl) ?_
          refine K2 (CR3 (CR9 (CR5 (K8 ?_))))
          have hno : ¬ ((nodeA A (at_ es x).Node).Space = 0 ∧ (nodeA A (at_ es x).Node).Name = nm) := by
            rw [hy, ← e2, ← e3]
            first | (intro h; exact h6_7 h.2) | (intro h; exact h6_2 h.1)
          exact q_bodyend ⟨_, ⟨rfl, fun i hi => (List.mem_append.1 hi).elim (hsk i) (fun h => by rw [List.mem_singleton.1 h]; exact hno)⟩, rfl⟩ (hO.only [.o L, .b s, .p p, .b b, .o a, .b b2, .b b3, .b b4, .o D])
      · refine s_alloc (vs := [.int .i64 0, .int .i64 0, .string ⟨#[]⟩, .slice none 0 0, .string ⟨#[]⟩, .string ⟨#[]⟩, .int .i64 0, .int .i64 0, .int .i64 0, .int .i64 0, .int .i64 0, .int .i64 0]) hO rfl rfl rfl fun b7 w hO => ?_
        refine o_done ?_
        refine ⟨SO.ks [.b b2, .b s, .b b6] hO, ?_⟩
        refine dx_only 6 (by kernel_rfl) rfl rfl ?_
        refine CK [.o a] hO rfl (fun k' hx hr hO' => NodeD_spec hn ha (hO := hO')) ?_
        rintro _ _ w ⟨n1, hn1, rfl, rfl⟩ hO
        simp only [List.cons_append, List.nil_append] at hO
        refine o_done ?_
        refine ⟨SO.ks [.b b2, .b s, .b b6] hO, ?_⟩
        refine dx_u 7 (by kernel_rfl) rfl rfl rfl (fun w => y_move rfl) ?_
        refine dx_u 8 (by kernel_rfl) rfl rfl rfl (fun w => y_extract rfl rfl) ?_
        refine dx_u 9 (by kernel_rfl) rfl rfl rfl (fun w => y_extract rfl rfl) ?_
        refine dx_close 11 (by kernel_rfl) rfl rfl ?_
        refine Y3 hO rfl rfl (fun w hO => ?_)
        refine o_done ?_
        refine da_phase _ [] (SO.ks [] hO) ?_
        refine dx_u 12 (by kernel_rfl) rfl rfl rfl (fun w => y_assign rfl) ?_
        refine dx_end (by kernel_rfl) (q_nopan ?_)
        refine CR3 (CR0 ?_)
        have e2 : n1.Space = (nodeA A y.Node).Space := hn1.space hbx
        have e3 : n1.Name = (nodeA A y.Node).Name := hn1.name hbx
        refine CR1 ?_
        refine l_y rfl rfl (y_fldb (o' := 1) rfl) ?_
        refine l_y rfl rfl (D5 hO rfl) ?_
        refine Z0 (fun h6_2 => ?_) (fun h6_2 => ?_)
        · refine l_y rfl rfl (y_move rfl) ?_
          refine l_y rfl rfl (y_fldb (o' := 2) rfl) ?_
          refine l_y rfl rfl (D5 hO rfl) ?_
          refine l_y rfl rfl (D5 hO rfl) ?_
          refine Z2 (fun h6_7 => ?_) (fun h6_7 => ?_)
          · refine l_y rfl rfl (y_pick_t rfl rfl) ?_
            refine K2 (CR3 (CR8 (CR0 ?_)))
            have hla : lastE A es nm (bk es es.length) = y.Node := by
              rw [hxs, lastE_skip hsk, lastE, hy, if_pos ⟨by rw [← e2]; exact h6_2, by rw [← e3]; exact h6_7⟩]
            rw [hla]
            refine CR1 ?_
            refine l_y rfl rfl (y_fldb (o' := 0) rfl) ?_
            refine l_y rfl rfl (D5 hO rfl) ?_
            refine Y1 hO rfl rfl (fun w hO => ?_)
            simp only [List.set_cons_zero, List.set_cons_succ] at hO
            refine K2 (CR3 (CR6 (L0 ?_)))
            exact q_bodyret ⟨rfl, rfl⟩ (hO.only [.o L, .b s, .p p, .b b, .o a, .b b2, .b b3, .b b4, .o D])
          · refine l_y rfl rfl (y_pick_t rfl rfl) ?_
            refine K2 (CR3 (CR9 (CR5 (K8 ?_))))
            have hno : ¬ ((nodeA A (at_ es x).Node).Space = 0 ∧ (nodeA A (at_ es x).Node).Name = nm) := by
              rw [hy, ← e2, ← e3]
              first | (intro h; exact h6_7 h.2) | (intro h; exact h6_2 h.1)
            exact q_bodyend ⟨_, ⟨rfl, fun i hi => (List.mem_append.1 hi).elim (hsk i) (fun h => by rw [List.mem_singleton.1 h]; exact hno)⟩, rfl⟩ (hO.only [.o L, .b s, .p p, .b b, .o a, .b b2, .b b3, .b b4, .o D])
        · refine l_y rfl rfl (y_move rfl) ?_
          repeat refine M2 ?_
          refine l_y rfl rfl (y_pick_f rfl rfl) ?_
          refine K2 (CR3 (CR9 (CR5 (K8 ?_))))
          have hno : ¬ ((nodeA A (at_ es x).Node).Space = 0 ∧ (nodeA A (at_ es x).Node).Name = nm) := by
            rw [hy, ← e2, ← e3]
            first | (intro h; exact h6_7 h.2) | (intro h; exact h6_2 h.1)
          exact q_bodyend ⟨_, ⟨rfl, fun i hi => (List.mem_append.1 hi).elim (hsk i) (fun h => by rw [List.mem_singleton.1 h]; exact hno)⟩, rfl⟩ (hO.only [.o L, .b s, .p p, .b b, .o a, .b b2, .b b3, .b b4, .o D])
  · obtain ⟨rfl, hle⟩ := hM
    simp only [List.cons_append, List.nil_append] at hO
    refine K8 (K3 (K0 (K1 ?_)))
    refine Y1 hO rfl rfl (fun w hO => ?_)
    simp only [List.set_cons_zero, List.set_cons_succ] at hO
    refine K2 (K3 (K6 ?_))
    refine finM (hO.ks [.o D]) (fun w hO => ?_)
    rw [hle]
    exact finS hO rfl rfl ⟨_, ⟨rfl, rfl⟩, ((actL_shut (hO.ks [.b s, .p p])).ks [.o a, .o s]).two⟩
  · obtain ⟨rfl, rfl⟩ := hM
    simp only [List.cons_append, List.nil_append] at hO
    refine K6 (L0 (K9 ?_))
    refine finM (hO.ks [.o D]) (fun w hO => ?_)
    exact finS hO rfl rfl ⟨_, ⟨rfl, rfl⟩, ((actL_shut (hO.ks [.b s, .p p])).ks [.o a, .o s]).two⟩
end
end Go.Proofs.YtoohapbaelmkcaaGreat
