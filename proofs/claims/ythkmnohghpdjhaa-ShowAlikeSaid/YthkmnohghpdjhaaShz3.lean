/- What the row of this folder leans on, part 3: the walks of the functions and the laws of what they compute; no condition. -/
import Derived.Test.YthkmnohghpdjhaaShz2
section
set_option linter.unusedVariables false
set_option linter.unusedSimpArgs false
set_option maxRecDepth 100000
namespace Go.Proofs.Ythkmnohghpdjhaa
open Go Go.Hb Go.RowKit
/-- the first node is the document -/
def DocOk (A : List Node_one) : Prop := InA A 0 ∧ (nodeA A 0).Kind = 0
theorem DocOk.new : DocOk [docD] := ⟨⟨by decide, by simp⟩, rfl⟩
theorem DocOk.add {A : List Node_one} (h : DocOk A) (n : Api_node) : DocOk (A ++ [blankN n]) := ⟨inA_new.2 (.inl h.1), by rw [nodeA, at_old h.1]; exact h.2⟩
theorem DocOk.same {A B : List Node_one} (h : DocOk A) (hl : B.length = A.length) (hk : (nodeA B 0).Kind = (nodeA A 0).Kind) : DocOk B := ⟨h.1.len hl, by rw [hk]; exact h.2⟩
theorem DocOk.addL {A : List Node_one} (h : DocOk A) (n : Api_node) (ts : List ByteArray) : DocOk (addL A n ts).2.2 := by
  unfold Go.Proofs.Ythkmnohghpdjhaa.addL
  repeat' split
  · exact h
  · exact h
  · exact h.add n
theorem DocOk.element {A : List Node_one} (g : DocOk A) (sp : Int) (nm : ByteArray) (xs : List Api_attr) (q : Option Addr) (d : Nat) : DocOk (elementL A sp nm xs q d).2.2 := by
  unfold elementL
  repeat' split
  · exact g
  · exact g
  · exact g
  · exact g
  · exact g
  · have g2 := (g.add (elementN q d sp nm xs)).add fragmentN
    have i1 : InA (A ++ [blankN (elementN q d sp nm xs)]) (A.length : Int) := ⟨by omega, by simp; omega⟩
    have id2 : InA (A ++ [blankN (elementN q d sp nm xs)] ++ [blankN fragmentN]) (A.length : Int) := inA_new.2 (.inl i1)
    have if2 : InA (A ++ [blankN (elementN q d sp nm xs)] ++ [blankN fragmentN]) ((A ++ [blankN (elementN q d sp nm xs)]).length : Int) := inA_new.2 (.inr rfl)
    exact g2.same (by simp [setHost, setInner]) (hosted_kind id2 if2 0 (by decide)).1
  · exact g.add _
/-- both arenas after so many rounds -/
structure WInv (A : List Node_one) (K : Int → List Int) (R : List Ref01_one) (n : Nat) : Prop where
  two : Two A K R
  inn : InnOk A
  text : TextOk A
  knd : KndOk A
  len : A.length ≤ 2 * n + 1
  doc : DocOk A
theorem WInv.mono {A : List Node_one} {K : Int → List Int} {R : List Ref01_one} {n m : Nat} (h : WInv A K R n) (hm : n ≤ m) : WInv A K R m := ⟨h.two, h.inn, h.text, h.knd, by have := h.len; omega, h.doc⟩
theorem WInv.new : WInv [docD] (fun _ => []) [docR] 0 := ⟨Two.new, InnOk.new, TextOk.new, KndOk.new, by simp, DocOk.new⟩
theorem elementL_len {A : List Node_one} {sp : Int} {nm : ByteArray} {xs : List Api_attr} {q : Option Addr} {d : Nat} : (elementL A sp nm xs q d).2.2.length ≤ A.length + 2 := by
  unfold elementL
  repeat' split
  all_goals simp [setHost, setInner]
theorem addL_len {A : List Node_one} {n : Api_node} {ts : List ByteArray} : (addL A n ts).2.2.length ≤ A.length + 2 := by
  unfold addL
  repeat' split
  all_goals simp
theorem WInv.el {A : List Node_one} {K : Int → List Int} {R : List Ref01_one} {n : Nat} (h : WInv A K R n) (sp : Int) (nm : ByteArray) (xs : List Api_attr) (q q' : Option Addr) (d d' : Nat) : ∃ K', WInv (elementL A sp nm xs q d).2.2 K' (elementR R sp nm xs q' d').2.2 (n + 1) := by
  obtain ⟨_, _, K', t⟩ := el_both h.two sp nm xs q q' d d'
  exact ⟨K', t, h.inn.element _ _ _ _ _, h.text.element _ _ _ _ _, h.knd.element _ _ _ _ _, by have := elementL_len (A := A) (sp := sp) (nm := nm) (xs := xs) (q := q) (d := d); have := h.len; omega, h.doc.element _ _ _ _ _⟩
theorem WInv.more {A : List Node_one} {K : Int → List Int} {R : List Ref01_one} {m : Nat} (h : WInv A K R m) {n : Api_node} {o : Ref01_one} (ts : List ByteArray) (ha : n.Attrs.length ≤ 1024) (hs : Sim1 (blankN n) [] (blankR o)) (hk : 1 ≤ n.Kind ∧ n.Kind ≤ 5) (ht : longB ts = false → TextN n) : ∃ K', WInv (addL A n ts).2.2 K' (raddR R o ts).2.2 (m + 1) := by
  obtain ⟨_, _, K', t⟩ := add_both h.two ts ha hs
  exact ⟨K', t, h.inn.addL _ _, h.text.addL ht, h.knd.addL hk, by have := addL_len (A := A) (n := n) (ts := ts); have := h.len; omega, h.doc.addL _ _⟩
theorem WInv.link {A : List Node_one} {K : Int → List Int} {R R' : List Ref01_one} {n : Nat} (h : WInv A K R n) {up id before : Int} (s : Sim (linkL A up id before).2 (linkKs A K up id before) R') : WInv (linkL A up id before).2 (linkKs A K up id before) R' n :=
  ⟨h.two.link s, h.inn.core linkL_len (link_core h.two.tree up id before), h.text.core linkL_len (link_core h.two.tree up id before), h.knd.link h.two.tree up id before, by rw [linkL_len]; exact h.len, h.doc.same linkL_len (core_kind (link_core h.two.tree up id before 0 (by decide)))⟩
theorem simText1 (s : ByteArray) : Sim1 (blankN (textN s)) [] (blankR (textR s)) := ⟨rfl, rfl, rfl, rfl, rfl, rfl, rfl, rfl, rfl, rfl⟩
theorem textText1 (s : ByteArray) (h : longB [s] = false) : TextN (textN s) := ⟨Nat.zero_le _, long_mem (s := s) h (by simp), Nat.zero_le _, rfl⟩
theorem simComment1 (s : ByteArray) : Sim1 (blankN (commentN s)) [] (blankR (commentR s)) := ⟨rfl, rfl, rfl, rfl, rfl, rfl, rfl, rfl, rfl, rfl⟩
theorem textComment1 (s : ByteArray) (h : longB [s] = false) : TextN (commentN s) := ⟨Nat.zero_le _, long_mem (s := s) h (by simp), Nat.zero_le _, rfl⟩
theorem simDoctype1 (a b c : ByteArray) : Sim1 (blankN (doctypeN a b c)) [] (blankR (doctypeR a b c)) := ⟨rfl, rfl, rfl, rfl, rfl, rfl, rfl, rfl, rfl, rfl⟩
theorem textDoctype1 (a b c : ByteArray) (h : longB [a, b, c] = false) : TextN (doctypeN a b c) := ⟨long_mem (s := a) h (by simp), long_mem (s := b) h (by simp), long_mem (s := c) h (by simp), rfl⟩
theorem simFragment1 : Sim1 (blankN fragmentN) [] (blankR fragmentR) := ⟨rfl, rfl, rfl, rfl, rfl, rfl, rfl, rfl, rfl, rfl⟩
theorem textFragment1 : TextN fragmentN := ⟨Nat.zero_le _, Nat.zero_le _, Nat.zero_le _, rfl⟩
section
variable {k : Ctx} {w : World}
end
end Go.Proofs.Ythkmnohghpdjhaa
end
section
set_option linter.unusedVariables false
set_option linter.unusedSimpArgs false
set_option maxRecDepth 100000
namespace Go.Proofs.Ythkmnohghpdjhaa
open Go Go.Hb Go.RowKit
theorem WInv.unlink {A : List Node_one} {K : Int → List Int} {R R' : List Ref01_one} {n : Nat} (h : WInv A K R n) {id : Int} (s : Sim (unlinkL A id).2 (unlinkKs A K id) R') : WInv (unlinkL A id).2 (unlinkKs A K id) R' n :=
  ⟨h.two.unlink s, h.inn.core unlinkL_len (unlink_core h.two.tree id), h.text.core unlinkL_len (unlink_core h.two.tree id), h.knd.unlink h.two.tree id, by rw [unlinkL_len]; exact h.len, h.doc.same unlinkL_len (core_kind (unlink_core h.two.tree id 0 (by decide)))⟩
section
variable {k : Ctx} {w : World}
/-- a script that may be read -/
structure Scr3 (k : Ctx) (p : Option Addr) (c : Nat) (l : List Law03_op) : Prop where
  sli : Sli (Ro k) (.slice p l.length c) (l.map Law03_op.cells)
  one : ∀ o ∈ l, Sli (Ro k) (.slice o.LP o.L.length o.LC) (o.L.map Api_attr.cells)
set_option maxHeartbeats 8000000 in
theorem build_spec {p : Option Addr} {c : Nat} {l : List Law03_op} (hs : Scr3 k p c l) (hO : Own k w []) :
    Tri Try.prog 20 #[.slice p l.length c] k w fun v m => ∃ a r A K R, v = .tuple #[.pointer (some ⟨a, 0, none⟩), .pointer (some ⟨r, 0, none⟩)] ∧ WInv A K R 300 ∧ m = [arenaL a A, rarL r R] := by
  refine enter (args := [.slice p l.length c]) Try.func20 rfl rfl ?_
  have hsl := hs.sli
  have hgs := sli_gs hsl
  refine K0 (K1 ?_)
  refine l_y rfl rfl (y_assign rfl) ?_
  refine l_y rfl rfl (y_assign rfl) ?_
  refine K2 (K3 (K0 (K1 ?_)))
  refine CK [] hO rfl (fun k' hx hr hO' => New_spec (hO := hO')) ?_
  rintro _ _ w ⟨a8, rfl, rfl⟩ hO
  simp only [List.cons_append, List.nil_append] at hO
  refine l_y rfl rfl (y_assign rfl) ?_
  refine K2 (K3 (K0 (K1 ?_)))
  refine CK [] hO rfl (fun k' hx hr hO' => rNew_spec (hO := hO')) ?_
  rintro _ _ w ⟨r9, rfl, rfl⟩ hO
  simp only [List.cons_append, List.nil_append] at hO
  refine l_y rfl rfl (y_assign rfl) ?_
  refine K2 (K3 (K0 (K0 (K1 ?_))))
  refine l_y rfl rfl (y_assign rfl) ?_
  refine K2 (K3 (K4 ?_))
  refine c_rounds (X := Nat × List Node_one × (Int → List Int) × List Ref01_one) (fun x => [(0, .slice p l.length c), (2, .pointer none), (3, .pointer none), (4, .pointer (some ⟨a8, 0, none⟩)), (5, .pointer (some ⟨r9, 0, none⟩)), (6, .int .i64 (x.1 : Int))]) (fun x w => Own k w [arenaL a8 x.2.1, rarL r9 x.2.2.2] ∧ (x.1 ≤ l.length ∧ x.1 ≤ 300) ∧ (WInv x.2.1 x.2.2.1 x.2.2.2 x.1)) (fun x => 300 - x.1) ((0, [docD], fun _ => [], [docR])) ⟨rfl, rfl, rfl, rfl, rfl, rfl, trivial⟩ ⟨hO.only [.o a8, .o r9], ⟨Nat.zero_le _, Nat.zero_le _⟩, WInv.new⟩ ?_
  rintro x w m hm ⟨hO, hi, t⟩
  refine K0 (K0 (K1 ?_))
  refine l_y rfl rfl (y_move rfl) ?_
  refine l_y rfl rfl (y_move rfl) ?_
  refine l_y rfl rfl (y_lenL rfl) ?_
  refine Z0 (fun h4_3 => ?_) (fun h4_3 => ?_)
  · refine l_y rfl rfl (y_move rfl) ?_
    refine l_y rfl rfl (y_move rfl) ?_
    refine Z0 (fun h4_6 => ?_) (fun h4_6 => ?_)
    · refine l_y rfl rfl (y_pick_t rfl rfl) ?_
      refine l_y rfl rfl (y_move rfl) ?_
      refine l_y rfl rfl (y_move rfl) ?_
      refine l_y rfl rfl (y_nePnil rfl rfl rfl) ?_
      refine l_y rfl rfl (y_pick_t rfl rfl) ?_
      refine K2 (K3 (L8 (K5 (K3 (K0 (K4 (K0 (K1 ?_))))))))
      refine l_y rfl rfl (y_move rfl) ?_
      refine l_y rfl rfl (y_move rfl) ?_
      refine l_y rfl rfl (y_idx rfl rfl) ?_
      refine l_y rfl rfl (y_rA (x0 := 0) (enc := Law03_op.cells) (xs := l) (cs := [.int .i64 (at_ l ((x.1 : Int) : Int).toNat).What, .int .i64 (at_ l ((x.1 : Int) : Int).toNat).A, .int .i64 (at_ l ((x.1 : Int) : Int).toNat).B, .int .i64 (at_ l ((x.1 : Int) : Int).toNat).C, .int .i64 (at_ l ((x.1 : Int) : Int).toNat).N, .string (at_ l ((x.1 : Int) : Int).toNat).Text, .slice (at_ l ((x.1 : Int) : Int).toNat).LP (at_ l ((x.1 : Int) : Int).toNat).L.length (at_ l ((x.1 : Int) : Int).toNat).LC]) hO rfl) ?_
      refine s_alloc (vs := [.int .i64 0, .int .i64 0, .int .i64 0, .int .i64 0, .int .i64 0, .string ⟨#[]⟩, .slice none 0 0]) hO rfl rfl rfl fun b7 w hO => ?_
      refine Y3 hO rfl rfl (fun w hO => ?_)
      refine K2 (K3 (K0 ?_))
      have ho := hs.one _ (at_mem (xs := l) (i := ((x.1 : Nat) : Int).toNat) (by omega))
      have hn := t.two.pos
      have hc := t.two.max
      have hcr := t.two.rmax
      obtain ⟨e, he⟩ : ∃ e, e = at_ l ((x.1 : Int)).toNat := ⟨_, rfl⟩
      rw [← he] at ho hO ⊢
      refine K1 ?_
      refine l_y rfl rfl (y_fldb (o' := 0) rfl) ?_
      refine l_y rfl rfl (D5 hO rfl) ?_
      refine K2 (K3 (K4 (K0 (K1 ?_))))
      refine Z0 (fun h10_0 => ?_) (fun h10_0 => ?_)
      · refine l_y rfl rfl (y_assign rfl) ?_
        refine K2 (K3 (L8 (K0 (K1 ?_))))
        refine l_y rfl rfl (y_move rfl) ?_
        refine l_y rfl rfl (y_fldb (o' := 4) rfl) ?_
        refine l_y rfl rfl (D5 hO rfl) ?_
        refine l_y rfl rfl (y_fldb (o' := 5) rfl) ?_
        refine l_y rfl rfl (D5 hO rfl) ?_
        refine l_y rfl rfl (y_fldb (o' := 6) rfl) ?_
        refine l_y rfl rfl (D5 hO rfl) ?_
        refine CK [.o a8] hO rfl (fun k' hx hr hO' => Element_spec hn hc (ho.ext hO hx) (hO := hO')) ?_
        rintro _ _ w ⟨q1, d1, rfl, rfl⟩ hO
        simp only [List.cons_append, List.nil_append] at hO
        refine K2 (K3 (K1 ?_))
        refine l_y rfl rfl (y_move rfl) ?_
        refine l_y rfl rfl (y_fldb (o' := 4) rfl) ?_
        refine l_y rfl rfl (D5 hO rfl) ?_
        refine l_y rfl rfl (y_fldb (o' := 5) rfl) ?_
        refine l_y rfl rfl (D5 hO rfl) ?_
        refine l_y rfl rfl (y_fldb (o' := 6) rfl) ?_
        refine l_y rfl rfl (D5 hO rfl) ?_
        refine CK [.o r9] hO rfl (fun k' hx hr hO' => rElement_spec hcr (ho.ext hO hx) (hO := hO')) ?_
        rintro _ _ w ⟨q2, d2, rfl, rfl⟩ hO
        simp only [List.cons_append, List.nil_append] at hO
        obtain ⟨Kz, tt⟩ := t.el e.N e.Text e.L q1 q2 d1 d2
        refine K2 (K8 (K8 (K3 (K1 ?_))))
        refine l_y rfl rfl (y_move rfl) ?_
        refine l_y rfl rfl (D4) ?_
        refine l_y rfl rfl (y_assign rfl) ?_
        refine K2 ?_
        exact q_next ((x.1 + 1, _, _, _)) ⟨rfl, rfl, rfl, rfl, rfl, rfl, trivial⟩ ⟨hO.only [.o a8, .o r9], (by constructor <;> dsimp only <;> omega), tt⟩ (by dsimp only; omega)
      · refine l_y rfl rfl (y_assign rfl) ?_
        refine K2 (K3 (L9 (K0 (K1 ?_))))
        refine Z0 (fun h13_0 => ?_) (fun h13_0 => ?_)
        · refine l_y rfl rfl (y_assign rfl) ?_
          refine K2 (K3 (L8 (K0 (K1 ?_))))
          refine l_y rfl rfl (y_move rfl) ?_
          refine l_y rfl rfl (y_fldb (o' := 5) rfl) ?_
          refine l_y rfl rfl (D5 hO rfl) ?_
          refine CK [.o a8] hO rfl (fun k' hx hr hO' => Text_spec hn hc (hO := hO')) ?_
          rintro _ _ w ⟨rfl, rfl⟩ hO
          simp only [List.cons_append, List.nil_append] at hO
          refine K2 (K3 (K1 ?_))
          refine l_y rfl rfl (y_move rfl) ?_
          refine l_y rfl rfl (y_fldb (o' := 5) rfl) ?_
          refine l_y rfl rfl (D5 hO rfl) ?_
          refine CK [.o r9] hO rfl (fun k' hx hr hO' => rText_spec hcr (hO := hO')) ?_
          rintro _ _ w ⟨rfl, rfl⟩ hO
          simp only [List.cons_append, List.nil_append] at hO
          obtain ⟨Kz, tt⟩ := t.more [e.Text] (Nat.zero_le _) (simText1 e.Text) ⟨by show (1 : Int) ≤ 2; decide, by show (2 : Int) ≤ 5; decide⟩ (textText1 e.Text)
          refine K2 (K8 (K8 (K3 (K1 ?_))))
          refine l_y rfl rfl (y_move rfl) ?_
          refine l_y rfl rfl (D4) ?_
          refine l_y rfl rfl (y_assign rfl) ?_
          refine K2 ?_
          exact q_next ((x.1 + 1, _, _, _)) ⟨rfl, rfl, rfl, rfl, rfl, rfl, trivial⟩ ⟨hO.only [.o a8, .o r9], (by constructor <;> dsimp only <;> omega), tt⟩ (by dsimp only; omega)
        · refine l_y rfl rfl (y_assign rfl) ?_
          refine K2 (K3 (L9 (K0 (K1 ?_))))
          refine Z0 (fun h16_0 => ?_) (fun h16_0 => ?_)
          · refine l_y rfl rfl (y_assign rfl) ?_
            refine K2 (K3 (L8 (K0 (K1 ?_))))
            refine l_y rfl rfl (y_move rfl) ?_
            refine l_y rfl rfl (y_fldb (o' := 5) rfl) ?_
            refine l_y rfl rfl (D5 hO rfl) ?_
            refine CK [.o a8] hO rfl (fun k' hx hr hO' => Comment_spec hn hc (hO := hO')) ?_
            rintro _ _ w ⟨rfl, rfl⟩ hO
            simp only [List.cons_append, List.nil_append] at hO
            refine K2 (K3 (K1 ?_))
            refine l_y rfl rfl (y_move rfl) ?_
            refine l_y rfl rfl (y_fldb (o' := 5) rfl) ?_
            refine l_y rfl rfl (D5 hO rfl) ?_
            refine CK [.o r9] hO rfl (fun k' hx hr hO' => rComment_spec hcr (hO := hO')) ?_
            rintro _ _ w ⟨rfl, rfl⟩ hO
            simp only [List.cons_append, List.nil_append] at hO
            obtain ⟨Kz, tt⟩ := t.more [e.Text] (Nat.zero_le _) (simComment1 e.Text) ⟨by show (1 : Int) ≤ 3; decide, by show (3 : Int) ≤ 5; decide⟩ (textComment1 e.Text)
            refine K2 (K8 (K8 (K3 (K1 ?_))))
            refine l_y rfl rfl (y_move rfl) ?_
            refine l_y rfl rfl (D4) ?_
            refine l_y rfl rfl (y_assign rfl) ?_
            refine K2 ?_
            exact q_next ((x.1 + 1, _, _, _)) ⟨rfl, rfl, rfl, rfl, rfl, rfl, trivial⟩ ⟨hO.only [.o a8, .o r9], (by constructor <;> dsimp only <;> omega), tt⟩ (by dsimp only; omega)
          · refine l_y rfl rfl (y_assign rfl) ?_
            refine K2 (K3 (L9 (K0 (K1 ?_))))
            refine Z0 (fun h19_0 => ?_) (fun h19_0 => ?_)
            · refine l_y rfl rfl (y_assign rfl) ?_
              refine K2 (K3 (L8 (K0 (K1 ?_))))
              refine l_y rfl rfl (y_move rfl) ?_
              refine l_y rfl rfl (y_fldb (o' := 5) rfl) ?_
              refine l_y rfl rfl (D5 hO rfl) ?_
              refine l_y rfl rfl (y_fldb (o' := 5) rfl) ?_
              refine l_y rfl rfl (D5 hO rfl) ?_
              refine CK [.o a8] hO rfl (fun k' hx hr hO' => Doctype_spec hn hc (hO := hO')) ?_
              rintro _ _ w ⟨rfl, rfl⟩ hO
              simp only [List.cons_append, List.nil_append] at hO
              refine K2 (K3 (K1 ?_))
              refine l_y rfl rfl (y_move rfl) ?_
              refine l_y rfl rfl (y_fldb (o' := 5) rfl) ?_
              refine l_y rfl rfl (D5 hO rfl) ?_
              refine l_y rfl rfl (y_fldb (o' := 5) rfl) ?_
              refine l_y rfl rfl (D5 hO rfl) ?_
              refine CK [.o r9] hO rfl (fun k' hx hr hO' => rDoctype_spec hcr (hO := hO')) ?_
              rintro _ _ w ⟨rfl, rfl⟩ hO
              simp only [List.cons_append, List.nil_append] at hO
              obtain ⟨Kz, tt⟩ := t.more [e.Text, ⟨#[]⟩, e.Text] (Nat.zero_le _) (simDoctype1 e.Text ⟨#[]⟩ e.Text) ⟨by show (1 : Int) ≤ 4; decide, by show (4 : Int) ≤ 5; decide⟩ (textDoctype1 e.Text ⟨#[]⟩ e.Text)
              refine K2 (K8 (K8 (K3 (K1 ?_))))
              refine l_y rfl rfl (y_move rfl) ?_
              refine l_y rfl rfl (D4) ?_
              refine l_y rfl rfl (y_assign rfl) ?_
              refine K2 ?_
              exact q_next ((x.1 + 1, _, _, _)) ⟨rfl, rfl, rfl, rfl, rfl, rfl, trivial⟩ ⟨hO.only [.o a8, .o r9], (by constructor <;> dsimp only <;> omega), tt⟩ (by dsimp only; omega)
            · refine l_y rfl rfl (y_assign rfl) ?_
              refine K2 (K3 (L9 (K0 (K1 ?_))))
              refine Z0 (fun h22_0 => ?_) (fun h22_0 => ?_)
              · refine l_y rfl rfl (y_assign rfl) ?_
                refine K2 (K3 (L8 (K0 (K1 ?_))))
                refine l_y rfl rfl (y_move rfl) ?_
                refine CK [.o a8] hO rfl (fun k' hx hr hO' => Fragment_spec hn hc (hO := hO')) ?_
                rintro _ _ w ⟨rfl, rfl⟩ hO
                simp only [List.cons_append, List.nil_append] at hO
                refine K2 (K3 (K1 ?_))
                refine l_y rfl rfl (y_move rfl) ?_
                refine CK [.o r9] hO rfl (fun k' hx hr hO' => rFragment_spec hcr (hO := hO')) ?_
                rintro _ _ w ⟨rfl, rfl⟩ hO
                simp only [List.cons_append, List.nil_append] at hO
                obtain ⟨Kz, tt⟩ := t.more [] (Nat.zero_le _) simFragment1 ⟨by decide, by decide⟩ (fun _ => textFragment1)
                refine K2 (K8 (K8 (K3 (K1 ?_))))
                refine l_y rfl rfl (y_move rfl) ?_
                refine l_y rfl rfl (D4) ?_
                refine l_y rfl rfl (y_assign rfl) ?_
                refine K2 ?_
                exact q_next ((x.1 + 1, _, _, _)) ⟨rfl, rfl, rfl, rfl, rfl, rfl, trivial⟩ ⟨hO.only [.o a8, .o r9], (by constructor <;> dsimp only <;> omega), tt⟩ (by dsimp only; omega)
              · refine l_y rfl rfl (y_assign rfl) ?_
                refine K2 (K3 (L9 (K0 (K1 ?_))))
                refine Z0 (fun h25_0 => ?_) (fun h25_0 => ?_)
                · refine l_y rfl rfl (y_assign rfl) ?_
                  refine K2 (K3 (L8 (K0 (K1 ?_))))
                  refine l_y rfl rfl (y_move rfl) ?_
                  refine l_y rfl rfl (y_fldb (o' := 1) rfl) ?_
                  refine l_y rfl rfl (D5 hO rfl) ?_
                  refine l_y rfl rfl (y_fldb (o' := 2) rfl) ?_
                  refine l_y rfl rfl (D5 hO rfl) ?_
                  refine l_y rfl rfl (y_fldb (o' := 3) rfl) ?_
                  refine l_y rfl rfl (D5 hO rfl) ?_
                  refine CK [.o a8] hO rfl (fun k' hx hr hO' => LinkC_spec hn t.two.tree.rank t.two.tree.links (hO := hO')) ?_
                  rintro _ _ w ⟨rfl, rfl⟩ hO
                  simp only [List.cons_append, List.nil_append] at hO
                  refine K2 (K3 (K1 ?_))
                  refine l_y rfl rfl (y_move rfl) ?_
                  refine l_y rfl rfl (y_fldb (o' := 1) rfl) ?_
                  refine l_y rfl rfl (D5 hO rfl) ?_
                  refine l_y rfl rfl (y_fldb (o' := 2) rfl) ?_
                  refine l_y rfl rfl (D5 hO rfl) ?_
                  refine l_y rfl rfl (y_fldb (o' := 3) rfl) ?_
                  refine l_y rfl rfl (D5 hO rfl) ?_
                  refine CK [.o r9] hO rfl (fun k' hx hr hO' => rLink_spec t.two.tree t.two.sim hc (hO := hO')) ?_
                  rintro _ _ w ⟨rfl, R9, rfl, s9⟩ hO
                  simp only [List.cons_append, List.nil_append] at hO
                  have tt := (t.link s9).mono (Nat.le_succ _)
                  refine K2 (K8 (K8 (K3 (K1 ?_))))
                  refine l_y rfl rfl (y_move rfl) ?_
                  refine l_y rfl rfl (D4) ?_
                  refine l_y rfl rfl (y_assign rfl) ?_
                  refine K2 ?_
                  exact q_next ((x.1 + 1, _, _, _)) ⟨rfl, rfl, rfl, rfl, rfl, rfl, trivial⟩ ⟨hO.only [.o a8, .o r9], (by constructor <;> dsimp only <;> omega), tt⟩ (by dsimp only; omega)
                · refine l_y rfl rfl (y_assign rfl) ?_
                  refine K2 (K3 (L9 (K0 (K1 ?_))))
                  refine l_y rfl rfl (y_move rfl) ?_
                  refine l_y rfl rfl (y_fldb (o' := 1) rfl) ?_
                  refine l_y rfl rfl (D5 hO rfl) ?_
                  refine CK [.o a8] hO rfl (fun k' hx hr hO' => UnlinkC_spec hn t.two.tree.links (hO := hO')) ?_
                  rintro _ _ w ⟨rfl, rfl⟩ hO
                  simp only [List.cons_append, List.nil_append] at hO
                  refine K2 (K3 (K1 ?_))
                  refine l_y rfl rfl (y_move rfl) ?_
                  refine l_y rfl rfl (y_fldb (o' := 1) rfl) ?_
                  refine l_y rfl rfl (D5 hO rfl) ?_
                  refine CK [.o r9] hO rfl (fun k' hx hr hO' => rUnlink_spec t.two.tree t.two.sim hc (hO := hO')) ?_
                  rintro _ _ w ⟨rfl, R9, rfl, s9⟩ hO
                  simp only [List.cons_append, List.nil_append] at hO
                  have tt := (t.unlink s9).mono (Nat.le_succ _)
                  refine K2 (K8 (K8 (K3 (K1 ?_))))
                  refine l_y rfl rfl (y_move rfl) ?_
                  refine l_y rfl rfl (D4) ?_
                  refine l_y rfl rfl (y_assign rfl) ?_
                  refine K2 ?_
                  exact q_next ((x.1 + 1, _, _, _)) ⟨rfl, rfl, rfl, rfl, rfl, rfl, trivial⟩ ⟨hO.only [.o a8, .o r9], (by constructor <;> dsimp only <;> omega), tt⟩ (by dsimp only; omega)
    · refine l_y rfl rfl (y_pick_t rfl rfl) ?_
      refine l_y rfl rfl (y_move rfl) ?_
      repeat refine M2 ?_
      refine l_y rfl rfl (y_pick_f rfl rfl) ?_
      refine K2 (K3 (L9 (K7 (L1 (L1 (L2 (K3 (K0 (K1 ?_)))))))))
      refine l_y rfl rfl (y_move rfl) ?_
      refine l_y rfl rfl (y_move rfl) ?_
      refine l_y rfl rfl (y_assign rfl) ?_
      refine l_y rfl rfl (y_assign rfl) ?_
      refine K2 (K3 (K6 ?_))
      exact fin2 rfl rfl rfl ⟨_, ⟨_, _, _, _, _, rfl, t.mono hi.2, rfl⟩, hO.only [.o a8, .o r9]⟩
  · refine l_y rfl rfl (y_move rfl) ?_
    repeat refine M2 ?_
    refine l_y rfl rfl (y_pick_f rfl rfl) ?_
    refine l_y rfl rfl (y_move rfl) ?_
    repeat refine M2 ?_
    refine l_y rfl rfl (y_pick_f rfl rfl) ?_
    refine K2 (K3 (L9 (K7 (L1 (L1 (L2 (K3 (K0 (K1 ?_)))))))))
    refine l_y rfl rfl (y_move rfl) ?_
    refine l_y rfl rfl (y_move rfl) ?_
    refine l_y rfl rfl (y_assign rfl) ?_
    refine l_y rfl rfl (y_assign rfl) ?_
    refine K2 (K3 (K6 ?_))
    exact fin2 rfl rfl rfl ⟨_, ⟨_, _, _, _, _, rfl, t.mono hi.2, rfl⟩, hO.only [.o a8, .o r9]⟩
abbrev QOp3 {H : Type} (W : World) : List Value → DataW H → Prop := QSt [QInt .i64, QInt .i64, QInt .i64, QInt .i64, QInt .i64, QStr, QSl W 4 QAttr]
theorem q_op3 {H : Type} {enc : TypeId × Value → H} {W : World} : Reads enc Try.prog W 116 (QOp3 W) := by
  have h : Try.prog.cellsOf 116 = 7 := by kernel_rfl
  letI : Und Try.prog 116 _ := ⟨Try.underlying116⟩
  refine r_st ?_
  rw [h]
  exact .cons (m := 1) rfl (by kernel_rfl) r_int (.cons (m := 1) rfl (by kernel_rfl) r_int (.cons (m := 1) rfl (by kernel_rfl) r_int (.cons (m := 1) rfl (by kernel_rfl) r_int (.cons (m := 1) rfl (by kernel_rfl) r_int (.cons (m := 1) rfl (by kernel_rfl) r_str (.cons (m := 1) rfl (by kernel_rfl) (r_sl (by decide) q_attr) (.nil _)))))))
theorem op_of3 {H : Type} {W : World} {r : List Value} {d : DataW H} (h : QOp3 W r d) : ∃ o : Law03_op, r = Law03_op.cells o ∧ Sli (Ro (all W)) (.slice o.LP o.L.length o.LC) (o.L.map Api_attr.cells) := by
  obtain ⟨ps, rfl, hq⟩ := h
  obtain ⟨c1, cs1, d1, ds1, rfl, rfl, g1, hq⟩ := hq.un
  obtain ⟨c2, cs2, d2, ds2, rfl, rfl, g2, hq⟩ := hq.un
  obtain ⟨c3, cs3, d3, ds3, rfl, rfl, g3, hq⟩ := hq.un
  obtain ⟨c4, cs4, d4, ds4, rfl, rfl, g4, hq⟩ := hq.un
  obtain ⟨c5, cs5, d5, ds5, rfl, rfl, g5, hq⟩ := hq.un
  obtain ⟨c6, cs6, d6, ds6, rfl, rfl, g6, hq⟩ := hq.un
  obtain ⟨c7, cs7, d7, ds7, rfl, rfl, g7, hq⟩ := hq.un
  obtain ⟨rfl, rfl⟩ := hq.un0
  obtain ⟨n1, rfl, rfl, _⟩ := g1
  obtain ⟨n2, rfl, rfl, _⟩ := g2
  obtain ⟨n3, rfl, rfl, _⟩ := g3
  obtain ⟨n4, rfl, rfl, _⟩ := g4
  obtain ⟨n5, rfl, rfl, _⟩ := g5
  obtain ⟨s6, rfl, rfl, _⟩ := g6
  obtain ⟨u, rows', ds', rfl, B⟩ := g7
  obtain ⟨q, cc, rfl, _⟩ := B.shape
  obtain ⟨xs, rfl⟩ := attrs_of fun r hr => by
    obtain ⟨e, _, hq⟩ := B.all r hr
    exact attr_of hq
  have h5 := B.sli
  rw [List.length_map] at h5
  exact ⟨⟨n1, n2, n3, n4, n5, s6, q, xs, cc⟩, by simp [Law03_op.cells], h5⟩
theorem script_of3 {H : Type} {W : World} {p : Option Addr} {c : Nat} {d : DataW H} {rows : List (List Value)} {ds : List (DataW H)} (A : ArgSl (all W) 7 (QOp3 W) (.slice p rows.length c) d rows ds) : ∃ l : List Law03_op, l.length = rows.length ∧ Scr3 (all W) p c l := by
  obtain ⟨l, rfl, hl⟩ := recs_of (enc := Law03_op.cells) (Q := fun o => Sli (Ro (all W)) (.slice o.LP o.L.length o.LC) (o.L.map Api_attr.cells)) (rows := rows) fun r hr => by
    obtain ⟨e, he, hq⟩ := A.all r hr
    exact op_of3 hq
  have h3 := A.sli
  rw [List.length_map] at h3
  exact ⟨l, by simp, h3, hl⟩
end
end Go.Proofs.Ythkmnohghpdjhaa
end
section
set_option linter.unusedVariables false
set_option linter.unusedSimpArgs false
set_option maxRecDepth 100000
namespace Go.Proofs.Ythkmnohghpdjhaa
open Go Go.Hb Go.RowKit
instance (priority := high) AtK.hbldr (b : Nat) (bs : List UInt8) (l : List HP) : AtK (bldr b bs :: l) (.o b) (bldr b bs) l := ⟨.hd _ l⟩
section
variable {k : Ctx} {w : World}
theorem bldr_new {l : List HP} {b : Nat} (hO : Own k w (blk b 76 [.pointer none, .slice none 0 0] :: l)) : Own k w (bldr b [] :: l) :=
  bldr_shut ⟨.inl rfl, by simp, fun a n c e => by cases e⟩ (sl_nil 5 1 hO).swap
def kidI (depth : Int) (c : Int) : Show_item := ⟨c, depth, ⟨#[]⟩⟩
theorem rev_take {l : List Int} {i : Nat} (h : i < l.length) : l.reverse.take (i + 1) = l.reverse.take i ++ [at_ l (l.length - 1 - i)] := by
  rw [take_succ_at (by simpa using h)]
  congr 2
  refine at_eq ?_
  rw [List.getElem?_reverse (by simpa using h), at_get (by omega)]
set_option maxHeartbeats 1000000 in
theorem below_spec {a b2 b10 : Nat} {A : List Node_one} {K : Int → List Int} {xs : List Show_item} {id depth : Int} (t : Tree A K) (hi : InA A id) (hl : A.length ≤ 1000) (hx : xs.length ≤ 10000) (hO : Own k w [blk b2 23 [.pointer (some ⟨a, 0, none⟩)], arenaL a A, pileitem b10 xs]) :
    Tri Try.prog 53 #[.int .i64 id, .int .i64 depth, .pointer (some ⟨b2, 0, none⟩), .pointer (some ⟨b10, 0, none⟩)] k w fun v m => m = [blk b2 23 [.pointer (some ⟨a, 0, none⟩)], arenaL a A, pileitem b10 (xs ++ (K id).reverse.map (kidI depth))] := by
  refine enter (args := [.int .i64 id, .int .i64 depth, .pointer (some ⟨b2, 0, none⟩), .pointer (some ⟨b10, 0, none⟩)]) Try.func53 rfl rfl ?_
  have hkl := t.len hi
  refine K0 (K1 ?_)
  refine l_y rfl rfl (D5 hO rfl) ?_
  refine l_y rfl rfl (y_move rfl) ?_
  refine CK [.o a] hO rfl (fun k' hx hr hO' => KidsT_spec t hi (by omega) hO') ?_
  rintro _ _ w ⟨q, d, rfl, rfl⟩ hO
  simp only [List.cons_append, List.nil_append] at hO
  have hg := (sls_fct (p := q) hO).2
  rw [show xs = xs ++ ((K id).reverse.take 0).map (kidI depth) by simp] at hO
  refine l_y rfl rfl (y_assign rfl) ?_
  refine K2 (K3 (K0 (K1 ?_)))
  refine l_y rfl rfl (y_move rfl) ?_
  refine l_y rfl rfl (y_lenL rfl) ?_
  refine l_y rfl rfl (y_move rfl) ?_
  refine K2 (K3 (K4 ?_))
  refine c_rounds (X := Nat) (fun i => [(1, .int .i64 depth), (3, .pointer (some ⟨b10, 0, none⟩)), (6, .slice q (K id).length d), (12, .int .i64 (((K id).length : Nat) : Int)), (13, .int .i64 (i : Int))]) (fun i w => Own k w [blk b2 23 [.pointer (some ⟨a, 0, none⟩)], arenaL a A, pileitem b10 (xs ++ ((K id).reverse.take i).map (kidI depth)), sls q d 3 1 (eI .i64) (K id)] ∧ (i ≤ (K id).length)) (fun i => (K id).length - i) (0) ⟨rfl, rfl, rfl, rfl, rfl, trivial⟩ ⟨hO.only [.b b2, .o a, .o b10, .p q], Nat.zero_le _⟩ ?_
  rintro i w m hm ⟨hO, hil⟩
  refine K0 (K1 ?_)
  refine Z0 (fun h2_0 => ?_) (fun h2_0 => ?_)
  · refine K2 (K3 (K0 (L8 (K5 (K3 (K0 (K4 (K0 (K1 ?_)))))))))
    refine l_y rfl rfl (y_move rfl) ?_
    refine l_y rfl rfl (y_assign rfl) ?_
    refine K2 (K3 (K1 ?_))
    refine l_y rfl rfl (y_move rfl) ?_
    refine l_y rfl rfl (y_move rfl) ?_
    refine l_y rfl rfl (y_lenL rfl) ?_
    refine l_y rfl rfl (D4) ?_
    refine l_y rfl rfl (y_move rfl) ?_
    refine l_y rfl rfl (D4) ?_
    refine l_y rfl rfl (y_idx rfl rfl) ?_
    refine l_y rfl rfl (y_e1 (x0 := 0) hO rfl) ?_
    refine l_y rfl rfl (y_move rfl) ?_
    refine s_build (parts := [(0, .tmp 23), (1, .tmp 24)]) (cs := [.int .i64 (at_ (K id) ((((((K id).length : Nat) : Int) - 1) - (i : Int)) : Int).toNat), .int .i64 depth, .string ⟨#[]⟩]) rfl rfl (fun a ha => partsOf_sound ha _ _ rfl) (by kernel_rfl) ?_
    refine s_lit (parts := [(0, .tmp 25)]) (enc := Show_item.cells) [⟨(at_ (K id) ((((((K id).length : Nat) : Int) - 1) - (i : Int)) : Int).toNat), depth, ⟨#[]⟩⟩] [.agg [.int .i64 (at_ (K id) ((((((K id).length : Nat) : Int) - 1) - (i : Int)) : Int).toNat), .int .i64 depth, .string ⟨#[]⟩].toArray] hO rfl (fun b26 w hO => ?_)
    refine CK [.o b10] hO rfl (fun k' hx' hr hO' => pushitem_spec (ys := [kidI depth (at_ (K id) ((K id).length - 1 - i))]) (by
        have := sls_roK (p := some ⟨b26, 0, none⟩) hr (sls_fct hO)
        rw [show (((K id).length : Int) - 1 - (i : Int)).toNat = (K id).length - 1 - i by omega] at this
        exact this) (by simp only [List.length_append, List.length_map, List.length_take, List.length_reverse, List.length_cons, List.length_nil]; omega) (hO := hO')) ?_
    rintro _ _ w rfl hO
    simp only [List.cons_append, List.nil_append] at hO
    rw [List.append_assoc, show [kidI depth (at_ (K id) ((K id).length - 1 - i))] = [at_ (K id) ((K id).length - 1 - i)].map (kidI depth) from rfl, ← List.map_append, ← rev_take (show i < (K id).length by omega)] at hO
    refine K2 (K8 (K3 (K1 ?_)))
    refine l_y rfl rfl (D4) ?_
    refine l_y rfl rfl (y_move rfl) ?_
    refine K2 ?_
    exact q_next (i + 1) ⟨rfl, rfl, rfl, rfl, rfl, trivial⟩ ⟨hO.only [.b b2, .o a, .o b10, .p q], by omega⟩ (by omega)
  · refine K2 (K3 (K0 (L9 (K7 (L1 (L1 (L2 ?_)))))))
    have e : i = (K id).length := by omega
    rw [e, List.take_of_length_le (by simp)] at hO
    exact fin0 rfl ⟨_, rfl, hO.only [.b b2, .o a, .o b10]⟩
set_option maxHeartbeats 1000000 in
theorem Show0_spec {a : Nat} {A : List Node_one} {K : Int → List Int} (t : Tree A K) (hl : A.length ≤ 1000) (h0 : InA A 0) (hk : K 0 = []) (hO : Own k w [arenaL a A]) :
    Tri Try.prog 18 #[.pointer (some ⟨a, 0, none⟩), .int .i64 0] k w fun v m => v = .tuple #[.string ⟨#[]⟩, .int .i64 0] ∧ m = [arenaL a A] := by
  refine enter (args := [.pointer (some ⟨a, 0, none⟩), .int .i64 0]) Try.func18 rfl rfl ?_
  refine K0 (K1 ?_)
  refine s_box (vs := [.pointer (some ⟨a, 0, none⟩)]) hO rfl rfl rfl (by rfl) fun b2 w hO => ?_
  refine l_y rfl rfl (y_assign rfl) ?_
  refine l_y rfl rfl (y_assign rfl) ?_
  refine K2 (K3 (K0 (K0 (K1 ?_))))
  refine l_y rfl rfl (D5 hO rfl) ?_
  refine l_y rfl rfl (y_move rfl) ?_
  refine CK [.o a] hO rfl (fun k' hx hr hO' => NodeI_spec h0 t.attrs hO') ?_
  rintro _ _ w ⟨n, hn, rfl, rfl⟩ hO
  simp only [List.cons_append, List.nil_append] at hO
  refine l_y rfl rfl (y_move rfl) ?_
  refine l_y rfl rfl (y_extract rfl rfl) ?_
  refine l_y rfl rfl (y_extract rfl rfl) ?_
  refine s_alloc (vs := [.int .i64 0, .int .i64 0, .string ⟨#[]⟩, .slice none 0 0, .string ⟨#[]⟩, .string ⟨#[]⟩, .int .i64 0, .int .i64 0, .int .i64 0, .int .i64 0, .int .i64 0, .int .i64 0]) hO rfl rfl rfl fun b6 w hO => ?_
  refine Y3 hO rfl rfl (fun w hO => ?_)
  refine l_y rfl rfl (y_assign rfl) ?_
  refine K2 (K3 (K0 (K1 ?_)))
  refine l_y rfl rfl (y_move rfl) ?_
  refine N4 ?_
  refine K2 (K3 (L9 (K5 (K3 (K0 (K1 ?_))))))
  refine s_alloc (vs := [.pointer none, .slice none 0 0]) hO rfl rfl rfl fun b8 w hO => ?_
  refine K2 (K3 (K0 ?_))
  have hO := bldr_new (hO.ks [.b b8])
  refine K1 ?_
  refine l_y rfl rfl (y_makeFunc rfl rfl) ?_
  refine l_y rfl rfl (y_assign rfl) ?_
  refine K2 (K3 (K0 (K1 ?_)))
  refine s_alloc (vs := [.slice none 0 0]) hO rfl rfl rfl fun b10 w hO => ?_
  refine K2 (K3 (K0 ?_))
  have hO := pileitem_shut (xs := []) (hO.ks [.b b10] |> sl_nil 106 3 |> Own.swap)
  refine K1 ?_
  refine l_y rfl rfl (y_makeFunc rfl rfl) ?_
  refine l_y rfl rfl (y_assign rfl) ?_
  refine K2 (K3 (K0 (K1 ?_)))
  refine l_y rfl rfl (y_move rfl) ?_
  refine l_y rfl rfl (y_move rfl) ?_
  refine CKv [.b b2, .o a, .o b10] hO rfl rfl (fun k' hx hr hO' => below_spec (K := K) t h0 hl (by simp) hO') ?_
  rintro _ _ w rfl hO
  simp only [List.cons_append, List.nil_append] at hO
  rw [hk] at hO
  refine K2 (K3 (K0 (K0 (K1 ?_))))
  refine CK [.o b10] hO rfl (fun k' hx hr hO' => popNitem_spec hO') ?_
  rintro _ _ w ⟨rfl, rfl⟩ hO
  simp only [List.cons_append, List.nil_append] at hO
  refine l_y rfl rfl (y_move rfl) ?_
  refine l_y rfl rfl (y_extract rfl rfl) ?_
  refine l_y rfl rfl (y_extract rfl rfl) ?_
  refine s_alloc (vs := [.int .i64 0, .int .i64 0, .string ⟨#[]⟩]) hO rfl rfl rfl fun b12 w hO => ?_
  refine Y3 hO rfl rfl (fun w hO => ?_)
  refine l_y rfl rfl (y_assign rfl) ?_
  refine K2 (K3 (K4 ?_))
  refine c_rounds (X := Unit) (fun u => [(4, .string ⟨#[]⟩), (5, .int .i64 0), (8, .pointer (some ⟨b8, 0, none⟩)), (13, .bool false)]) (fun u w => Own k w [arenaL a A, bldr b8 []] ∧ (True)) (fun u => 0) (()) ⟨rfl, rfl, rfl, rfl, trivial⟩ ⟨hO.only [.o a, .o b8], trivial⟩ ?_
  rintro u w m hm ⟨hO, hT0⟩
  refine K0 (K0 (K1 ?_))
  refine l_y rfl rfl (y_move rfl) ?_
  refine K2 (K3 (L9 (K7 (L1 (L1 (L2 (K3 (K0 (K1 ?_)))))))))
  refine CK [.o b8] hO rfl (fun k' hx hr hO' => String_spec k' _ b8 [] (by simp) hO') ?_
  rintro _ _ w ⟨rfl, rfl⟩ hO
  simp only [List.cons_append, List.nil_append] at hO
  refine l_y rfl rfl (y_assign rfl) ?_
  refine l_y rfl rfl (y_assign rfl) ?_
  refine K2 (K3 (K6 ?_))
  exact fin2 rfl rfl rfl ⟨_, ⟨rfl, rfl⟩, hO.only [.o a]⟩
/-- the arena of the wake-up: the document, and a text -/
theorem wake_tree : Tree ([docD] ++ [blankN (textN ⟨#[120]⟩)]) (addK [docD] fun _ => []) := Tree.new.add _ (Nat.zero_le _)
theorem wake_inn : InnOk ([docD] ++ [blankN (textN ⟨#[120]⟩)]) := InnOk.new.add _
theorem wake_same : sameN ([docD] ++ [blankN (textN ⟨#[120]⟩)]) (addK [docD] fun _ => []) ([docD] ++ [blankN (textN ⟨#[120]⟩)]) (addK [docD] fun _ => []) 1 1 = true := by
  rw [sameN_yes wake_tree wake_inn ⟨rfl, rfl, rfl, rfl, rfl, rfl, rfl, rfl, rfl, Iff.rfl⟩]
  rfl
theorem awake03_spec (hO : Own k w []) : Tri Try.prog 19 #[] k w fun v m => v = .bool true ∧ m = [] := by
  refine enter (args := []) Try.func19 rfl rfl ?_
  refine K0 (K1 ?_)
  refine l_y rfl rfl (y_assign rfl) ?_
  refine K2 (K3 (K0 (K1 ?_)))
  refine CK [] hO rfl (fun k' hx hr hO' => New_spec (hO := hO')) ?_
  rintro _ _ w ⟨a6, rfl, rfl⟩ hO
  simp only [List.cons_append, List.nil_append] at hO
  refine l_y rfl rfl (y_assign rfl) ?_
  refine K2 (K3 (K0 (K0 (K1 ?_))))
  refine l_y rfl rfl (y_move rfl) ?_
  refine l_y rfl rfl (y_eqPnil rfl rfl rfl) ?_
  refine K2 (K3 (L9 (K5 (K3 (K0 (K1 ?_))))))
  refine l_y rfl rfl (y_move rfl) ?_
  refine CK [.o a6] hO rfl (fun k' hx hr hO' => Text_spec (by simp) (by simp) (hO := hO')) ?_
  rintro _ _ w ⟨rfl, rfl⟩ hO
  simp only [List.cons_append, List.nil_append] at hO
  rw [show addL [docD] (textN ⟨#[120]⟩) [⟨#[120]⟩] = (1, 0, [docD] ++ [blankN (textN ⟨#[120]⟩)]) from rfl] at hO ⊢
  refine l_y rfl rfl (y_move rfl) ?_
  refine l_y rfl rfl (y_extract rfl rfl) ?_
  refine l_y rfl rfl (y_extract rfl rfl) ?_
  refine l_y rfl rfl (y_assign rfl) ?_
  refine l_y rfl rfl (y_assign rfl) ?_
  refine K2 (K3 (K0 (K1 ?_)))
  refine l_y rfl rfl (y_move rfl) ?_
  refine CK [.o a6] hO rfl (fun k' hx hr hO' => Show0_spec wake_tree (by simp) ⟨by decide, by simp⟩ rfl hO') ?_
  rintro _ _ w ⟨rfl, rfl⟩ hO
  simp only [List.cons_append, List.nil_append] at hO
  refine l_y rfl rfl (y_move rfl) ?_
  refine l_y rfl rfl (y_extract rfl rfl) ?_
  refine l_y rfl rfl (y_extract rfl rfl) ?_
  refine l_y rfl rfl (y_assign rfl) ?_
  refine l_y rfl rfl (y_assign rfl) ?_
  refine K2 (K3 (K0 (K1 ?_)))
  refine l_y rfl rfl (y_move rfl) ?_
  refine N2 ?_
  refine l_y rfl rfl (y_move rfl) ?_
  refine l_y rfl rfl (y_move rfl) ?_
  refine N6 (hp := (by decide)) ?_
  refine l_y rfl rfl (y_pick_t rfl rfl) ?_
  refine l_y rfl rfl (y_move rfl) ?_
  refine l_y rfl rfl (y_move rfl) ?_
  refine N2 ?_
  refine l_y rfl rfl (y_pick_t rfl rfl) ?_
  refine l_y rfl rfl (y_move rfl) ?_
  refine l_y rfl rfl (y_move rfl) ?_
  refine l_y rfl rfl (y_move rfl) ?_
  refine CK [.o a6] hO rfl (fun k' hx hr hO' => Same1_spec wake_tree wake_inn (by simp) (by simp) hO') ?_
  rintro _ _ w ⟨rfl, rfl⟩ hO
  simp only [List.cons_append, List.nil_append] at hO
  rw [wake_same]
  refine l_y rfl rfl (y_pick_t rfl rfl) ?_
  refine l_y rfl rfl (y_assign rfl) ?_
  refine K2 (K3 (K6 ?_))
  exact fin1 rfl rfl ⟨_, ⟨rfl, rfl⟩, hO.only []⟩
end
end Go.Proofs.Ythkmnohghpdjhaa
end
section
set_option linter.unusedVariables false
set_option linter.unusedSimpArgs false
namespace Go.Proofs.Ythkmnohghpdjhaa
open Go Go.Hb Go.RowKit
def spacesL : List ByteArray := [⟨#[]⟩, ⟨#[109, 97, 116, 104, 32]⟩, ⟨#[115, 118, 103, 32]⟩, ⟨#[120, 108, 105, 110, 107, 32]⟩, ⟨#[120, 109, 108, 32]⟩, ⟨#[120, 109, 108, 110, 115, 32]⟩]
def spaceT (n : Int) : ByteArray := if n < 0 ∨ 6 ≤ n then ⟨#[]⟩ else at_ spacesL n.toNat
theorem spaceT_len (n : Int) : (spaceT n).size ≤ 6 := by
  unfold spaceT
  split
  · exact Nat.zero_le _
  · next h =>
    have h5 : n.toNat < 6 := by omega
    have : ∀ i, i < 6 → (at_ spacesL i).size ≤ 6 := by decide
    exact this _ h5
def idsT (n : Api_node) : List UInt8 := if n.Data = ⟨#[]⟩ ∧ n.System = ⟨#[]⟩ then [] else [32, 34] ++ tl n.Data ++ [34, 32, 34] ++ tl n.System ++ [34]
def headT (n : Api_node) : List UInt8 :=
  if n.Kind = 1 then [60] ++ tl (spaceT n.Space) ++ tl n.Name ++ [62]
  else if n.Kind = 2 then [34] ++ tl n.Data ++ [34]
  else if n.Kind = 3 then [60, 33, 45, 45, 32] ++ tl n.Data ++ [32, 45, 45, 62]
  else [60, 33, 68, 79, 67, 84, 89, 80, 69, 32] ++ tl n.Name ++ idsT n ++ [62]
theorem headT_len {n : Api_node} (h : TextN n) : (headT n).length ≤ 3145760 := by
  have h1 := h.name
  have h2 := h.data
  have h3 := h.system
  have h4 := spaceT_len n.Space
  rw [← tl_len] at h1 h2 h3 h4
  unfold headT idsT
  repeat' split
  all_goals simp only [List.length_append, List.length_cons, List.length_nil]; omega
def lineT (d : Nat) (s : List UInt8) : List UInt8 := [124, 32] ++ Lib.repeatL [32, 32] d ++ s ++ [10]
theorem lineT_len (d : Nat) (s : List UInt8) : (lineT d s).length = 3 + 2 * d + s.length := by
  simp only [lineT, List.length_append, List.length_cons, List.length_nil, Lib.repeatL_length]; omega
/-- an attribute's line, without what stands ahead -/
def shA (y : Api_attr) : List UInt8 := tl (spaceT y.Space) ++ tl y.Name ++ [61, 34] ++ tl y.Value ++ [34]
theorem shA_len {y : Api_attr} (h1 : y.Name.size ≤ 1048576) (h2 : y.Value.size ≤ 1048576) : (shA y).length ≤ 3145760 := by
  have h4 := spaceT_len y.Space
  rw [← tl_len] at h1 h2 h4
  simp only [shA, List.length_append, List.length_cons, List.length_nil]; omega
def shAs (d : Nat) (l : List Api_attr) : List UInt8 := l.flatMap fun y => lineT (d + 1) (shA y)
theorem shAs_len {d : Nat} {l : List Api_attr} (h : ∀ y ∈ l, y.Name.size ≤ 1048576 ∧ y.Value.size ≤ 1048576) : (shAs d l).length ≤ l.length * (3145765 + 2 * d) := by
  induction l with
  | nil => simp [shAs]
  | cons y l ih =>
    have h1 := ih fun z hz => h z (by simp [hz])
    have h2 := shA_len (h y (by simp)).1 (h y (by simp)).2
    rw [show shAs d (y :: l) = lineT (d + 1) (shA y) ++ shAs d l from rfl]
    have h3 : (l.length + 1) * (3145765 + 2 * d) = l.length * (3145765 + 2 * d) + (3145765 + 2 * d) := Nat.succ_mul _ _
    rw [List.length_append, lineT_len, List.length_cons, h3]
    omega
/-- the word for a line of its own -/
def contI (d : Int) : Show_item := ⟨0, d, ⟨#[99, 111, 110, 116, 101, 110, 116]⟩⟩
section
variable (A : List Node_one) (K : Int → List Int) (srt : List Api_attr → List Api_attr)
/-- what is written of one thing -/
def txtI (x : Show_item) : List UInt8 :=
  if x.line ≠ ⟨#[]⟩ then lineT x.depth.toNat (tl x.line)
  else lineT x.depth.toNat (headT (nodeA A x.id)) ++ shAs x.depth.toNat (srt (nodeA A x.id).Attrs)
def innI (x : Show_item) : List Show_item := if (nodeA A x.id).Inner = -1 then [] else contI (x.depth + 1) :: (K (nodeA A x.id).Inner).map (kidI (x.depth + 2))
/-- what comes next behind it, the next ahead -/
def nextI (x : Show_item) : List Show_item := if x.line ≠ ⟨#[]⟩ then [] else innI A K x ++ (K x.id).map (kidI (x.depth + 1))
/-- what is written of a pile, the next thing ahead -/
def showF : Nat → List Show_item → List UInt8
  | 0, _ => []
  | _ + 1, [] => []
  | f + 1, x :: l => txtI A srt x ++ showF f (nextI A K x ++ l)
noncomputable def wI (x : Show_item) : Nat := if x.line ≠ ⟨#[]⟩ then 1 else 2 * cnt A x.id
noncomputable def wL (l : List Show_item) : Nat := (l.map (wI A)).sum
end
theorem showF_nil {A : List Node_one} {K : Int → List Int} {srt : List Api_attr → List Api_attr} : ∀ f, showF A K srt f [] = []
  | 0 => rfl
  | _ + 1 => rfl
def okI (A : List Node_one) (x : Show_item) : Prop := x.line = ⟨#[]⟩ → InA A x.id
theorem wL_app {A : List Node_one} {l m : List Show_item} : wL A (l ++ m) = wL A l + wL A m := by simp [wL]
theorem wL_cons {A : List Node_one} {x : Show_item} {l : List Show_item} : wL A (x :: l) = wI A x + wL A l := by simp [wL]
theorem wL_kids {A : List Node_one} {d : Int} {l : List Int} : wL A (l.map (kidI d)) = 2 * (l.map (cnt A)).sum := by
  induction l with
  | nil => rfl
  | cons c l ih =>
    rw [List.map_cons, wL_cons, ih, List.map_cons, List.sum_cons, wI, if_neg (by simp [kidI])]
    show 2 * cnt A c + _ = _
    omega
theorem wI_pos {A : List Node_one} {x : Show_item} (h : okI A x) : 0 < wI A x := by
  unfold wI
  split
  · exact Nat.one_pos
  · next e => have := cnt_pos (h (by simpa using e)); omega
theorem wL_len {A : List Node_one} {l : List Show_item} (h : ∀ x ∈ l, okI A x) : l.length ≤ wL A l := by
  induction l with
  | nil => exact Nat.zero_le _
  | cons x l ih =>
    have h1 := wI_pos (h x (by simp))
    have h2 := ih fun y hy => h y (by simp [hy])
    rw [wL_cons, List.length_cons]; omega
theorem next_w {A : List Node_one} {K : Int → List Int} (t : Tree A K) (g : InnOk A) {x : Show_item} (h : okI A x) : wL A (nextI A K x) + 1 ≤ wI A x := by
  unfold nextI wI
  split
  · show 0 + 1 ≤ 1; exact Nat.le_refl _
  · next e =>
    have hx := h (by simpa using e)
    rw [wL_app, wL_kids]
    unfold innI
    split
    · have := kids_cnt t hx
      show 0 + _ + 1 ≤ _
      omega
    · next hi =>
      have h1 := inner_cnt t g hx hi
      have h2 := kids_cnt t (inner_up t g hx hi).1
      rw [wL_cons, wL_kids]
      have h3 : wI A (contI (x.depth + 1)) = 1 := by rw [wI, if_pos (by simp [contI])]
      rw [h3]
      omega
theorem next_ok {A : List Node_one} {K : Int → List Int} (t : Tree A K) (g : InnOk A) {x : Show_item} (h : okI A x) : ∀ y ∈ nextI A K x, okI A y ∧ (y.depth = x.depth + 1 ∨ y.depth = x.depth + 2) := by
  intro y hy
  unfold nextI at hy
  split at hy
  · simp at hy
  · next e =>
    have hx := h (by simpa using e)
    rcases List.mem_append.1 hy with hy | hy
    · unfold innI at hy
      split at hy
      · simp at hy
      · next hi =>
        rcases List.mem_cons.1 hy with rfl | hy
        · exact ⟨fun e => by simp [contI] at e, .inl rfl⟩
        · obtain ⟨c, hc, rfl⟩ := List.mem_map.1 hy
          exact ⟨fun _ => (kid_up t (inner_up t g hx hi).1 hc).1, .inr rfl⟩
    · obtain ⟨c, hc, rfl⟩ := List.mem_map.1 hy
      exact ⟨fun _ => (kid_up t hx hc).1, .inl rfl⟩
theorem next_line {A : List Node_one} {K : Int → List Int} {x y : Show_item} (hy : y ∈ nextI A K x) : y.line.size ≤ 7 := by
  unfold nextI innI at hy
  split at hy
  · simp at hy
  · split at hy
    · rw [List.nil_append] at hy
      obtain ⟨c, _, rfl⟩ := List.mem_map.1 hy
      exact Nat.zero_le _
    · rcases List.mem_append.1 hy with hy | hy
      · rcases List.mem_cons.1 hy with rfl | hy
        · exact Nat.le_refl _
        · obtain ⟨c, _, rfl⟩ := List.mem_map.1 hy
          exact Nat.zero_le _
      · obtain ⟨c, _, rfl⟩ := List.mem_map.1 hy
        exact Nat.zero_le _
def CS : Nat := 3300000000
/-- how long one thing's lines are -/
theorem txtI_len {A : List Node_one} {srt : List Api_attr → List Api_attr} (hT : TextOk A) (ha : AttrsOk A) (hs : ∀ x, InA A x → (srt (nodeA A x).Attrs).Perm (nodeA A x).Attrs) {x : Show_item} (h : okI A x) (hd : x.depth ≤ 10000) (hl : x.line.size ≤ 7) : (txtI A srt x).length ≤ CS := by
  unfold txtI CS
  split
  · rw [lineT_len, tl_len]; omega
  · next e =>
    have hx := h (by simpa using e)
    have h1 := headT_len (hT _ hx)
    have h2 := shAs_len (d := x.depth.toNat) (l := srt (nodeA A x.id).Attrs) fun y hy => by
      have hm := (hs _ hx).mem_iff.1 hy
      have := (hT _ hx).attrs
      exact ⟨long_mem this (by simp only [attrTexts, List.mem_flatMap]; exact ⟨y, hm, by simp⟩), long_mem this (by simp only [attrTexts, List.mem_flatMap]; exact ⟨y, hm, by simp⟩)⟩
    rw [(hs _ hx).length_eq] at h2
    have h3 := ha x.id.toNat (by have := hx.1; have := hx.2; omega)
    have h4 : (nodeA A x.id).Attrs.length * (3145765 + 2 * x.depth.toNat) ≤ 1024 * (3145765 + 2 * 10000) := Nat.mul_le_mul h3 (by omega)
    rw [List.length_append, lineT_len]
    omega
/-- what is known of the loop: the pile, its last next; n rounds at most to come -/
structure ShI (A : List Node_one) (K : Int → List Int) (srt : List Api_attr → List Api_attr) (T : List UInt8) (N : Nat) (ok : Bool) (c : Show_item) (xs : List Show_item) (n : Nat) (bs : List UInt8) : Prop where
  txt : T = bs ++ showF A K srt n ((if ok = true then [c] else []) ++ xs.reverse)
  off : ok = false → xs = []
  sum : (if ok = true then wI A c else 0) + wL A xs ≤ n
  max : n ≤ N
  all : ∀ x ∈ xs, okI A x ∧ 0 ≤ x.depth ∧ x.depth + 2 * (n : Int) ≤ 2 * (N : Int) ∧ x.line.size ≤ 7
  cur : ok = true → okI A c ∧ 0 ≤ c.depth ∧ c.depth + 2 * (n : Int) ≤ 2 * (N : Int) ∧ c.line.size ≤ 7
  len : bs.length + n * CS ≤ N * CS
theorem wL_rev {A : List Node_one} {l : List Show_item} : wL A l.reverse = wL A l := by
  induction l with
  | nil => rfl
  | cons x l ih => rw [List.reverse_cons, wL_app, ih, wL_cons, wL_cons]; show _ + (wI A x + 0) = _; omega
/-- a pile's pop, both ways -/
def Popped (ok : Bool) (c : Show_item) (l xs : List Show_item) : Prop := ok = true ∧ l = xs ++ [c] ∨ ok = false ∧ l = [] ∧ xs = []
theorem Popped.stk {ok : Bool} {c : Show_item} {l xs : List Show_item} (h : Popped ok c l xs) : (if ok = true then [c] else []) ++ xs.reverse = l.reverse := by
  rcases h with ⟨rfl, rfl⟩ | ⟨rfl, rfl, rfl⟩
  · rw [if_pos rfl, List.reverse_append]; rfl
  · rfl
theorem Popped.sum {A : List Node_one} {ok : Bool} {c : Show_item} {l xs : List Show_item} (h : Popped ok c l xs) : (if ok = true then wI A c else 0) + wL A xs = wL A l := by
  rcases h with ⟨rfl, rfl⟩ | ⟨rfl, rfl, rfl⟩
  · rw [if_pos rfl, wL_app, wL_cons]; show _ = _ + (_ + 0); omega
  · rfl
theorem Popped.off {ok : Bool} {c : Show_item} {l xs : List Show_item} (h : Popped ok c l xs) (e : ok = false) : xs = [] := by
  rcases h with ⟨rfl, _⟩ | ⟨_, _, h⟩
  · cases e
  · exact h
theorem Popped.mem {ok : Bool} {c : Show_item} {l xs : List Show_item} (h : Popped ok c l xs) {P : Show_item → Prop} (hp : ∀ x ∈ l, P x) : (∀ x ∈ xs, P x) ∧ (ok = true → P c) := by
  rcases h with ⟨rfl, rfl⟩ | ⟨rfl, rfl, rfl⟩
  · exact ⟨fun x hx => hp x (by simp [hx]), fun _ => hp c (by simp)⟩
  · exact ⟨fun x hx => by simp at hx, fun e => by cases e⟩
theorem ShI.start {A : List Node_one} {K : Int → List Int} {srt : List Api_attr → List Api_attr} (t : Tree A K) {id : Int} (hx : InA A id) {ok : Bool} {c : Show_item} {xs : List Show_item} (h : Popped ok c ((K id).reverse.map (kidI 0)) xs) :
    ShI A K srt (showF A K srt (2 * A.length) ((K id).map (kidI 0))) (2 * A.length) ok c xs (2 * A.length) [] := by
  have h1 := kids_cnt t hx
  have h2 := cnt_le (A := A) (x := id)
  have e : ((K id).reverse.map (kidI 0)).reverse = (K id).map (kidI 0) := by rw [List.map_reverse, List.reverse_reverse]
  have hw : wL A ((K id).reverse.map (kidI 0)) = 2 * ((K id).map (cnt A)).sum := by rw [← wL_rev, e, wL_kids]
  obtain ⟨m1, m2⟩ := h.mem (P := fun x => okI A x ∧ 0 ≤ x.depth ∧ x.depth + 2 * ((2 * A.length : Nat) : Int) ≤ 2 * ((2 * A.length : Nat) : Int) ∧ x.line.size ≤ 7) fun x hm => by
    obtain ⟨c, hc, rfl⟩ := List.mem_map.1 hm
    exact ⟨fun _ => (kid_up t hx (List.mem_reverse.1 hc)).1, Int.le_refl _, by show (0 : Int) + _ ≤ _; omega, Nat.zero_le _⟩
  exact ⟨by rw [h.stk, e]; rfl, h.off, by rw [h.sum, hw]; omega, Nat.le_refl _, m1, m2, by show 0 + _ ≤ _; omega⟩
theorem ShI.next {A : List Node_one} {K : Int → List Int} {srt : List Api_attr → List Api_attr} (t : Tree A K) (g : InnOk A) (hT : TextOk A) (hs : ∀ x, InA A x → (srt (nodeA A x).Attrs).Perm (nodeA A x).Attrs) {T : List UInt8} {N n : Nat} (hN : N ≤ 4000) {c : Show_item} {xs : List Show_item} {bs : List UInt8} (s : ShI A K srt T N true c xs n bs) {ok : Bool} {c' : Show_item} {xs' : List Show_item}
    (h : Popped ok c' (xs ++ (nextI A K c).reverse) xs') : ShI A K srt T N ok c' xs' (n - 1) (bs ++ txtI A srt c) ∧ n - 1 < n := by
  obtain ⟨c1, c2, c3, c4⟩ := s.cur rfl
  have h1 := next_w t g c1
  have h2 := s.sum
  rw [if_pos rfl] at h2
  obtain ⟨m, rfl⟩ : ∃ m, n = m + 1 := ⟨n - 1, by omega⟩
  have hm := s.max
  have hl := txtI_len hT t.attrs hs c1 (by omega) c4
  have h3 := s.len
  rw [Nat.succ_mul] at h3
  have e : (xs ++ (nextI A K c).reverse).reverse = nextI A K c ++ xs.reverse := by simp
  obtain ⟨m1, m2⟩ := h.mem (P := fun x => okI A x ∧ 0 ≤ x.depth ∧ x.depth + 2 * (m : Int) ≤ 2 * (N : Int) ∧ x.line.size ≤ 7) fun x hx => by
    rcases List.mem_append.1 hx with hx | hx
    · obtain ⟨a1, a2, a3, a4⟩ := s.all x hx
      exact ⟨a1, a2, by omega, a4⟩
    · have hx := List.mem_reverse.1 hx
      obtain ⟨b1, b2⟩ := next_ok t g c1 x hx
      exact ⟨b1, by omega, by omega, next_line hx⟩
  refine ⟨⟨?_, h.off, ?_, by omega, m1, m2, ?_⟩, by omega⟩
  · rw [h.stk, e, s.txt, if_pos rfl, List.append_assoc]; rfl
  · rw [h.sum, wL_app, wL_rev, Nat.add_sub_cancel]; omega
  · rw [List.length_append, Nat.add_sub_cancel]; omega
/-- the loop's end -/
theorem ShI.done {A : List Node_one} {K : Int → List Int} {srt : List Api_attr → List Api_attr} {T : List UInt8} {N n : Nat} {c : Show_item} {xs : List Show_item} {bs : List UInt8} (s : ShI A K srt T N false c xs n bs) : bs = T := by
  rw [s.txt, s.off rfl, if_neg (by simp)]
  show bs = bs ++ showF A K srt n []
  rw [showF_nil, List.append_nil]
end Go.Proofs.Ythkmnohghpdjhaa
end
section
set_option linter.unusedVariables false
namespace Go.Proofs
open Go.Shelf
def Try.lays105_ren : Go.Shelf.Ren := ⟨fun | 105 => 52 | 212 => 82 | 99 => 83 | 165 => 84 | 166 => 38 | 170 => 85 | 169 => 36 | 263 => 96 | 264 => 97 | 206 => 98 | 240 => 73 | 241 => 99 | 276 => 92 | 277 => 104 | n => n, fun | 9 => 9 | 3 => 3 | 4 => 4 | 20 => 20 | 0 => 0 | 46 => 144 | 109 => 145 | 5 => 5 | 72 => 76 | 76 => 83 | 51 => 160 | 146 => 161 | 53 => 163 | 148 => 164 | 70 => 74 | 37 => 22 | 75 => 82 | 127 => 137 | 164 => 158 | 80 => 80 | n => n, fun | n => n⟩
theorem Try.lays105 : Go.Proofs.Lays.n105 Try.prog Try.lays105_ren := {
  mixed := by kernel_rfl
  f99 := Try.func83.trans (congrArg some (by kernel_rfl))
  f105 := Try.func52.trans (congrArg some (by kernel_rfl))
  f165 := Try.func84.trans (congrArg some (by kernel_rfl))
  f166 := Try.func38.trans (congrArg some (by kernel_rfl))
  f169 := Try.func36.trans (congrArg some (by kernel_rfl))
  f170 := Try.func85.trans (congrArg some (by kernel_rfl))
  f206 := Try.func98.trans (congrArg some (by kernel_rfl))
  f212 := Try.func82.trans (congrArg some (by kernel_rfl))
  f240 := Try.func73.trans (congrArg some (by kernel_rfl))
  f241 := Try.func99.trans (congrArg some (by kernel_rfl))
  f263 := Try.func96.trans (congrArg some (by kernel_rfl))
  f264 := Try.func97.trans (congrArg some (by kernel_rfl))
  f276 := Try.func92.trans (congrArg some (by kernel_rfl))
  f277 := Try.func104.trans (congrArg some (by kernel_rfl))
  t0 := Try.underlying0
  a0 := Try.isAgg0
  z0 := Try.sizeOf0
  v0 := Try.zeroValue0
  t3 := Try.underlying3
  a3 := Try.isAgg3
  z3 := Try.sizeOf3
  v3 := Try.zeroValue3
  t4 := Try.underlying4
  a4 := Try.isAgg4
  z4 := Try.sizeOf4
  v4 := Try.zeroValue4
  t5 := Try.underlying5
  a5 := Try.isAgg5
  z5 := Try.sizeOf5
  v5 := Try.zeroValue5
  t9 := Try.underlying9
  a9 := Try.isAgg9
  z9 := Try.sizeOf9
  v9 := Try.zeroValue9
  t20 := Try.underlying20
  a20 := Try.isAgg20
  z20 := Try.sizeOf20
  v20 := Try.zeroValue20
  t37 := Try.underlying22
  a37 := Try.isAgg22
  z37 := Try.sizeOf22
  v37 := Try.zeroValue22
  t46 := Try.underlying144
  a46 := Try.isAgg144
  z46 := Try.sizeOf144
  v46 := Try.zeroValue144
  t51 := Try.underlying160
  a51 := Try.isAgg160
  z51 := Try.sizeOf160
  v51 := Try.zeroValue160
  t53 := Try.underlying163
  a53 := Try.isAgg163
  z53 := Try.sizeOf163
  v53 := Try.zeroValue163
  t70 := Try.underlying74
  a70 := Try.isAgg74
  z70 := Try.sizeOf74
  v70 := Try.zeroValue74
  t72 := Try.underlying76
  a72 := Try.isAgg76
  z72 := Try.sizeOf76
  v72 := Try.zeroValue76
  t75 := Try.underlying82
  a75 := Try.isAgg82
  z75 := Try.sizeOf82
  v75 := Try.zeroValue82
  t76 := Try.underlying83
  a76 := Try.isAgg83
  z76 := Try.sizeOf83
  v76 := Try.zeroValue83
  t109 := Try.underlying145
  a109 := Try.isAgg145
  z109 := Try.sizeOf145
  v109 := Try.zeroValue145
  t127 := Try.underlying137
  a127 := Try.isAgg137
  z127 := Try.sizeOf137
  v127 := Try.zeroValue137
  t146 := Try.underlying161
  a146 := Try.isAgg161
  z146 := Try.sizeOf161
  v146 := Try.zeroValue161
  t148 := Try.underlying164
  a148 := Try.isAgg164
  z148 := Try.sizeOf164
  v148 := Try.zeroValue164
  t164 := Try.underlying158
  a164 := Try.isAgg158
  z164 := Try.sizeOf158
  v164 := Try.zeroValue158 }
theorem Try.Builder_Extra_105 : Builder.Extra Try.prog Try.lays105_ren := {
  sizeBuilder := by kernel_rfl
  liesBuilder := by kernel_rfl
  t5 := Try.underlying5
  a5 := Try.isAgg5
  z5 := Try.sizeOf5
  v5 := Try.zeroValue5
  infoByte := by kernel_rfl
  cellsByte := by kernel_rfl
  sizeByte := by kernel_rfl
  neB5 := by decide }
open Go.RowKit Go.Lib in
/-- strings.Repeat (laid by the shelf's tool) -/
theorem Try.strings_Repeat (s : ByteArray) (c : Nat) (w : World) (hc : c ≤ 9223372036854775807) (hlen : s.size * c ≤ 140737488355328) :
    Calls Try.prog 52 #[.string s, .int .i64 c] w fun e w' => e = .returned (.string ⟨(Lib.repeatL s.data.toList c).toArray⟩) ∧ Below w.heap.size w w' := Any.strings_Repeat Try.lays105 Try.Builder_Extra_105 s c w hc hlen
end Go.Proofs
namespace Go.Proofs.Ythkmnohghpdjhaa
open Go Go.Hb Go.RowKit
theorem Own.belowTo {k : Ctx} {w w' : World} (hO : Own k w []) (h : Below w.heap.size w w') : Own k w' [] := by
  obtain ⟨hb, _⟩ := hO
  obtain ⟨b1, b2, b3, b4, b5⟩ := h
  exact ⟨⟨b2.trans hb.tape, b1.trans hb.os, b3.trans hb.output, Nat.le_trans hb.size b4, hb.lt, fun b hS => (b5 b (Nat.lt_of_lt_of_le (hb.lt b hS) hb.size)).trans (hb.same b hS)⟩, fun _ => none, (fun _ _ e => (by cases e)), trivial⟩
theorem Repeat_spec {k : Ctx} {w : World} {d : Nat} (hd : d ≤ 1000000) (hO : Own k w []) : Tri Try.prog 52 #[.string ⟨#[32, 32]⟩, .int .i64 (d : Int)] k w fun v m => v = .string (ba (Lib.repeatL [32, 32] d)) ∧ m = [] := by
  have e : (⟨#[32, 32]⟩ : ByteArray).size = 2 := rfl
  exact (Try.strings_Repeat ⟨#[32, 32]⟩ d w (by omega) (by rw [e]; omega)).mono fun x w' ⟨h1, h2⟩ => ⟨_, h1, [], ⟨rfl, rfl⟩, Own.belowTo hO h2⟩
end Go.Proofs.Ythkmnohghpdjhaa
end
section
set_option linter.unusedVariables false
set_option linter.unusedSimpArgs false
set_option maxRecDepth 100000
namespace Go.Proofs.Ythkmnohghpdjhaa
open Go Go.Hb Go.RowKit
section
variable {P : Program} {n : Nat} {ds : List Deferred} {E : Env} {w : World} {d : Option Tmp} {ty : TypeId} {pos : String} {aft : Array Edge} {g : Option (Nat × Bool)}
/-- an element of an array of texts that is a value -/
theorem y_idxS {t e : TypeId} {m : Nat} [hu : Und P t (.array m e)] [hl : Lay P e false 1] (xs : List ByteArray) {x y : Operand} {i : Int} {kd : IntKind} {vs : Array Value} (hx : ev E x = some (.agg vs)) (hy : ev E y = some (.int kd i)) (hv : vs = (xs.map Value.string).toArray) (hm : m = xs.length) (h0 : 0 ≤ i) (h1 : i < m) :
    Yld P n ds E w ⟨d, .index t x y, ty, pos, aft, g⟩ (.string (at_ xs i.toNat)) := by
  subst hv
  have hi : i.toNat < xs.length := by omega
  refine ⟨fun c hc => ?_⟩
  have h3 : (xs.map Value.string).toArray[i.toNat]? = some (.string (at_ xs i.toNat)) := by
    rw [List.getElem?_toArray, List.getElem?_map, at_get hi]; rfl
  simp only [execOp, hc.eval hx, hc.eval hy, Instr.index, asIntOf, Sem.run_bind, Sem.run_pure, Result.andThen, run_underlying hu.eq, part, hl.isAgg, hl.size, h0, h1, and_self, if_true, Sem.run, h3, Nat.mul_one]
  simp [h3]
end
section
variable {k : Ctx} {w : World}
theorem spaces_spec (hO : Own k w []) : Tri Try.prog 89 #[] k w fun v m => v = .agg (spacesL.map Value.string).toArray ∧ m = [] := by
  refine enter (args := []) Try.func89 rfl rfl ?_
  refine K0 (K1 ?_)
  refine s_alloc (vs := [.string ⟨#[]⟩, .string ⟨#[]⟩, .string ⟨#[]⟩, .string ⟨#[]⟩, .string ⟨#[]⟩, .string ⟨#[]⟩]) hO rfl rfl rfl fun b0 w hO => ?_
  refine K2 (K3 (K0 (K1 ?_)))
  refine s_build (parts := [(0, .const (.string ⟨#[]⟩)), (1, .const (.string ⟨#[109, 97, 116, 104, 32]⟩)), (2, .const (.string ⟨#[115, 118, 103, 32]⟩)), (3, .const (.string ⟨#[120, 108, 105, 110, 107, 32]⟩)), (4, .const (.string ⟨#[120, 109, 108, 32]⟩)), (5, .const (.string ⟨#[120, 109, 108, 110, 115, 32]⟩))]) (cs := [.string ⟨#[]⟩, .string ⟨#[109, 97, 116, 104, 32]⟩, .string ⟨#[115, 118, 103, 32]⟩, .string ⟨#[120, 108, 105, 110, 107, 32]⟩, .string ⟨#[120, 109, 108, 32]⟩, .string ⟨#[120, 109, 108, 110, 115, 32]⟩]) rfl rfl (fun a ha => partsOf_sound ha _ _ rfl) (by kernel_rfl) ?_
  refine Y3 hO rfl rfl (fun w hO => ?_)
  refine K2 (K3 (K6 ?_))
  exact finC hO rfl rfl ⟨_, ⟨rfl, rfl⟩, hO.only []⟩
theorem space_spec {i : Int} (hO : Own k w []) : Tri Try.prog 61 #[.int .i64 i] k w fun v m => v = .string (spaceT i) ∧ m = [] := by
  refine enter (args := [.int .i64 i]) Try.func61 rfl rfl ?_
  refine K0 (K1 ?_)
  refine l_y rfl rfl (y_assign rfl) ?_
  refine K2 (K3 (K0 (K0 (K1 ?_))))
  refine l_y rfl rfl (y_move rfl) ?_
  refine Z0 (fun h1_1 => ?_) (fun h1_1 => ?_)
  · refine l_y rfl rfl (y_move rfl) ?_
    repeat refine M2 ?_
    refine l_y rfl rfl (y_pick_t rfl rfl) ?_
    refine K2 (K3 (L8 (K0 (K1 ?_))))
    refine l_y rfl rfl (y_assign rfl) ?_
    refine K2 (K3 (K6 (K9 ?_)))
    exact fin1 rfl rfl ⟨_, ⟨by rw [spaceT, if_pos (by omega)], rfl⟩, hO⟩
  · refine l_y rfl rfl (y_move rfl) ?_
    refine l_y rfl rfl (y_move rfl) ?_
    refine CK [] hO rfl (fun k' hx hr hO' => spaces_spec (hO := hO')) ?_
    rintro _ _ w ⟨rfl, rfl⟩ hO
    simp only [List.cons_append, List.nil_append] at hO
    refine l_y rfl rfl (y_move rfl) ?_
    refine Z0 (fun h1_6 => ?_) (fun h1_6 => ?_)
    · refine l_y rfl rfl (y_pick_f rfl rfl) ?_
      refine K2 (K3 (L8 (K0 (K1 ?_))))
      refine l_y rfl rfl (y_assign rfl) ?_
      refine K2 (K3 (K6 (K9 ?_)))
      exact fin1 rfl rfl ⟨_, ⟨by rw [spaceT, if_pos (by omega)], rfl⟩, hO⟩
    · refine l_y rfl rfl (y_pick_f rfl rfl) ?_
      refine K2 (K3 (L9 (K5 (K3 (K0 (K1 ?_))))))
      refine CK [] hO rfl (fun k' hx hr hO' => spaces_spec (hO := hO')) ?_
      rintro _ _ w ⟨rfl, rfl⟩ hO
      simp only [List.cons_append, List.nil_append] at hO
      refine l_y rfl rfl (y_move rfl) ?_
      refine l_y rfl rfl (y_idxS spacesL rfl rfl rfl rfl (by omega) (by show i < 6; omega)) ?_
      refine l_y rfl rfl (y_assign rfl) ?_
      refine K2 (K3 (K6 ?_))
      exact fin1 rfl rfl ⟨_, ⟨by rw [spaceT, if_neg (by omega)], rfl⟩, hO⟩
theorem put3_spec {b2 : Nat} {bs : List UInt8} {d : Nat} {s : ByteArray} (hd : d ≤ 1000000) (hs : bs.length + 2 * d + s.size + 3 ≤ 35184372088832) (hO : Own k w [bldr b2 bs]) :
    Tri Try.prog 51 #[.int .i64 (d : Int), .string s, .pointer (some ⟨b2, 0, none⟩)] k w fun v m => m = [bldr b2 (bs ++ lineT d (tl s))] := by
  refine enter (args := [.int .i64 (d : Int), .string s, .pointer (some ⟨b2, 0, none⟩)]) Try.func51 rfl rfl ?_
  have hrl : (ba (Lib.repeatL [32, 32] d)).size = d * 2 := by rw [ba_size, Lib.repeatL_length]; rfl
  have hsl := tl_len s
  refine K0 (K1 ?_)
  refine CK [.o b2] hO rfl (fun k' hx hr hO' => WriteString_spec k' _ b2 bs ⟨#[124, 32]⟩ (by show bs.length + 2 ≤ _; omega) hO') ?_
  rintro _ _ w ⟨rfl, rfl⟩ hO
  simp only [List.cons_append, List.nil_append] at hO
  refine K2 (K3 (K0 (K1 ?_)))
  refine l_y rfl rfl (y_move rfl) ?_
  refine CK [] hO rfl (fun k' hx hr hO' => Repeat_spec hd hO') ?_
  rintro _ _ w ⟨rfl, rfl⟩ hO
  simp only [List.cons_append, List.nil_append] at hO
  refine CK [.o b2] hO rfl (fun k' hx hr hO' => WriteString_spec k' _ b2 _ (ba (Lib.repeatL [32, 32] d)) (by rw [hrl, List.length_append]; show bs.length + 2 + _ ≤ _; omega) hO') ?_
  rintro _ _ w ⟨rfl, rfl⟩ hO
  simp only [List.cons_append, List.nil_append] at hO
  refine K2 (K3 (K0 (K1 ?_)))
  refine l_y rfl rfl (y_move rfl) ?_
  refine CK [.o b2] hO rfl (fun k' hx hr hO' => WriteString_spec k' _ b2 _ s (by rw [List.length_append, List.length_append]; show bs.length + 2 + (ba (Lib.repeatL [32, 32] d)).size + _ ≤ _; omega) hO') ?_
  rintro _ _ w ⟨rfl, rfl⟩ hO
  simp only [List.cons_append, List.nil_append] at hO
  refine K2 (K3 (K1 ?_))
  refine CK [.o b2] hO rfl (fun k' hx hr hO' => WriteString_spec k' _ b2 _ ⟨#[10]⟩ (by rw [List.length_append, List.length_append, List.length_append]; show bs.length + 2 + (ba (Lib.repeatL [32, 32] d)).size + s.size + 1 ≤ _; omega) hO') ?_
  rintro _ _ w ⟨rfl, rfl⟩ hO
  simp only [List.cons_append, List.nil_append] at hO
  refine K2 ?_
  refine fin0 rfl ⟨_, rfl, ?_⟩
  have e : bs ++ (⟨#[124, 32]⟩ : ByteArray).data.toList ++ (ba (Lib.repeatL [32, 32] d)).data.toList ++ s.data.toList ++ (⟨#[10]⟩ : ByteArray).data.toList = bs ++ lineT d (tl s) := by
    rw [show (ba (Lib.repeatL [32, 32] d)).data.toList = Lib.repeatL [32, 32] d from tl_ba _, lineT]
    simp only [List.append_assoc]
  rw [e] at hO
  exact hO
set_option maxHeartbeats 1000000 in
theorem head_spec {x : Api_node} (h : TextN x) (hO : Own k w []) : Tri Try.prog 57 #[.agg (Api_node.cells x).toArray] k w fun v m => v = .string (ba (headT x)) ∧ m = [] := by
  refine enter (args := [.agg (Api_node.cells x).toArray]) Try.func57 rfl rfl ?_
  have h1 := h.name
  have h2 := h.data
  have h3 := h.system
  have h4 := spaceT_len x.Space
  rw [← tl_len] at h1 h2 h3 h4
  refine K0 (K1 ?_)
  refine s_box (vs := [.int .i64 x.Kind, .int .i64 x.Space, .string x.Name, .slice x.AttrsP x.Attrs.length x.AttrsC, .string x.Data, .string x.System, .int .i64 x.Parent, .int .i64 x.First, .int .i64 x.Last, .int .i64 x.Prev, .int .i64 x.Next, .int .i64 x.Inner]) hO rfl rfl rfl (by rfl) fun b1 w hO => ?_
  refine l_y rfl rfl (y_assign rfl) ?_
  refine K2 (K3 (K0 (K0 (K1 ?_))))
  refine l_y rfl rfl (y_fldb (o' := 0) rfl) ?_
  refine l_y rfl rfl (D5 hO rfl) ?_
  refine K2 (K3 (K4 (K0 (K1 ?_))))
  refine Z0 (fun h2_0 => ?_) (fun h2_0 => ?_)
  · refine l_y rfl rfl (y_assign rfl) ?_
    refine K2 (K3 (L8 (K0 ?_)))
    refine da_region (by intro c a d v w h; cases d <;> exact h) ?_
    have hO := hO.drew
    refine da_phase _ [] (SO.ks [.b b1] hO) ?_
    refine dx_u 0 (by kernel_rfl) rfl rfl rfl (fun w => y_fldb (o' := 1) rfl) ?_
    refine dx_y 1 (by kernel_rfl) rfl rfl rfl (fun w ⟨m, hw⟩ => D5 hw rfl) ?_
    refine dx_u 4 (by kernel_rfl) rfl rfl rfl (fun w => y_fldb (o' := 2) rfl) ?_
    refine dx_y 5 (by kernel_rfl) rfl rfl rfl (fun w ⟨m, hw⟩ => D5 hw rfl) ?_
    refine dx_only 2 (by kernel_rfl) rfl rfl ?_
    refine CK [] hO rfl (fun k' hx hr hO' => space_spec (hO := hO')) ?_
    rintro _ _ w ⟨rfl, rfl⟩ hO
    simp only [List.cons_append, List.nil_append] at hO
    refine o_done ?_
    refine ⟨SO.ks [.b b1] hO, ?_⟩
    refine dx_y 3 (by kernel_rfl) rfl rfl rfl (fun w ⟨m, hw⟩ => y_catB (X := [60]) (Y := tl (spaceT x.Space)) rfl rfl rfl rfl (by simp only [List.length_append, List.length_cons, List.length_nil]; omega)) ?_
    refine dx_y 6 (by kernel_rfl) rfl rfl rfl (fun w ⟨m, hw⟩ => y_catB (Y := tl x.Name) rfl rfl (tl_ba _) rfl (by simp only [List.length_append, List.length_cons, List.length_nil]; omega)) ?_
    refine dx_y 7 (by kernel_rfl) rfl rfl rfl (fun w ⟨m, hw⟩ => y_catB (Y := [62]) rfl rfl (tl_ba _) rfl (by simp only [List.length_append, List.length_cons, List.length_nil]; omega)) ?_
    refine dx_u 8 (by kernel_rfl) rfl rfl rfl (fun w => y_assign rfl) ?_
    refine dx_end (by kernel_rfl) ?_
    refine K3 (K6 (L0 (K9 ?_)))
    exact fin1 rfl rfl ⟨_, ⟨by rw [headT, if_pos (by assumption)], rfl⟩, hO.only []⟩
  · refine l_y rfl rfl (y_assign rfl) ?_
    refine K2 (K3 (L9 (K0 (K1 ?_))))
    refine Z0 (fun h4_0 => ?_) (fun h4_0 => ?_)
    · refine l_y rfl rfl (y_assign rfl) ?_
      refine K2 (K3 (L8 (K0 (K1 ?_))))
      refine l_y rfl rfl (y_fldb (o' := 4) rfl) ?_
      refine l_y rfl rfl (D5 hO rfl) ?_
      refine l_y rfl rfl (y_catB (X := [34]) (Y := tl x.Data) rfl rfl rfl rfl (by simp only [List.length_append, List.length_cons, List.length_nil]; omega)) ?_
      refine l_y rfl rfl (y_catB (Y := [34]) rfl rfl (tl_ba _) rfl (by simp only [List.length_append, List.length_cons, List.length_nil]; omega)) ?_
      refine l_y rfl rfl (y_assign rfl) ?_
      refine K2 (K3 (K6 (L0 (K9 ?_))))
      exact fin1 rfl rfl ⟨_, ⟨by rw [headT, if_neg (by assumption), if_pos (by assumption)], rfl⟩, hO.only []⟩
    · refine l_y rfl rfl (y_assign rfl) ?_
      refine K2 (K3 (L9 (K0 (K1 ?_))))
      refine Z0 (fun h6_0 => ?_) (fun h6_0 => ?_)
      · refine l_y rfl rfl (y_assign rfl) ?_
        refine K2 (K3 (L8 (K0 (K1 ?_))))
        refine l_y rfl rfl (y_fldb (o' := 4) rfl) ?_
        refine l_y rfl rfl (D5 hO rfl) ?_
        refine l_y rfl rfl (y_catB (X := [60, 33, 45, 45, 32]) (Y := tl x.Data) rfl rfl rfl rfl (by simp only [List.length_append, List.length_cons, List.length_nil]; omega)) ?_
        refine l_y rfl rfl (y_catB (Y := [32, 45, 45, 62]) rfl rfl (tl_ba _) rfl (by simp only [List.length_append, List.length_cons, List.length_nil]; omega)) ?_
        refine l_y rfl rfl (y_assign rfl) ?_
        refine K2 (K3 (K6 (L0 (K9 ?_))))
        exact fin1 rfl rfl ⟨_, ⟨by rw [headT, if_neg (by assumption), if_neg (by assumption), if_pos (by assumption)], rfl⟩, hO.only []⟩
      · refine l_y rfl rfl (y_assign rfl) ?_
        refine K2 (K3 (L9 (K5 (K8 (K3 (K0 (K1 ?_)))))))
        refine l_y rfl rfl (y_assign rfl) ?_
        refine K2 (K3 ?_)
        refine c_cut (X := List UInt8) (fun u => [(1, .pointer (some ⟨b1, 0, none⟩)), (2, .string ⟨#[]⟩), (3, .string (ba u))]) (fun u w => Own k w [blk b1 55 (Api_node.cells x)] ∧ (u = idsT x) ∧ (¬ x.Kind = 1 ∧ ¬ x.Kind = 2 ∧ ¬ x.Kind = 3)) ?_ ?_
        · refine K0 (K1 ?_)
          refine l_y rfl rfl (y_fldb (o' := 4) rfl) ?_
          refine l_y rfl rfl (D5 hO rfl) ?_
          refine Z3 (fun h9_2 => ?_) (fun h9_2 => ?_)
          · refine l_y rfl rfl (y_move rfl) ?_
            repeat refine M2 ?_
            refine l_y rfl rfl (y_pick_t rfl rfl) ?_
            refine K2 (K3 (L8 (K1 ?_)))
            refine l_y rfl rfl (y_fldb (o' := 4) rfl) ?_
            refine l_y rfl rfl (D5 hO rfl) ?_
            refine l_y rfl rfl (y_catB (X := [32, 34]) (Y := tl x.Data) rfl rfl rfl rfl (by simp only [List.length_append, List.length_cons, List.length_nil]; omega)) ?_
            refine l_y rfl rfl (y_catB (Y := [34, 32, 34]) rfl rfl (tl_ba _) rfl (by simp only [List.length_append, List.length_cons, List.length_nil]; omega)) ?_
            refine l_y rfl rfl (y_fldb (o' := 5) rfl) ?_
            refine l_y rfl rfl (D5 hO rfl) ?_
            refine l_y rfl rfl (y_catB (Y := tl x.System) rfl rfl (tl_ba _) rfl (by simp only [List.length_append, List.length_cons, List.length_nil]; omega)) ?_
            refine l_y rfl rfl (y_catB (Y := [34]) rfl rfl (tl_ba _) rfl (by simp only [List.length_append, List.length_cons, List.length_nil]; omega)) ?_
            refine l_y rfl rfl (y_assign rfl) ?_
            refine K2 ?_
            exact q_cut (_) ⟨rfl, rfl, rfl, trivial⟩ ⟨hO.only [.b b1], (by first | (rw [idsT, if_pos ⟨by assumption, by assumption⟩]) | (rw [idsT, if_neg]; rintro ⟨ea, eb⟩; contradiction)), ⟨by assumption, by assumption, by assumption⟩⟩
          · refine l_y rfl rfl (y_move rfl) ?_
            refine l_y rfl rfl (y_fldb (o' := 5) rfl) ?_
            refine l_y rfl rfl (D5 hO rfl) ?_
            refine Z3 (fun h9_6 => ?_) (fun h9_6 => ?_)
            · refine l_y rfl rfl (y_pick_f rfl rfl) ?_
              refine K2 (K3 (L8 (K1 ?_)))
              refine l_y rfl rfl (y_fldb (o' := 4) rfl) ?_
              refine l_y rfl rfl (D5 hO rfl) ?_
              refine l_y rfl rfl (y_catB (X := [32, 34]) (Y := tl x.Data) rfl rfl rfl rfl (by simp only [List.length_append, List.length_cons, List.length_nil]; omega)) ?_
              refine l_y rfl rfl (y_catB (Y := [34, 32, 34]) rfl rfl (tl_ba _) rfl (by simp only [List.length_append, List.length_cons, List.length_nil]; omega)) ?_
              refine l_y rfl rfl (y_fldb (o' := 5) rfl) ?_
              refine l_y rfl rfl (D5 hO rfl) ?_
              refine l_y rfl rfl (y_catB (Y := tl x.System) rfl rfl (tl_ba _) rfl (by simp only [List.length_append, List.length_cons, List.length_nil]; omega)) ?_
              refine l_y rfl rfl (y_catB (Y := [34]) rfl rfl (tl_ba _) rfl (by simp only [List.length_append, List.length_cons, List.length_nil]; omega)) ?_
              refine l_y rfl rfl (y_assign rfl) ?_
              refine K2 ?_
              exact q_cut (_) ⟨rfl, rfl, rfl, trivial⟩ ⟨hO.only [.b b1], (by first | (rw [idsT, if_pos ⟨by assumption, by assumption⟩]) | (rw [idsT, if_neg]; rintro ⟨ea, eb⟩; contradiction)), ⟨by assumption, by assumption, by assumption⟩⟩
            · refine l_y rfl rfl (y_pick_f rfl rfl) ?_
              refine K2 (K3 (L9 (K5 ?_)))
              exact q_cut (_) ⟨rfl, rfl, rfl, trivial⟩ ⟨hO.only [.b b1], (by first | (rw [idsT, if_pos ⟨by assumption, by assumption⟩]) | (rw [idsT, if_neg]; rintro ⟨ea, eb⟩; contradiction)), ⟨by assumption, by assumption, by assumption⟩⟩
        · rintro u w ⟨hO, hu, hk⟩
          refine K0 (K1 ?_)
          refine l_y rfl rfl (y_fldb (o' := 2) rfl) ?_
          refine l_y rfl rfl (D5 hO rfl) ?_
          refine l_y rfl rfl (y_catB (X := [60, 33, 68, 79, 67, 84, 89, 80, 69, 32]) (Y := tl x.Name) rfl rfl rfl rfl (by simp only [List.length_append, List.length_cons, List.length_nil]; omega)) ?_
          refine l_y rfl rfl (y_move rfl) ?_
          have hul : u.length ≤ 2097160 := by
            rw [hu, idsT]
            split
            · exact Nat.zero_le _
            · simp only [List.length_append, List.length_cons, List.length_nil]; omega
          refine l_y rfl rfl (y_catB rfl rfl (tl_ba _) (tl_ba _) (by simp only [List.length_append, List.length_cons, List.length_nil]; omega)) ?_
          refine l_y rfl rfl (y_catB (Y := [62]) rfl rfl (tl_ba _) rfl (by simp only [List.length_append, List.length_cons, List.length_nil]; omega)) ?_
          refine l_y rfl rfl (y_assign rfl) ?_
          refine K2 (K3 (K6 ?_))
          exact fin1 rfl rfl ⟨_, ⟨by rw [headT, if_neg hk.1, if_neg hk.2.1, if_neg hk.2.2, hu], rfl⟩, hO.only []⟩
end
end Go.Proofs.Ythkmnohghpdjhaa
end
section
set_option linter.unusedVariables false
set_option linter.unusedSimpArgs false
set_option maxRecDepth 100000
namespace Go.Proofs.Ythkmnohghpdjhaa
open Go Go.Hb Go.RowKit
section
variable {k : Ctx} {w : World}
theorem putI_spec {b2 : Nat} {bs : List UInt8} {d : Int} {s : ByteArray} (h0 : 0 ≤ d) (hd : d ≤ 1000000) (hs : bs.length + s.size + 2000003 ≤ 35184372088832) (hO : Own k w [bldr b2 bs]) :
    Tri Try.prog 51 #[.int .i64 d, .string s, .pointer (some ⟨b2, 0, none⟩)] k w fun v m => m = [bldr b2 (bs ++ lineT d.toNat (tl s))] := by
  obtain ⟨m, rfl⟩ := Int.eq_ofNat_of_zero_le h0
  exact put3_spec (by omega) (by omega) hO
/-- pop, both ways -/
theorem popI_spec {b : Nat} {xs : List Show_item} (hl : xs.length ≤ 1000000000) (hO : Own k w [pileitem b xs]) :
    Tri Try.prog 56 #[.pointer (some ⟨b, 0, none⟩)] k w fun v m => ∃ t ok rest, Popped ok t xs rest ∧ v = .tuple #[.agg (Show_item.cells t).toArray, .bool ok] ∧ m = [pileitem b rest] := by
  rcases List.eq_nil_or_concat xs with rfl | ⟨ys, z, rfl⟩
  · refine (popNitem_spec hO).mono ?_
    rintro v m ⟨rfl, rfl⟩
    exact ⟨default, false, [], .inr ⟨rfl, rfl, rfl⟩, rfl, rfl⟩
  · rw [List.concat_eq_append] at hO hl
    simp only [List.length_append, List.length_cons, List.length_nil] at hl
    refine (popitem_spec (by omega) hO).mono ?_
    rintro v m ⟨rfl, rfl⟩
    exact ⟨z, true, ys, .inl ⟨rfl, List.concat_eq_append⟩, rfl, rfl⟩
/-- the library's sort, at the attributes of an arena -/
def Sorts (A : List Node_one) (srt : List Api_attr → List Api_attr) : Prop := ∀ (k : Ctx) (w : World) (p : Option Addr) (c : Nat) (x : Int), InA A x → Own k w [sls p c 63 4 Api_attr.cells (nodeA A x).Attrs] →
  Tri Try.prog 58 #[.slice p (nodeA A x).Attrs.length c, .func (.func 59) #[] #[]] k w fun v m => m = [sls p c 63 4 Api_attr.cells (srt (nodeA A x).Attrs)]
theorem shAs_take {d : Nat} {l : List Api_attr} {i : Nat} (h : i < l.length) : shAs d (l.take (i + 1)) = shAs d (l.take i) ++ lineT (d + 1) (shA (at_ l i)) := by
  rw [take_succ_at h, shAs, List.flatMap_append]
  simp [shAs]
theorem rev_next {A : List Node_one} {K : Int → List Int} {x : Show_item} (h : x.line = ⟨#[]⟩) : (nextI A K x).reverse = (K x.id).reverse.map (kidI (x.depth + 1)) ++ (if (nodeA A x.id).Inner = -1 then [] else (K (nodeA A x.id).Inner).reverse.map (kidI (x.depth + 2)) ++ [contI (x.depth + 1)]) := by
  rw [nextI, if_neg (by simp [h]), innI, List.reverse_append]
  congr 1
  · rw [List.map_reverse]
  · split
    · rfl
    · rw [List.reverse_cons, List.map_reverse]
theorem att_len {n : Api_node} (h : TextN n) {y : Api_attr} (hm : y ∈ n.Attrs) : y.Name.size ≤ 1048576 ∧ y.Value.size ≤ 1048576 :=
  ⟨long_mem h.attrs (by simp only [attrTexts, List.mem_flatMap]; exact ⟨y, hm, by simp⟩), long_mem h.attrs (by simp only [attrTexts, List.mem_flatMap]; exact ⟨y, hm, by simp⟩)⟩
theorem shAs_le {d : Nat} (l : List Api_attr) (i : Nat) : (shAs d (l.take i)).length ≤ (shAs d l).length := by
  have e : shAs d l = shAs d (l.take i) ++ shAs d (l.drop i) := by rw [shAs, shAs, shAs, ← List.flatMap_append, List.take_append_drop]
  rw [e, List.length_append]; omega
/-- what Show writes of a node -/
def showT (A : List Node_one) (K : Int → List Int) (srt : List Api_attr → List Api_attr) (id : Int) : List UInt8 := if hasB A id = true then showF A K srt (2 * A.length) ((K id).map (kidI 0)) else []
set_option maxHeartbeats 8000000 in
theorem Show_spec {a : Nat} {A : List Node_one} {K : Int → List Int} {srt : List Api_attr → List Api_attr} {id : Int} (t : Tree A K) (g : InnOk A) (hT : TextOk A) (hp : ∀ x, InA A x → (srt (nodeA A x).Attrs).Perm (nodeA A x).Attrs) (hs : Sorts A srt) (h0 : 0 < A.length) (hl : A.length ≤ 1000) (hO : Own k w [arenaL a A]) :
    Tri Try.prog 18 #[.pointer (some ⟨a, 0, none⟩), .int .i64 id] k w fun v m => v = .tuple #[.string (ba (showT A K srt id)), .int .i64 (errN A id)] ∧ m = [arenaL a A] := by
  refine enter (args := [.pointer (some ⟨a, 0, none⟩), .int .i64 id]) Try.func18 rfl rfl ?_
  refine K0 (K1 ?_)
  refine s_box (vs := [.pointer (some ⟨a, 0, none⟩)]) hO rfl rfl rfl (by rfl) fun b2 w hO => ?_
  refine l_y rfl rfl (y_assign rfl) ?_
  refine l_y rfl rfl (y_assign rfl) ?_
  refine K2 (K3 (K0 (K0 (K1 ?_))))
  refine l_y rfl rfl (D5 hO rfl) ?_
  refine l_y rfl rfl (y_move rfl) ?_
  refine CK [.o a] hO rfl (fun k' hx hr hO' => NodeX_spec h0 t.attrs hO') ?_
  rintro _ _ w ⟨n, hn, rfl, rfl⟩ hO
  simp only [List.cons_append, List.nil_append] at hO
  refine l_y rfl rfl (y_move rfl) ?_
  refine l_y rfl rfl (y_extract rfl rfl) ?_
  refine l_y rfl rfl (y_extract rfl rfl) ?_
  refine s_alloc (vs := [.int .i64 0, .int .i64 0, .string ⟨#[]⟩, .slice none 0 0, .string ⟨#[]⟩, .string ⟨#[]⟩, .int .i64 0, .int .i64 0, .int .i64 0, .int .i64 0, .int .i64 0, .int .i64 0]) hO rfl rfl rfl fun b6 w hO => ?_
  refine Y3 hO rfl rfl (fun w hO => ?_)
  refine l_y rfl rfl (y_assign rfl) ?_
  refine K2 (K3 (K0 (K1 ?_)))
  refine l_y rfl rfl (y_move rfl) ?_
  refine Z1 (fun h2_1 => ?_) (fun h2_1 => ?_)
  · refine K2 (K3 (L8 (K0 (K1 ?_))))
    refine l_y rfl rfl (y_move rfl) ?_
    refine l_y rfl rfl (y_assign rfl) ?_
    refine l_y rfl rfl (y_assign rfl) ?_
    refine K2 (K3 (K6 (K9 ?_)))
    have hb : ¬ hasB A id = true := fun e => h2_1 (by rw [errN, if_pos e])
    exact fin2 rfl rfl rfl ⟨_, ⟨by rw [showT, if_neg hb], rfl⟩, hO.only [.o a]⟩
  · refine K2 (K3 (L9 (K5 (K3 (K0 ?_)))))
    have hb : hasB A id = true := errN_zero (by omega)
    have hid := inA_iff.1 hb
    have hkl := t.len hid
    refine K1 ?_
    refine s_alloc (vs := [.pointer none, .slice none 0 0]) hO rfl rfl rfl fun b8 w hO => ?_
    refine K2 (K3 (K0 ?_))
    have hO := bldr_new (hO.ks [.b b8])
    refine K1 ?_
    refine l_y rfl rfl (y_makeFunc rfl rfl) ?_
    refine l_y rfl rfl (y_assign rfl) ?_
    refine K2 (K3 (K0 (K1 ?_)))
    refine s_alloc (vs := [.slice none 0 0]) hO rfl rfl rfl fun b10 w hO => ?_
    refine K2 (K3 (K0 ?_))
    have hO := pileitem_shut (xs := []) (hO.ks [.b b10] |> sl_nil 106 3 |> Own.swap)
    refine K1 ?_
    refine l_y rfl rfl (y_makeFunc rfl rfl) ?_
    refine l_y rfl rfl (y_assign rfl) ?_
    refine K2 (K3 (K0 (K1 ?_)))
    refine l_y rfl rfl (y_move rfl) ?_
    refine l_y rfl rfl (y_move rfl) ?_
    refine CKv [.b b2, .o a, .o b10] hO rfl rfl (fun k' hx hr hO' => below_spec (K := K) t hid hl (by simp) hO') ?_
    rintro _ _ w rfl hO
    simp only [List.cons_append, List.nil_append] at hO
    refine K2 (K3 (K0 (K0 (K1 ?_))))
    refine CK [.o b10] hO rfl (fun k' hx hr hO' => popI_spec (by simp only [List.length_map, List.length_reverse]; omega) hO') ?_
    rintro _ _ w ⟨c0, ok0, xs0, hpop, rfl, rfl⟩ hO
    simp only [List.cons_append, List.nil_append] at hO
    refine l_y rfl rfl (y_move rfl) ?_
    refine l_y rfl rfl (y_extract rfl rfl) ?_
    refine l_y rfl rfl (y_extract rfl rfl) ?_
    refine s_alloc (vs := [.int .i64 0, .int .i64 0, .string ⟨#[]⟩]) hO rfl rfl rfl fun b12 w hO => ?_
    refine Y3 hO rfl rfl (fun w hO => ?_)
    refine l_y rfl rfl (y_assign rfl) ?_
    refine K2 (K3 (K4 ?_))
    refine c_rounds (X := Nat × Bool × Show_item × List Show_item × Nat × List UInt8) (fun s => [(2, .pointer (some ⟨b2, 0, none⟩)), (4, .string ⟨#[]⟩), (5, .int .i64 0), (8, .pointer (some ⟨b8, 0, none⟩)), (9, .func (.func 51) #[] #[.pointer (some ⟨b8, 0, none⟩)]), (10, .pointer (some ⟨b10, 0, none⟩)), (11, .func (.func 53) #[] #[.pointer (some ⟨b2, 0, none⟩), .pointer (some ⟨b10, 0, none⟩)]), (12, .pointer (some ⟨s.1, 0, none⟩)), (13, .bool s.2.1)]) (fun s w => Own k w [arenaL a A, bldr b8 s.2.2.2.2.2, pileitem b10 s.2.2.2.1, blk b2 23 [.pointer (some ⟨a, 0, none⟩)], blk s.1 106 (Show_item.cells s.2.2.1)] ∧ (ShI A K srt (showF A K srt (2 * A.length) ((K id).map (kidI 0))) (2 * A.length) s.2.1 s.2.2.1 s.2.2.2.1 s.2.2.2.2.1 s.2.2.2.2.2)) (fun s => s.2.2.2.2.1) ((b12, ok0, c0, xs0, 2 * A.length, [])) ⟨rfl, rfl, rfl, rfl, rfl, rfl, rfl, rfl, rfl, trivial⟩ ⟨hO.only [.o a, .o b8, .o b10, .b b2, .b b12], ShI.start t hid hpop⟩ ?_
    rintro s w m hm ⟨hO, hI⟩
    refine K0 (K0 (K1 ?_))
    refine l_y rfl rfl (y_move rfl) ?_
    refine K2 (K3 ?_)
    refine c_split rfl (fun hc36 => ?_) (fun hc36 => ?_)
    · refine K5 (K3 ?_)
      refine c_cut (X := List UInt8 × List Show_item) (fun y => [(2, .pointer (some ⟨b2, 0, none⟩)), (4, .string ⟨#[]⟩), (5, .int .i64 0), (8, .pointer (some ⟨b8, 0, none⟩)), (9, .func (.func 51) #[] #[.pointer (some ⟨b8, 0, none⟩)]), (10, .pointer (some ⟨b10, 0, none⟩)), (11, .func (.func 53) #[] #[.pointer (some ⟨b2, 0, none⟩), .pointer (some ⟨b10, 0, none⟩)]), (12, .pointer (some ⟨s.1, 0, none⟩))]) (fun y w => Own k w [arenaL a A, bldr b8 y.1, pileitem b10 y.2, blk b2 23 [.pointer (some ⟨a, 0, none⟩)], blk s.1 106 (Show_item.cells s.2.2.1)] ∧ (s.2.1 = true) ∧ (y.1 = s.2.2.2.2.2 ++ txtI A srt s.2.2.1 ∧ y.2 = s.2.2.2.1 ++ (nextI A K s.2.2.1).reverse)) ?_ ?_
      · refine K4 (K0 (K0 ?_))
        have hI := hI
        rw [hc36] at hI
        obtain ⟨c1, c2, c3, c4⟩ := hI.cur rfl
        have hmx := hI.max
        have hsm := hI.sum
        rw [if_pos rfl] at hsm
        have hxl := wL_len fun x hx => (hI.all x hx).1
        have hbl := hI.len
        have hcs : 2 * A.length * CS ≤ 2000 * CS := Nat.mul_le_mul_right _ (by omega)
        have hcv : 2000 * CS = 6600000000000 := rfl
        have hn1 := wI_pos c1
        have hcn : CS ≤ s.2.2.2.2.1 * CS := Nat.le_mul_of_pos_left _ (by omega)
        have hcv1 : CS = 3300000000 := rfl
        refine K1 ?_
        refine l_y rfl rfl (y_fldb (o' := 2) rfl) ?_
        refine l_y rfl rfl (D5 hO rfl) ?_
        refine Z3 (fun h12_2 => ?_) (fun h12_2 => ?_)
        · refine K2 (K3 (L8 (K0 (K1 ?_))))
          refine l_y rfl rfl (y_move rfl) ?_
          refine l_y rfl rfl (y_fldb (o' := 1) rfl) ?_
          refine l_y rfl rfl (D5 hO rfl) ?_
          refine l_y rfl rfl (y_fldb (o' := 2) rfl) ?_
          refine l_y rfl rfl (D5 hO rfl) ?_
          refine CKv [.o b8] hO rfl rfl (fun k' hx hr hO' => putI_spec c2 (by omega) (by omega) hO') ?_
          rintro _ _ w rfl hO
          simp only [List.cons_append, List.nil_append] at hO
          have hline : ¬ s.2.2.1.line = ⟨#[]⟩ := by assumption
          have htx : lineT s.2.2.1.depth.toNat (tl s.2.2.1.line) = txtI A srt s.2.2.1 := by rw [txtI, if_pos hline]
          have hnx : (nextI A K s.2.2.1).reverse = [] := by rw [nextI, if_pos hline]; rfl
          refine K2 (K3 (K7 (L1 (L2 ?_))))
          exact q_cut ((_, _)) ⟨rfl, rfl, rfl, rfl, rfl, rfl, rfl, rfl, trivial⟩ ⟨hO.only [.o a, .o b8, .o b10, .b b2, .b s.1], hc36, (by first | exact ⟨by rw [htx], by rw [hnx, List.append_nil]⟩ | exact ⟨hfb, hfx⟩)⟩
        · refine K2 (K3 (L9 (K5 (K3 (K0 ?_)))))
          have hline : s.2.2.1.line = ⟨#[]⟩ := by first | assumption | (simp_all; done)
          have hci := c1 hline
          have hcb := hci.b
          have hki := t.len hci
          refine K1 ?_
          refine l_y rfl rfl (D5 hO rfl) ?_
          refine l_y rfl rfl (y_fldb (o' := 0) rfl) ?_
          refine l_y rfl rfl (D5 hO rfl) ?_
          refine CK [.o a] hO rfl (fun k' hx hr hO' => NodeX_spec h0 t.attrs hO') ?_
          rintro _ _ w ⟨n, hn, rfl, rfl⟩ hO
          simp only [List.cons_append, List.nil_append] at hO
          have htn := hT _ hci
          have hna := hn.attrs hcb
          have hhd : headT n = headT (nodeA A s.2.2.1.id) := by obtain ⟨q0, d0, rfl⟩ := hn hcb; rfl
          have htn2 : TextN n := by obtain ⟨q0, d0, rfl⟩ := hn hcb; exact ⟨htn.name, htn.data, htn.system, htn.attrs⟩
          have hnl : (nodeA A s.2.2.1.id).Attrs.length ≤ 1024 := t.attrs _ (by have := hci.1; have := hci.2; omega)
          have hpl := (hp _ hci).length_eq
          have htl := txtI_len hT t.attrs hp c1 (by omega) c4
          have htx : txtI A srt s.2.2.1 = lineT s.2.2.1.depth.toNat (headT n) ++ shAs s.2.2.1.depth.toNat (srt (nodeA A s.2.2.1.id).Attrs) := by rw [txtI, if_neg (by simp [hline]), hhd]
          have hpl2 : n.Attrs.length = (srt (nodeA A s.2.2.1.id).Attrs).length := by rw [hpl, hna]
          refine l_y rfl rfl (y_move rfl) ?_
          refine l_y rfl rfl (y_extract rfl rfl) ?_
          refine l_y rfl rfl (y_extract rfl rfl) ?_
          refine s_alloc (vs := [.int .i64 0, .int .i64 0, .string ⟨#[]⟩, .slice none 0 0, .string ⟨#[]⟩, .string ⟨#[]⟩, .int .i64 0, .int .i64 0, .int .i64 0, .int .i64 0, .int .i64 0, .int .i64 0]) hO rfl rfl rfl fun b14 w hO => ?_
          refine Y3 hO rfl rfl (fun w hO => ?_)
          refine l_y rfl rfl (y_assign rfl) ?_
          refine K2 (K3 (K0 ?_))
          refine da_region (by intro c a d v w h; cases d <;> exact h) ?_
          have hO := hO.drew
          refine da_phase _ [5] (SO.ks [.b s.1, .b b14] hO) ?_
          refine dx_u 0 (by kernel_rfl) rfl rfl rfl (fun w => y_move rfl) ?_
          refine dx_u 1 (by kernel_rfl) rfl rfl rfl (fun w => y_fldb (o' := 1) rfl) ?_
          refine dx_y 2 (by kernel_rfl) rfl rfl rfl (fun w ⟨m, hw⟩ => D5 hw rfl) ?_
          refine dx_y 3 (by kernel_rfl) rfl rfl rfl (fun w ⟨m, hw⟩ => D8 (cs := [.int .i64 n.Kind, .int .i64 n.Space, .string n.Name, .slice n.AttrsP n.Attrs.length n.AttrsC, .string n.Data, .string n.System, .int .i64 n.Parent, .int .i64 n.First, .int .i64 n.Last, .int .i64 n.Prev, .int .i64 n.Next, .int .i64 n.Inner]) hw rfl) ?_
          refine dx_only 4 (by kernel_rfl) rfl rfl ?_
          refine CK [] hO rfl (fun k' hx hr hO' => head_spec (x := n) htn2 hO') ?_
          rintro _ _ w ⟨rfl, rfl⟩ hO
          simp only [List.cons_append, List.nil_append] at hO
          refine o_done ?_
          refine ⟨SO.ks [.b s.1, .b b14] hO, ?_⟩
          refine dx_close 5 (by kernel_rfl) rfl rfl ?_
          refine CKv [.o b8] hO rfl rfl (fun k' hx hr hO' => putI_spec c2 (by omega) (by rw [ba_size]; have := headT_len htn2; omega) hO') ?_
          rintro _ _ w rfl hO
          simp only [List.cons_append, List.nil_append] at hO
          rw [tl_ba] at hO
          refine o_done ?_
          refine da_end (by kernel_rfl) ?_
          refine K3 (K0 (K1 ?_))
          refine l_y rfl rfl (y_fldb (o' := 3) rfl) ?_
          refine l_y rfl rfl (D5 hO rfl) ?_
          refine CK [.p n.AttrsP] hO rfl (fun k' hx hr hO' => by
              rw [hna] at hO' ⊢
              exact hs k' _ n.AttrsP n.AttrsC _ hci hO') ?_
          rintro _ _ w rfl hO
          simp only [List.cons_append, List.nil_append] at hO
          refine K2 (K3 (K0 (K0 (K1 ?_))))
          refine l_y rfl rfl (y_fldb (o' := 3) rfl) ?_
          refine l_y rfl rfl (D5 hO rfl) ?_
          refine l_y rfl rfl (y_lenL rfl) ?_
          rw [hpl2]
          rw [show s.2.2.2.2.2 ++ lineT s.2.2.1.depth.toNat (headT n) = s.2.2.2.2.2 ++ lineT s.2.2.1.depth.toNat (headT n) ++ shAs s.2.2.1.depth.toNat ((srt (nodeA A s.2.2.1.id).Attrs).take 0) by simp [shAs]] at hO
          have hgs := (sls_fct (p := n.AttrsP) hO).2
          refine l_y rfl rfl (y_move rfl) ?_
          refine K2 (K3 (K4 ?_))
          refine c_rounds (X := Nat) (fun i => [(2, .pointer (some ⟨b2, 0, none⟩)), (4, .string ⟨#[]⟩), (5, .int .i64 0), (8, .pointer (some ⟨b8, 0, none⟩)), (9, .func (.func 51) #[] #[.pointer (some ⟨b8, 0, none⟩)]), (10, .pointer (some ⟨b10, 0, none⟩)), (11, .func (.func 53) #[] #[.pointer (some ⟨b2, 0, none⟩), .pointer (some ⟨b10, 0, none⟩)]), (12, .pointer (some ⟨s.1, 0, none⟩)), (14, .pointer (some ⟨b14, 0, none⟩)), (67, .slice n.AttrsP (srt (nodeA A s.2.2.1.id).Attrs).length n.AttrsC), (68, .int .i64 ((srt (nodeA A s.2.2.1.id).Attrs).length : Nat)), (69, .int .i64 (i : Int))]) (fun i w => Own k w [arenaL a A, bldr b8 (s.2.2.2.2.2 ++ lineT s.2.2.1.depth.toNat (headT n) ++ shAs s.2.2.1.depth.toNat ((srt (nodeA A s.2.2.1.id).Attrs).take i)), pileitem b10 s.2.2.2.1, blk b2 23 [.pointer (some ⟨a, 0, none⟩)], blk s.1 106 (Show_item.cells s.2.2.1), blk b14 55 (Api_node.cells n), sls n.AttrsP n.AttrsC 63 4 Api_attr.cells (srt (nodeA A s.2.2.1.id).Attrs)] ∧ (i ≤ (srt (nodeA A s.2.2.1.id).Attrs).length)) (fun i => (srt (nodeA A s.2.2.1.id).Attrs).length - i) (0) ⟨rfl, rfl, rfl, rfl, rfl, rfl, rfl, rfl, rfl, rfl, rfl, rfl, trivial⟩ ⟨hO.only [.o a, .o b8, .o b10, .b b2, .b s.1, .b b14, .p n.AttrsP], Nat.zero_le _⟩ ?_
          rintro i w m hm ⟨hO, hil⟩
          refine K0 (K1 ?_)
          refine Z0 (fun h18_0 => ?_) (fun h18_0 => ?_)
          · refine K2 (K3 (K0 (L8 (K5 (K3 (K0 (K4 (K0 (K1 ?_)))))))))
            refine l_y rfl rfl (y_idx rfl rfl) ?_
            refine l_y rfl rfl (y_eA (x0 := 0) (cs := [.int .i64 (at_ (srt (nodeA A s.2.2.1.id).Attrs) ((i : Int) : Int).toNat).Space, .string (at_ (srt (nodeA A s.2.2.1.id).Attrs) ((i : Int) : Int).toNat).Prefix, .string (at_ (srt (nodeA A s.2.2.1.id).Attrs) ((i : Int) : Int).toNat).Name, .string (at_ (srt (nodeA A s.2.2.1.id).Attrs) ((i : Int) : Int).toNat).Value]) hO rfl) ?_
            refine s_alloc (vs := [.int .i64 0, .string ⟨#[]⟩, .string ⟨#[]⟩, .string ⟨#[]⟩]) hO rfl rfl rfl fun b17 w hO => ?_
            refine Y3 hO rfl rfl (fun w hO => ?_)
            refine K2 (K3 ?_)
            obtain ⟨e, he⟩ : ∃ e, e = at_ (srt (nodeA A s.2.2.1.id).Attrs) ((i : Int)).toNat := ⟨_, rfl⟩
            have hza : e.Name.size ≤ 1048576 ∧ e.Value.size ≤ 1048576 := by rw [he]; exact att_len htn ((hp _ hci).mem_iff.1 (at_mem (xs := (srt (nodeA A s.2.2.1.id).Attrs)) (i := ((i : Nat) : Int).toNat) (by omega)))
            rw [← he] at hO ⊢
            have he2 : e = at_ (srt (nodeA A s.2.2.1.id).Attrs) i := he
            have hzl := shA_len hza.1 hza.2
            have hzs := spaceT_len e.Space
            rw [← tl_len] at hzs
            have hz1 := hza.1
            have hz2 := hza.2
            rw [← tl_len] at hz1 hz2
            have htk := shAs_le (d := s.2.2.1.depth.toNat) (srt (nodeA A s.2.2.1.id).Attrs) i
            have htl2 := htl
            rw [htx, List.length_append] at htl2
            refine da_region (by intro c a d v w h; cases d <;> exact h) ?_
            have hO := hO.drew
            refine da_phase _ [15] (SO.ks [.b s.1, .b b17] hO) ?_
            refine dx_u 0 (by kernel_rfl) rfl rfl rfl (fun w => y_move rfl) ?_
            refine dx_u 1 (by kernel_rfl) rfl rfl rfl (fun w => y_fldb (o' := 1) rfl) ?_
            refine dx_y 2 (by kernel_rfl) rfl rfl rfl (fun w ⟨m, hw⟩ => D5 hw rfl) ?_
            refine dx_u 3 (by kernel_rfl) rfl rfl rfl (fun w => D4) ?_
            refine dx_u 4 (by kernel_rfl) rfl rfl rfl (fun w => y_fldb (o' := 0) rfl) ?_
            refine dx_y 5 (by kernel_rfl) rfl rfl rfl (fun w ⟨m, hw⟩ => D5 hw rfl) ?_
            refine dx_u 7 (by kernel_rfl) rfl rfl rfl (fun w => y_fldb (o' := 2) rfl) ?_
            refine dx_y 8 (by kernel_rfl) rfl rfl rfl (fun w ⟨m, hw⟩ => D5 hw rfl) ?_
            refine dx_u 11 (by kernel_rfl) rfl rfl rfl (fun w => y_fldb (o' := 3) rfl) ?_
            refine dx_y 12 (by kernel_rfl) rfl rfl rfl (fun w ⟨m, hw⟩ => D5 hw rfl) ?_
            refine dx_only 6 (by kernel_rfl) rfl rfl ?_
            refine CK [] hO rfl (fun k' hx hr hO' => space_spec (hO := hO')) ?_
            rintro _ _ w ⟨rfl, rfl⟩ hO
            simp only [List.cons_append, List.nil_append] at hO
            refine o_done ?_
            refine ⟨SO.ks [.b s.1, .b b17] hO, ?_⟩
            refine dx_y 9 (by kernel_rfl) rfl rfl rfl (fun w ⟨m, hw⟩ => y_catB (X := tl (spaceT e.Space)) (Y := tl e.Name) rfl rfl rfl rfl (by omega)) ?_
            refine dx_y 10 (by kernel_rfl) rfl rfl rfl (fun w ⟨m, hw⟩ => y_catB (Y := [61, 34]) rfl rfl (tl_ba _) rfl (by simp only [List.length_append, List.length_cons, List.length_nil]; omega)) ?_
            refine dx_y 13 (by kernel_rfl) rfl rfl rfl (fun w ⟨m, hw⟩ => y_catB (Y := tl e.Value) rfl rfl (tl_ba _) rfl (by simp only [List.length_append, List.length_cons, List.length_nil]; omega)) ?_
            refine dx_y 14 (by kernel_rfl) rfl rfl rfl (fun w ⟨m, hw⟩ => y_catB (Y := [34]) rfl rfl (tl_ba _) rfl (by simp only [List.length_append, List.length_cons, List.length_nil]; omega)) ?_
            refine dx_close 15 (by kernel_rfl) rfl rfl ?_
            refine CKv [.o b8] hO rfl rfl (fun k' hx hr hO' => putI_spec (d := s.2.2.1.depth + 1) (by omega) (by omega) (by rw [ba_size]; simp only [List.length_append, List.length_cons, List.length_nil]; omega) hO') ?_
            rintro _ _ w rfl hO
            simp only [List.cons_append, List.nil_append] at hO
            rw [tl_ba, show (s.2.2.1.depth + 1).toNat = s.2.2.1.depth.toNat + 1 by omega, List.append_assoc (s.2.2.2.2.2 ++ lineT s.2.2.1.depth.toNat (headT n)), show tl (spaceT e.Space) ++ tl e.Name ++ [61, 34] ++ tl e.Value ++ [34] = shA e from rfl, he2, ← shAs_take (by omega)] at hO
            refine o_done ?_
            refine da_end (by kernel_rfl) ?_
            refine K8 (K3 (K1 ?_))
            refine l_y rfl rfl (D4) ?_
            refine l_y rfl rfl (y_move rfl) ?_
            refine K2 ?_
            exact q_next (i + 1) ⟨rfl, rfl, rfl, rfl, rfl, rfl, rfl, rfl, rfl, rfl, rfl, rfl, trivial⟩ ⟨hO.only [.o a, .o b8, .o b10, .b b2, .b s.1, .b b14, .p n.AttrsP], by omega⟩ (by omega)
          · refine K2 (K3 (K0 (L9 (K7 (L1 (L1 (L2 (K3 (K0 ?_)))))))))
            have e : i = (srt (nodeA A s.2.2.1.id).Attrs).length := by omega
            rw [e, List.take_of_length_le (Nat.le_refl _)] at hO
            have hfb : s.2.2.2.2.2 ++ lineT s.2.2.1.depth.toNat (headT n) ++ shAs s.2.2.1.depth.toNat (srt (nodeA A s.2.2.1.id).Attrs) = s.2.2.2.2.2 ++ txtI A srt s.2.2.1 := by rw [htx, List.append_assoc]
            have hnin := hn.inner hcb
            refine K1 ?_
            refine l_y rfl rfl (y_move rfl) ?_
            refine l_y rfl rfl (y_fldb (o' := 0) rfl) ?_
            refine l_y rfl rfl (D5 hO rfl) ?_
            refine l_y rfl rfl (y_fldb (o' := 1) rfl) ?_
            refine l_y rfl rfl (D5 hO rfl) ?_
            refine l_y rfl rfl (D4) ?_
            refine CKv [.b b2, .o a, .o b10] hO rfl rfl (fun k' hx hr hO' => below_spec (K := K) t hci hl (by omega) hO') ?_
            rintro _ _ w rfl hO
            simp only [List.cons_append, List.nil_append] at hO
            refine K2 (K3 (K0 (K1 ?_)))
            refine l_y rfl rfl (y_fldb (o' := 11) rfl) ?_
            refine l_y rfl rfl (D5 hO rfl) ?_
            refine Z1 (fun h23_2 => ?_) (fun h23_2 => ?_)
            · refine K2 (K3 (L8 (K0 (K1 ?_))))
              refine l_y rfl rfl (y_move rfl) ?_
              refine l_y rfl rfl (y_fldb (o' := 11) rfl) ?_
              refine l_y rfl rfl (D5 hO rfl) ?_
              refine l_y rfl rfl (y_fldb (o' := 1) rfl) ?_
              refine l_y rfl rfl (D5 hO rfl) ?_
              refine l_y rfl rfl (D4) ?_
              have hin : (nodeA A s.2.2.1.id).Inner ≠ -1 := by omega
              have hiu := (inner_up t g hci hin).1
              have hki2 := t.len hiu
              refine CKv [.b b2, .o a, .o b10] hO rfl rfl (fun k' hx hr hO' => below_spec (K := K) t (by rw [hnin]; exact hiu) hl (by simp only [List.length_append, List.length_map, List.length_reverse]; omega) hO') ?_
              rintro _ _ w rfl hO
              simp only [List.cons_append, List.nil_append] at hO
              rw [hnin] at hO
              refine K2 (K3 (K1 ?_))
              refine l_y rfl rfl (y_fldb (o' := 1) rfl) ?_
              refine l_y rfl rfl (D5 hO rfl) ?_
              refine l_y rfl rfl (D4) ?_
              refine s_build (parts := [(1, .tmp 109), (2, .const (.string ⟨#[99, 111, 110, 116, 101, 110, 116]⟩))]) (cs := [.int .i64 0, .int .i64 (s.2.2.1.depth + 1), .string ⟨#[99, 111, 110, 116, 101, 110, 116]⟩]) rfl rfl (fun a ha => partsOf_sound ha _ _ rfl) (by kernel_rfl) ?_
              refine s_lit (parts := [(0, .tmp 110)]) (enc := Show_item.cells) [⟨0, (s.2.2.1.depth + 1), ⟨#[99, 111, 110, 116, 101, 110, 116]⟩⟩] [.agg [.int .i64 0, .int .i64 (s.2.2.1.depth + 1), .string ⟨#[99, 111, 110, 116, 101, 110, 116]⟩].toArray] hO rfl (fun b111 w hO => ?_)
              refine CK [.o b10] hO rfl (fun k' hx hr hO' => pushitem_spec (ys := [⟨0, s.2.2.1.depth + 1, ⟨#[99, 111, 110, 116, 101, 110, 116]⟩⟩]) (sls_roK (p := some ⟨b111, 0, none⟩) hr (sls_fct hO)) (by simp only [List.length_append, List.length_map, List.length_reverse, List.length_cons, List.length_nil]; omega) (hO := hO')) ?_
              rintro _ _ w rfl hO
              simp only [List.cons_append, List.nil_append] at hO
              have hfx : s.2.2.2.1 ++ (K s.2.2.1.id).reverse.map (kidI (s.2.2.1.depth + 1)) ++ (K (nodeA A s.2.2.1.id).Inner).reverse.map (kidI (s.2.2.1.depth + 2)) ++ [⟨0, s.2.2.1.depth + 1, ⟨#[99, 111, 110, 116, 101, 110, 116]⟩⟩] = s.2.2.2.1 ++ (nextI A K s.2.2.1).reverse := by rw [rev_next hline, if_neg hin]; simp only [List.append_assoc]; rfl
              refine K2 (K8 ?_)
              exact q_cut ((_, _)) ⟨rfl, rfl, rfl, rfl, rfl, rfl, rfl, rfl, trivial⟩ ⟨hO.only [.o a, .o b8, .o b10, .b b2, .b s.1], hc36, (by first | exact ⟨by rw [htx], by rw [hnx, List.append_nil]⟩ | exact ⟨hfb, hfx⟩)⟩
            · have hfx : s.2.2.2.1 ++ (K s.2.2.1.id).reverse.map (kidI (s.2.2.1.depth + 1)) = s.2.2.2.1 ++ (nextI A K s.2.2.1).reverse := by rw [rev_next hline, if_pos (by omega), List.append_nil]
              refine K2 (K3 (L9 (K5 (K8 ?_))))
              exact q_cut ((_, _)) ⟨rfl, rfl, rfl, rfl, rfl, rfl, rfl, rfl, trivial⟩ ⟨hO.only [.o a, .o b8, .o b10, .b b2, .b s.1], hc36, (by first | exact ⟨by rw [htx], by rw [hnx, List.append_nil]⟩ | exact ⟨hfb, hfx⟩)⟩
      · rintro y w ⟨hO, hok, hy⟩
        refine K0 (K0 ?_)
        have hI := hI
        rw [hok] at hI
        obtain ⟨c1, c2, c3, c4⟩ := hI.cur rfl
        have hmx := hI.max
        have hsm := hI.sum
        rw [if_pos rfl] at hsm
        have hxl := wL_len fun x hx => (hI.all x hx).1
        have hnn := wL_len fun x hx => (next_ok t g c1 x hx).1
        have hnw := next_w t g c1
        have hyl : y.2.length ≤ 100000 := by rw [hy.2, List.length_append, List.length_reverse]; omega
        refine K1 ?_
        refine l_y rfl rfl (D8 (cs := [.int .i64 s.2.2.1.id, .int .i64 s.2.2.1.depth, .string s.2.2.1.line]) hO rfl) ?_
        refine K2 (K3 (K1 ?_))
        refine s_alloc (vs := [.int .i64 0, .int .i64 0, .string ⟨#[]⟩]) hO rfl rfl rfl fun b12 w hO => ?_
        refine Y3 hO rfl rfl (fun w hO => ?_)
        refine K2 (K3 (K1 ?_))
        refine CK [.o b10] hO rfl (fun k' hx hr hO' => popI_spec (by omega) hO') ?_
        rintro _ _ w ⟨c2', ok2, l2, hpop2, rfl, rfl⟩ hO
        simp only [List.cons_append, List.nil_append] at hO
        rw [hy.2] at hpop2
        have hJ := ShI.next t g hT hp (by omega) hI hpop2
        rw [← hy.1] at hJ
        refine l_y rfl rfl (y_move rfl) ?_
        refine l_y rfl rfl (y_extract rfl rfl) ?_
        refine l_y rfl rfl (y_extract rfl rfl) ?_
        refine Y3 hO rfl rfl (fun w hO => ?_)
        refine l_y rfl rfl (y_assign rfl) ?_
        refine K2 ?_
        exact q_next ((b12, ok2, c2', l2, _, _)) ⟨rfl, rfl, rfl, rfl, rfl, rfl, rfl, rfl, rfl, trivial⟩ ⟨hO.only [.o a, .o b8, .o b10, .b b2, .b b12], hJ.1⟩ (by have h := hJ.2; dsimp only; omega)
    · refine K7 (L1 (L1 (L2 (K3 (K0 ?_)))))
      have hI := hI
      rw [hc36] at hI
      have hdn := hI.done
      have hbl := hI.len
      have hcs : 2 * A.length * CS ≤ 2000 * CS := Nat.mul_le_mul_right _ (by omega)
      have hcv : 2000 * CS = 6600000000000 := rfl
      refine K1 ?_
      refine CK [.o b8] hO rfl (fun k' hx hr hO' => String_spec k' _ b8 _ (by omega) hO') ?_
      rintro _ _ w ⟨rfl, rfl⟩ hO
      simp only [List.cons_append, List.nil_append] at hO
      refine l_y rfl rfl (y_assign rfl) ?_
      refine l_y rfl rfl (y_assign rfl) ?_
      refine K2 (K3 (K6 ?_))
      exact fin2 rfl rfl rfl ⟨_, ⟨by rw [showT, if_pos hb, ← hdn, errN, if_pos hb], rfl⟩, hO.only [.o a]⟩
end
end Go.Proofs.Ythkmnohghpdjhaa
end
section
set_option linter.unusedVariables false
set_option linter.unusedSimpArgs false
namespace Go.Proofs.Ythkmnohghpdjhaa
open Go Go.Hb Go.RowKit
inductive All2 {α β : Type} (R : α → β → Prop) : List α → List β → Prop
  | nil : All2 R [] []
  | cons {a : α} {b : β} {l : List α} {m : List β} (h : R a b) (t : All2 R l m) : All2 R (a :: l) (b :: m)
theorem All2.app {α β : Type} {R : α → β → Prop} {l l' : List α} {m m' : List β} (h : All2 R l m) (h' : All2 R l' m') : All2 R (l ++ l') (m ++ m') := by
  induction h with
  | nil => exact h'
  | cons h _ ih => exact .cons h ih
structure AlkI (A : List Node_one) (K : Int → List Int) (B : List Node_one) (L : Int → List Int) (x y : Show_item) : Prop where
  dep : x.depth = y.depth
  line : x.line = y.line
  same : x.line = ⟨#[]⟩ → sameN A K B L x.id y.id = true
section
variable {A B : List Node_one} {K L : Int → List Int} {srt : List Api_attr → List Api_attr}
theorem same_parts (t : Tree A K) (g : InnOk A) {x y : Int} (h : sameN A K B L x y = true) : Loc A K B L x y ∧ ∀ p ∈ belowP A K B L x y, sameN A K B L p.1 p.2 = true := by
  rw [sameN_step t g, Bool.and_eq_true] at h
  exact ⟨locB_iff.1 h.1, List.all_eq_true.1 h.2⟩
theorem kids_all2 {d : Int} : ∀ {l m : List Int}, l.length = m.length → (∀ p ∈ l.zip m, sameN A K B L p.1 p.2 = true) → All2 (AlkI A K B L) (l.map (kidI d)) (m.map (kidI d))
  | [], [], _, _ => .nil
  | [], _ :: _, h, _ => by simp at h
  | _ :: _, [], h, _ => by simp at h
  | a :: l, b :: m, h, hs => .cons ⟨rfl, rfl, fun _ => hs (a, b) (by simp)⟩ (kids_all2 (by simpa using h) fun p hp => hs p (by simp [hp]))
theorem zip_below {x y : Int} {p : Int × Int} (h : p ∈ (K x).zip (L y)) : p ∈ belowP A K B L x y := by
  unfold belowP; exact List.mem_append_right _ h
theorem next_all2 (t : Tree A K) (g : InnOk A) {x y : Show_item} (h : AlkI A K B L x y) : All2 (AlkI A K B L) (nextI A K x) (nextI B L y) := by
  unfold nextI
  by_cases e : x.line = ⟨#[]⟩
  · have hs := same_parts t g (h.same e)
    rw [if_neg (by simp [e]), if_neg (by rw [← h.line]; simp [e])]
    refine All2.app ?_ ?_
    · unfold innI
      by_cases hi : (nodeA A x.id).Inner = -1
      · rw [if_pos hi, if_pos (hs.1.inner.1 hi)]; exact .nil
      · have hj : ¬ (nodeA B y.id).Inner = -1 := fun c => hi (hs.1.inner.2 c)
        rw [if_neg hi, if_neg hj, h.dep]
        have h2 := same_parts t g (hs.2 ((nodeA A x.id).Inner, (nodeA B y.id).Inner) (by unfold belowP; rw [if_neg hi]; simp))
        exact .cons ⟨rfl, rfl, fun c => by simp [contI] at c⟩ (kids_all2 h2.1.kids fun p hp => h2.2 p (zip_below hp))
    · rw [h.dep]
      exact kids_all2 hs.1.kids fun p hp => hs.2 p (zip_below hp)
  · rw [if_pos e, if_pos (by rw [← h.line]; exact e)]; exact .nil
theorem txt_alike (t : Tree A K) (g : InnOk A) {x y : Show_item} (h : AlkI A K B L x y) : txtI A srt x = txtI B srt y := by
  unfold txtI
  by_cases e : x.line = ⟨#[]⟩
  · have hs := (same_parts t g (h.same e)).1
    have hh : headT (nodeA A x.id) = headT (nodeA B y.id) := by
      unfold headT idsT
      rw [hs.kind, hs.space, hs.name, hs.data, hs.system]
    rw [if_neg (by simp [e]), if_neg (by rw [← h.line]; simp [e]), hh, h.dep, hs.attrs]
  · rw [if_pos e, if_pos (by rw [← h.line]; exact e), h.dep, h.line]
theorem showF_alike (t : Tree A K) (g : InnOk A) : ∀ (n : Nat) {l m : List Show_item}, All2 (AlkI A K B L) l m → showF A K srt n l = showF B L srt n m
  | 0, _, _, _ => rfl
  | n + 1, _, _, .nil => rfl
  | n + 1, _, _, .cons h r => by
    rw [showF, showF, txt_alike t g h, showF_alike t g n ((next_all2 t g h).app r)]
/-- more rounds than needed change nothing -/
theorem showF_more (t : Tree A K) (g : InnOk A) : ∀ (n n' : Nat) (l : List Show_item), (∀ x ∈ l, okI A x) → wL A l ≤ n → wL A l ≤ n' → showF A K srt n l = showF A K srt n' l
  | 0, n', [], _, _, _ => (showF_nil n').symm
  | n + 1, n', [], _, _, _ => (showF_nil n').symm
  | 0, n', x :: l, h, hw, _ => by
    have := wI_pos (h x (by simp))
    rw [wL_cons] at hw; omega
  | n + 1, 0, x :: l, h, _, hw => by
    have := wI_pos (h x (by simp))
    rw [wL_cons] at hw; omega
  | n + 1, n' + 1, x :: l, h, hw, hw' => by
    have h1 := next_w t g (h x (by simp))
    rw [wL_cons] at hw hw'
    rw [showF, showF, showF_more t g n n' _ (fun y hy => by
      rcases List.mem_append.1 hy with hy | hy
      · exact (next_ok t g (h x (by simp)) y hy).1
      · exact h y (by simp [hy])) (by rw [wL_app]; omega) (by rw [wL_app]; omega)]
theorem showT_alike (t : Tree A K) (g : InnOk A) (t2 : Tree B L) (g2 : InnOk B) {x y : Int} (h : sameN A K B L x y = true) : showT A K srt x = showT B L srt y := by
  have hs := same_parts t g h
  have hx := inA_iff.1 hs.1.ha
  have hy := inA_iff.1 hs.1.hb
  have wx : wL A ((K x).map (kidI 0)) ≤ 2 * A.length := by
    rw [wL_kids]; have h1 := kids_cnt t hx; have h2 := cnt_le (A := A) (x := x); omega
  have wy : wL B ((L y).map (kidI 0)) ≤ 2 * B.length := by
    rw [wL_kids]; have h1 := kids_cnt t2 hy; have h2 := cnt_le (A := B) (x := y); omega
  rw [showT, if_pos hs.1.ha, showT, if_pos hs.1.hb, showF_more t g _ (2 * A.length + 2 * B.length) _ (fun z hz => by
    obtain ⟨c, hc, rfl⟩ := List.mem_map.1 hz
    exact fun _ => (kid_up t hx hc).1) wx (by omega), showF_more t2 g2 (2 * B.length) (2 * A.length + 2 * B.length) _ (fun z hz => by
    obtain ⟨c, hc, rfl⟩ := List.mem_map.1 hz
    exact fun _ => (kid_up t2 hy hc).1) wy (by omega)]
  exact showF_alike t g _ (kids_all2 hs.1.kids fun p hp => hs.2 p (zip_below hp))
end
end Go.Proofs.Ythkmnohghpdjhaa
end
section
set_option linter.unusedVariables false
set_option linter.unusedSimpArgs false
namespace Go.Proofs.Ythkmnohghpdjhaa
open Go Go.Hb Go.RowKit
section
variable {A B : List Node_one} {K L : Int → List Int}
theorem Loc.symm {x y : Int} (h : Loc A K B L x y) : Loc B L A K y x :=
  ⟨h.hb, h.ha, h.kind.symm, h.space.symm, h.name.symm, h.data.symm, h.system.symm, h.attrs.symm, h.kids.symm, h.inner.symm⟩
theorem zip_swap : ∀ {l m : List Int} {p : Int × Int}, p ∈ m.zip l → (p.2, p.1) ∈ l.zip m
  | [], m, p, h => by simp at h
  | _ :: _, [], p, h => by simp at h
  | a :: l, b :: m, p, h => by
    rw [List.zip_cons_cons, List.mem_cons] at h ⊢
    rcases h with rfl | h
    · exact .inl rfl
    · exact .inr (zip_swap h)
theorem below_swap {x y : Int} (h : Loc A K B L x y) {p : Int × Int} (hp : p ∈ belowP B L A K y x) : (p.2, p.1) ∈ belowP A K B L x y := by
  unfold belowP at hp ⊢
  rcases List.mem_append.1 hp with hp | hp
  · refine List.mem_append_left _ ?_
    by_cases hi : (nodeA B y).Inner = -1
    · rw [if_pos hi] at hp; simp at hp
    · rw [if_neg hi] at hp
      rw [if_neg fun c => hi (h.inner.1 c), List.mem_singleton.1 hp]; simp
  · exact List.mem_append_right _ (zip_swap hp)
theorem sameF_symm : ∀ (f : Nat) (x y : Int), sameF A K B L f x y = true → sameF B L A K f y x = true
  | 0, _, _, h => by cases h
  | f + 1, x, y, h => by
    have h : (locB A K B L x y && (belowP A K B L x y).all fun p => sameF A K B L f p.1 p.2) = true := h
    rw [Bool.and_eq_true] at h
    have hl := locB_iff.1 h.1
    have ha := List.all_eq_true.1 h.2
    show (locB B L A K y x && (belowP B L A K y x).all fun p => sameF B L A K f p.1 p.2) = true
    rw [Bool.and_eq_true]
    exact ⟨locB_iff.2 hl.symm, List.all_eq_true.2 fun p hp => sameF_symm f _ _ (ha _ (below_swap hl hp))⟩
theorem sameN_symm1 (t : Tree A K) (g : InnOk A) (t2 : Tree B L) (g2 : InnOk B) {x y : Int} (h : sameN A K B L x y = true) : sameN B L A K y x = true := by
  have e : sameN A K B L x y = sameF A K B L (A.length + B.length) x y := sameF_fuel t g _ _ _ _ cnt_le (Nat.le_trans cnt_le (Nat.le_add_right _ _))
  have e2 : sameN B L A K y x = sameF B L A K (A.length + B.length) y x := sameF_fuel t2 g2 _ _ _ _ cnt_le (Nat.le_trans cnt_le (Nat.le_add_left _ _))
  rw [e2]
  exact sameF_symm _ _ _ (e ▸ h)
theorem sameN_symm (t : Tree A K) (g : InnOk A) (t2 : Tree B L) (g2 : InnOk B) (x y : Int) : sameN A K B L x y = sameN B L A K y x := by
  cases h : sameN A K B L x y with
  | true => rw [sameN_symm1 t g t2 g2 h]
  | false =>
    cases h2 : sameN B L A K y x with
    | false => rfl
    | true => rw [sameN_symm1 t2 g2 t g h2] at h; cases h
theorem zip_self : ∀ {l : List Int} {p : Int × Int}, p ∈ l.zip l → p.1 = p.2 ∧ p.1 ∈ l
  | [], p, h => by simp at h
  | a :: l, p, h => by
    rw [List.zip_cons_cons, List.mem_cons] at h
    rcases h with rfl | h
    · exact ⟨rfl, by simp⟩
    · exact ⟨(zip_self h).1, List.mem_cons_of_mem _ (zip_self h).2⟩
end
end Go.Proofs.Ythkmnohghpdjhaa
end
section
set_option linter.unusedVariables false
set_option linter.unusedSimpArgs false
namespace Go.Proofs.Ythkmnohghpdjhaa
open Go Go.Hb Go.RowKit
section
variable {A B : List Node_one} {K : Int → List Int}
/-- the second arena shows what the first shows -/
def Twin (A B : List Node_one) (K : Int → List Int) : Prop := ∀ x, InA A x → Loc A K B K x x ∧ (nodeA B x).Inner = (nodeA A x).Inner
theorem sameF_twin (t : Tree A K) (g : InnOk A) (hc : Twin A B K) : ∀ (f : Nat) (x : Int), InA A x → cnt A x ≤ f → sameF A K B K f x x = true
  | 0, x, hx, h => by have := cnt_pos hx; omega
  | f + 1, x, hx, h => by
    show (locB A K B K x x && (belowP A K B K x x).all fun p => sameF A K B K f p.1 p.2) = true
    rw [Bool.and_eq_true]
    refine ⟨locB_iff.2 (hc x hx).1, List.all_eq_true.2 fun p hp => ?_⟩
    have hb := below_cnt t g (B := B) (L := K) (y := x) hx
    have hm := sum_memP (f := fun p => cnt A p.1) hp
    have hp2 : p.1 = p.2 ∧ InA A p.1 := by
      unfold belowP at hp
      rcases List.mem_append.1 hp with hp | hp
      · by_cases hi : (nodeA A x).Inner = -1
        · rw [if_pos hi] at hp; simp at hp
        · rw [if_neg hi] at hp
          rw [List.mem_singleton.1 hp]
          exact ⟨(hc x hx).2.symm, (inner_up t g hx hi).1⟩
      · exact ⟨(zip_self hp).1, (kid_up t hx (zip_self hp).2).1⟩
    rw [← hp2.1]
    exact sameF_twin t g hc f _ hp2.2 (by omega)
theorem sameN_twin (t : Tree A K) (g : InnOk A) (hc : Twin A B K) (x : Int) : sameN A K B K x x = hasB A x := by
  cases h : hasB A x with
  | true => exact sameF_twin t g hc _ _ (inA_iff.1 h) cnt_le
  | false => exact sameN_no t g fun hl => by have := hl.ha; rw [h] at this; cases this
end
end Go.Proofs.Ythkmnohghpdjhaa
end
section
set_option linter.unusedVariables false
set_option linter.unusedSimpArgs false
namespace Go.Proofs.Ythkmnohghpdjhaa
open Go Go.Hb Go.RowKit
section
variable {α : Type} [Inhabited α]
/-- two places exchanged -/
def swpL (l : List α) (i j : Nat) : List α := (l.set i (at_ l j)).set j (at_ l i)
theorem swpL_len {l : List α} {i j : Nat} : (swpL l i j).length = l.length := by simp [swpL]
theorem swpL_perm {l : List α} {i j : Nat} (hi : i < l.length) (hj : j < l.length) : (swpL l i j).Perm l := by
  have h1 : at_ l i = l[i] := by have := at_get hi; rw [List.getElem?_eq_getElem hi] at this; exact (Option.some.inj this).symm
  have h2 : at_ l j = l[j] := by have := at_get hj; rw [List.getElem?_eq_getElem hj] at this; exact (Option.some.inj this).symm
  rw [swpL, h1, h2]
  exact List.set_set_perm hi hj
/-- the insertion's inner loop: j goes down to a -/
def insD (lt : α → α → Bool) (a : Nat) : Nat → List α → List α
  | 0, l => l
  | j + 1, l => if a < j + 1 ∧ lt (at_ l (j + 1)) (at_ l j) = true then insD lt a j (swpL l (j + 1) j) else l
theorem insD_perm {lt : α → α → Bool} {a : Nat} : ∀ {j : Nat} {l : List α}, j < l.length → (insD lt a j l).Perm l
  | 0, l, _ => .refl _
  | j + 1, l, h => by
    unfold insD
    split
    · exact (insD_perm (by rw [swpL_len]; omega)).trans (swpL_perm h (by omega))
    · exact .refl _
/-- the insertion's outer loop: n rounds from i on -/
def insO (lt : α → α → Bool) (a : Nat) : Nat → Nat → List α → List α
  | 0, _, l => l
  | n + 1, i, l => insO lt a n (i + 1) (insD lt a i l)
theorem insO_perm {lt : α → α → Bool} {a : Nat} : ∀ {n i : Nat} {l : List α}, i + n ≤ l.length → (insO lt a n i l).Perm l
  | 0, _, _, _ => .refl _
  | n + 1, i, l, h => by
    have hp := insD_perm (lt := lt) (a := a) (j := i) (l := l) (by omega)
    have hq := insO_perm (lt := lt) (a := a) (n := n) (i := i + 1) (l := insD lt a i l) (by rw [hp.length_eq]; omega)
    exact hq.trans hp
/-- insertionSortCmpFunc(data, a, b) -/
def insS (lt : α → α → Bool) (a b : Nat) (l : List α) : List α := insO lt a (b - (a + 1)) (a + 1) l
theorem insS_perm {lt : α → α → Bool} {a b : Nat} {l : List α} (h : b ≤ l.length) : (insS lt a b l).Perm l := by
  unfold insS
  by_cases e : a + 1 ≤ b
  · exact insO_perm (by omega)
  · rw [show b - (a + 1) = 0 by omega]; exact .refl _
end
end Go.Proofs.Ythkmnohghpdjhaa
end
section
set_option linter.unusedVariables false
set_option linter.unusedSimpArgs false
namespace Go.Proofs.Ythkmnohghpdjhaa
open Go Go.Hb Go.RowKit
section
variable {α : Type} [Inhabited α]
/-- swapRangeCmpFunc(data, a, b, n) -/
def swpR : Nat → Nat → Nat → List α → List α
  | 0, _, _, l => l
  | n + 1, a, b, l => swpR n (a + 1) (b + 1) (swpL l a b)
theorem swpR_perm : ∀ {n a b : Nat} {l : List α}, a + n ≤ l.length → b + n ≤ l.length → (swpR n a b l).Perm l
  | 0, _, _, _, _, _ => .refl _
  | n + 1, a, b, l, h, h2 => by
    have h3 : (swpL l a b).Perm l := swpL_perm (by omega) (by omega)
    exact (swpR_perm (n := n) (a := a + 1) (b := b + 1) (l := swpL l a b) (by rw [swpL_len]; omega) (by rw [swpL_len]; omega)).trans h3
/-- rotateCmpFunc: i, j are the lengths of what is still to be exchanged at m -/
def rotF (m : Nat) : Nat → Nat → Nat → List α → List α
  | 0, _, _, l => l
  | f + 1, i, j, l => if i = j then swpR i (m - i) m l else if j < i then rotF m f (i - j) j (swpR j (m - i) m l) else rotF m f i (j - i) (swpR i (m - i) (m + j - i) l)
theorem rotF_perm {m : Nat} : ∀ {f i j : Nat} {l : List α}, i ≤ m → m + j ≤ l.length → (rotF m f i j l).Perm l
  | 0, _, _, _, _, _ => .refl _
  | f + 1, i, j, l, h, h2 => by
    unfold rotF
    split
    · exact swpR_perm (by omega) (by omega)
    · split
      · have h3 : (swpR j (m - i) m l).Perm l := swpR_perm (by omega) (by omega)
        exact (rotF_perm (by omega) (by rw [h3.length_eq]; omega)).trans h3
      · have h3 : (swpR i (m - i) (m + j - i) l).Perm l := swpR_perm (by omega) (by omega)
        exact (rotF_perm (by omega) (by rw [h3.length_eq]; omega)).trans h3
/-- a search by halves -/
def srch (P : Nat → Bool) : Nat → Nat → Nat → Nat
  | 0, i, _ => i
  | f + 1, i, j => if i < j then if P ((i + j) / 2) = true then srch P f ((i + j) / 2 + 1) j else srch P f i ((i + j) / 2) else i
theorem srch_le {P : Nat → Bool} : ∀ {f i j : Nat}, i ≤ j → i ≤ srch P f i j ∧ srch P f i j ≤ j
  | 0, i, j, h => ⟨Nat.le_refl _, h⟩
  | f + 1, i, j, h => by
    unfold srch
    split
    · split
      · have := srch_le (P := P) (f := f) (i := (i + j) / 2 + 1) (j := j) (by omega); omega
      · have := srch_le (P := P) (f := f) (i := i) (j := (i + j) / 2) (by omega); omega
    · exact ⟨Nat.le_refl _, h⟩
/-- an element goes up, place by place -/
def movU : Nat → Nat → List α → List α
  | 0, _, l => l
  | n + 1, k, l => movU n (k + 1) (swpL l k (k + 1))
theorem movU_perm : ∀ {n k : Nat} {l : List α}, k + n < l.length → (movU n k l).Perm l
  | 0, _, _, _ => .refl _
  | n + 1, k, l, h => by
    have h3 : (swpL l k (k + 1)).Perm l := swpL_perm (by omega) (by omega)
    exact (movU_perm (n := n) (k := k + 1) (l := swpL l k (k + 1)) (by rw [swpL_len]; omega)).trans h3
/-- .. and down -/
def movD : Nat → Nat → List α → List α
  | 0, _, l => l
  | n + 1, k, l => movD n (k - 1) (swpL l k (k - 1))
theorem movD_perm : ∀ {n k : Nat} {l : List α}, n ≤ k → k < l.length → (movD n k l).Perm l
  | 0, _, _, _, _ => .refl _
  | n + 1, k, l, h, h2 => by
    have h3 : (swpL l k (k - 1)).Perm l := swpL_perm (by omega) (by omega)
    exact (movD_perm (n := n) (k := k - 1) (l := swpL l k (k - 1)) (by omega) (by rw [swpL_len]; omega)).trans h3
/-- where the merge begins to look -/
def symS (a m b : Nat) : Nat := if (a + b) / 2 < m then (a + b) / 2 + m - b else a
def symR (a m b : Nat) : Nat := if (a + b) / 2 < m then (a + b) / 2 else m
theorem symS_le {a m b : Nat} (h1 : a < m) (h2 : m < b) : symS a m b ≤ symR a m b ∧ a ≤ symS a m b ∧ (a + b) / 2 + m - b ≤ symS a m b ∧ symR a m b ≤ m ∧ symR a m b ≤ (a + b) / 2 := by
  unfold symS symR
  split <;> omega
variable (lt : α → α → Bool)
def symX (l : List α) (a m b : Nat) : Nat := srch (fun c => !lt (at_ l ((a + b) / 2 + m - 1 - c)) (at_ l c)) b (symS a m b) (symR a m b)
def symX1 (l : List α) (a m b : Nat) : Nat := srch (fun h => lt (at_ l h) (at_ l a)) b m b
def symX2 (l : List α) (a m : Nat) : Nat := srch (fun h => !lt (at_ l m) (at_ l h)) m a m
def symL (l : List α) (a m b s : Nat) : List α := if s < m ∧ m < (a + b) / 2 + m - s then rotF m ((a + b) / 2 + m - s - s) (m - s) ((a + b) / 2 + m - s - m) l else l
/-- symMergeCmpFunc(data, a, m, b) -/
def symF : Nat → Nat → Nat → Nat → List α → List α
  | 0, _, _, _, l => l
  | f + 1, a, m, b, l =>
    if m - a = 1 then movU (symX1 lt l a m b - 1 - a) a l
    else if b - m = 1 then movD (m - symX2 lt l a m) m l
    else
      let s := symX lt l a m b
      let l1 := symL l a m b s
      let l2 := if a < s ∧ s < (a + b) / 2 then symF f a s ((a + b) / 2) l1 else l1
      if (a + b) / 2 < (a + b) / 2 + m - s ∧ (a + b) / 2 + m - s < b then symF f ((a + b) / 2) ((a + b) / 2 + m - s) b l2 else l2
theorem symX_le {l : List α} {a m b : Nat} (h1 : a < m) (h2 : m < b) : symS a m b ≤ symX lt l a m b ∧ symX lt l a m b ≤ symR a m b := srch_le (symS_le h1 h2).1
theorem symL_perm {l : List α} {a m b s : Nat} (h1 : a < m) (h2 : m < b) (h3 : b ≤ l.length) (h4 : symS a m b ≤ s) : (symL l a m b s).Perm l := by
  have := symS_le h1 h2
  unfold symL
  split
  · exact rotF_perm (by omega) (by omega)
  · exact .refl _
theorem symF_perm : ∀ {f a m b : Nat} {l : List α}, a < m → m < b → b ≤ l.length → (symF lt f a m b l).Perm l
  | 0, _, _, _, _, _, _, _ => .refl _
  | f + 1, a, m, b, l, h1, h2, h3 => by
    unfold symF
    split
    · have := srch_le (P := fun h => lt (at_ l h) (at_ l a)) (f := b) (i := m) (j := b) (by omega)
      exact movU_perm (by unfold symX1; omega)
    · split
      · have := srch_le (P := fun h => !lt (at_ l m) (at_ l h)) (f := m) (i := a) (j := m) (by omega)
        exact movD_perm (by unfold symX2; omega) (by omega)
      · dsimp only
        have hs := symX_le lt (l := l) h1 h2
        have hs2 := symS_le h1 h2
        have p1 := symL_perm (l := l) h1 h2 h3 hs.1
        generalize symX lt l a m b = s at *
        generalize symL l a m b s = l1 at *
        have p2 : (if a < s ∧ s < (a + b) / 2 then symF lt f a s ((a + b) / 2) l1 else l1).Perm l := by
          split
          · next h => exact (symF_perm h.1 h.2 (by rw [p1.length_eq]; omega)).trans p1
          · exact p1
        generalize (if a < s ∧ s < (a + b) / 2 then symF lt f a s ((a + b) / 2) l1 else l1) = l2 at *
        split
        · next h => exact (symF_perm h.1 h.2 (by rw [p2.length_eq]; omega)).trans p2
        · exact p2
/-- stableCmpFunc's first loop: blocks of twenty -/
def stI (n : Nat) : Nat → Nat → List α → List α
  | 0, _, l => l
  | f + 1, a, l => if a + 20 ≤ n then stI n f (a + 20) (insS lt a (a + 20) l) else insS lt a n l
theorem stI_perm {n : Nat} : ∀ {f a : Nat} {l : List α}, n ≤ l.length → (stI lt n f a l).Perm l
  | 0, _, _, _ => .refl _
  | f + 1, a, l, h => by
    unfold stI
    split
    · have h3 : (insS lt a (a + 20) l).Perm l := insS_perm (by omega)
      exact (stI_perm (by rw [h3.length_eq]; omega)).trans h3
    · exact insS_perm h
/-- its merges of blocks of one size -/
def stG (n bs : Nat) : Nat → Nat → List α → List α
  | 0, _, l => l
  | f + 1, a, l => if a + 2 * bs ≤ n then stG n bs f (a + 2 * bs) (symF lt n a (a + bs) (a + 2 * bs) l) else if a + bs < n then symF lt n a (a + bs) n l else l
theorem stG_perm {n bs : Nat} (hb : 0 < bs) : ∀ {f a : Nat} {l : List α}, n ≤ l.length → (stG lt n bs f a l).Perm l
  | 0, _, _, _ => .refl _
  | f + 1, a, l, h => by
    unfold stG
    split
    · have h3 : (symF lt n a (a + bs) (a + 2 * bs) l).Perm l := symF_perm lt (by omega) (by omega) (by omega)
      exact (stG_perm hb (by rw [h3.length_eq]; omega)).trans h3
    · split
      · exact symF_perm lt (by omega) (by omega) h
      · exact .refl _
/-- .. and of all sizes -/
def stM (n : Nat) : Nat → Nat → List α → List α
  | 0, _, l => l
  | f + 1, bs, l => if bs < n then stM n f (2 * bs) (stG lt n bs (n + 1) 0 l) else l
theorem stM_perm {n : Nat} : ∀ {f bs : Nat} {l : List α}, 0 < bs → n ≤ l.length → (stM lt n f bs l).Perm l
  | 0, _, _, _, _ => .refl _
  | f + 1, bs, l, hb, h => by
    unfold stM
    split
    · have h3 := stG_perm lt (n := n) hb (f := n + 1) (a := 0) (l := l) h
      exact (stM_perm (by omega) (by rw [h3.length_eq]; omega)).trans h3
    · exact .refl _
/-- stableCmpFunc(data, n) -/
def stS (l : List α) : List α := stM lt l.length (l.length + 1) 20 (stI lt l.length (l.length + 1) 0 l)
theorem stS_perm {l : List α} : (stS lt l).Perm l := by
  have h := stI_perm lt (n := l.length) (f := l.length + 1) (a := 0) (l := l) (Nat.le_refl _)
  exact (stM_perm lt (by omega) (by rw [h.length_eq]; omega)).trans h
end
end Go.Proofs.Ythkmnohghpdjhaa
end
section
set_option linter.unusedVariables false
set_option linter.unusedSimpArgs false
set_option maxRecDepth 100000
namespace Go.Proofs
open Go.Shelf
def Try.lays213_ren : Go.Shelf.Ren := ⟨fun | 213 => 88 | 265 => 103 | n => n, fun | 9 => 9 | 3 => 3 | n => n, fun | n => n⟩
def Try.lays106_ren : Go.Shelf.Ren := ⟨fun | 106 => 60 | 213 => 88 | 265 => 103 | n => n, fun | 9 => 9 | 3 => 3 | n => n, fun | n => n⟩
theorem Try.lays106 : Go.Proofs.Lays.n106 Try.prog Try.lays106_ren := {
  mixed := by kernel_rfl
  f106 := Try.func60.trans (congrArg some (by kernel_rfl))
  f213 := Try.func88.trans (congrArg some (by kernel_rfl))
  f265 := Try.func103.trans (congrArg some (by kernel_rfl))
  t3 := Try.underlying3
  a3 := Try.isAgg3
  z3 := Try.sizeOf3
  v3 := Try.zeroValue3
  t9 := Try.underlying9
  a9 := Try.isAgg9
  z9 := Try.sizeOf9
  v9 := Try.zeroValue9 }
theorem Try.strings_Compare (a b : ByteArray) (w : World) :
    Calls Try.prog 60 #[.string a, .string b] w fun e w' => e = .returned (.int .i64 (Lib.compareBytes a.data.toList b.data.toList)) ∧ w' = w := Any.strings_Compare Try.lays106 a b w
end Go.Proofs
namespace Go.Proofs.Ythkmnohghpdjhaa
open Go Go.Hb Go.RowKit
section
variable {k : Ctx} {w : World}
theorem Compare_spec {a b : ByteArray} (hO : Own k w []) : Tri Try.prog 60 #[.string a, .string b] k w fun v m => v = .int .i64 (Lib.compareBytes (tl a) (tl b)) ∧ m = [] :=
  (Try.strings_Compare a b w).mono fun x w' ⟨h1, h2⟩ => ⟨_, h1, [], ⟨rfl, rfl⟩, h2 ▸ hO⟩
def keyA (x : Api_attr) : List UInt8 := tl (spaceT x.Space) ++ tl x.Name
theorem cmp3_spec {x y : Api_attr} (hx : x.Name.size ≤ 1048576) (hy : y.Name.size ≤ 1048576) (hO : Own k w []) : Tri Try.prog 59 #[.agg (Api_attr.cells x).toArray, .agg (Api_attr.cells y).toArray] k w fun v m => v = .int .i64 (Lib.compareBytes (keyA x) (keyA y)) ∧ m = [] := by
  refine enter (args := [.agg (Api_attr.cells x).toArray, .agg (Api_attr.cells y).toArray]) Try.func59 rfl rfl ?_
  have h4 := spaceT_len x.Space
  have h5 := spaceT_len y.Space
  rw [← tl_len] at h4 h5 hx hy
  refine K0 (K1 ?_)
  refine s_box (vs := [.int .i64 x.Space, .string x.Prefix, .string x.Name, .string x.Value]) hO rfl rfl rfl (by rfl) fun b2 w hO => ?_
  refine s_box (vs := [.int .i64 y.Space, .string y.Prefix, .string y.Name, .string y.Value]) hO rfl rfl rfl (by rfl) fun b3 w hO => ?_
  refine l_y rfl rfl (y_assign rfl) ?_
  refine K2 (K3 (K0 ?_))
  refine da_region (by intro c a d v w h; cases d <;> exact h) ?_
  have hO := hO.drew
  refine da_phase _ [12] (SO.ks [.b b2, .b b3] hO) ?_
  refine dx_u 0 (by kernel_rfl) rfl rfl rfl (fun w => y_fldb (o' := 0) rfl) ?_
  refine dx_y 1 (by kernel_rfl) rfl rfl rfl (fun w ⟨m, hw⟩ => D5 hw rfl) ?_
  refine dx_u 3 (by kernel_rfl) rfl rfl rfl (fun w => y_fldb (o' := 2) rfl) ?_
  refine dx_y 4 (by kernel_rfl) rfl rfl rfl (fun w ⟨m, hw⟩ => D5 hw rfl) ?_
  refine dx_u 6 (by kernel_rfl) rfl rfl rfl (fun w => y_fldb (o' := 0) rfl) ?_
  refine dx_y 7 (by kernel_rfl) rfl rfl rfl (fun w ⟨m, hw⟩ => D5 hw rfl) ?_
  refine dx_u 9 (by kernel_rfl) rfl rfl rfl (fun w => y_fldb (o' := 2) rfl) ?_
  refine dx_y 10 (by kernel_rfl) rfl rfl rfl (fun w ⟨m, hw⟩ => D5 hw rfl) ?_
  refine dx_only 2 (by kernel_rfl) rfl rfl ?_
  refine CK [] hO rfl (fun k' hx hr hO' => space_spec (hO := hO')) ?_
  rintro _ _ w ⟨rfl, rfl⟩ hO
  simp only [List.cons_append, List.nil_append] at hO
  refine o_done ?_
  refine ⟨SO.ks [.b b2, .b b3] hO, ?_⟩
  refine dx_y 5 (by kernel_rfl) rfl rfl rfl (fun w ⟨m, hw⟩ => y_catB (X := tl (spaceT x.Space)) (Y := tl x.Name) rfl rfl rfl rfl (by omega)) ?_
  refine dx_only 8 (by kernel_rfl) rfl rfl ?_
  refine CK [] hO rfl (fun k' hx hr hO' => space_spec (hO := hO')) ?_
  rintro _ _ w ⟨rfl, rfl⟩ hO
  simp only [List.cons_append, List.nil_append] at hO
  refine o_done ?_
  refine ⟨SO.ks [.b b2, .b b3] hO, ?_⟩
  refine dx_y 11 (by kernel_rfl) rfl rfl rfl (fun w ⟨m, hw⟩ => y_catB (X := tl (spaceT y.Space)) (Y := tl y.Name) rfl rfl rfl rfl (by omega)) ?_
  refine dx_close 12 (by kernel_rfl) rfl rfl ?_
  refine CK [] hO rfl (fun k' hx hr hO' => Compare_spec hO') ?_
  rintro _ _ w ⟨rfl, rfl⟩ hO
  simp only [List.cons_append, List.nil_append] at hO
  rw [tl_ba, tl_ba]
  refine o_done ?_
  refine da_phase _ [] (SO.ks [] hO) ?_
  refine dx_u 13 (by kernel_rfl) rfl rfl rfl (fun w => y_assign rfl) ?_
  refine dx_end (by kernel_rfl) ?_
  refine K3 (K6 ?_)
  exact fin1 rfl rfl ⟨_, ⟨rfl, rfl⟩, hO.only []⟩
end
end Go.Proofs.Ythkmnohghpdjhaa
end
section
set_option linter.unusedVariables false
set_option linter.unusedSimpArgs false
set_option maxRecDepth 100000
namespace Go.Proofs.Ythkmnohghpdjhaa
open Go Go.Hb Go.RowKit
section
variable {α : Type} [Inhabited α] {lt : α → α → Bool}
theorem insD_t {a j : Nat} {l : List α} (h : a < j) (hp : lt (at_ l j) (at_ l (j - 1)) = true) : insD lt a j l = insD lt a (j - 1) (swpL l j (j - 1)) := by
  cases j with
  | zero => omega
  | succ j => rw [insD, if_pos ⟨h, hp⟩]; rfl
theorem insD_f {a j : Nat} {l : List α} (h : ¬ (a < j ∧ lt (at_ l j) (at_ l (j - 1)) = true)) : insD lt a j l = l := by
  cases j with
  | zero => rfl
  | succ j => unfold insD; exact if_neg h
theorem insO_t {a n i : Nat} {l : List α} (h : 0 < n) : insO lt a n i l = insO lt a (n - 1) (i + 1) (insD lt a i l) := by
  cases n with
  | zero => omega
  | succ n => rfl
theorem swpR_t {a b n : Nat} {l : List α} (h : 0 < n) : swpR n a b l = swpR (n - 1) (a + 1) (b + 1) (swpL l a b) := by
  cases n with
  | zero => omega
  | succ n => rfl
end
/-- the order that Show sorts by -/
def ltA (x y : Api_attr) : Bool := decide (Lib.compareBytes (keyA x) (keyA y) < 0)
def NmOk (xs : List Api_attr) : Prop := ∀ y ∈ xs, y.Name.size ≤ 1048576
theorem NmOk.perm {xs ys : List Api_attr} (h : NmOk xs) (hp : ys.Perm xs) : NmOk ys := fun y hy => h y (hp.mem_iff.1 hy)
theorem NmOk.at_ {xs : List Api_attr} (h : NmOk xs) {i : Nat} (hi : i < xs.length) : (at_ xs i).Name.size ≤ 1048576 := h _ (at_mem hi)
section
variable {k : Ctx} {w : World}
set_option maxHeartbeats 1000000 in
theorem swpR_spec {p : Option Addr} {z c a b n : Nat} {xs : List Api_attr} {ai bi ni : Int} {v : Value} (ez : z = xs.length) (ea : ai = (a : Int)) (eb : bi = (b : Int)) (en : ni = (n : Int)) (ha : a + n ≤ xs.length) (hb : b + n ≤ xs.length) (hl : xs.length ≤ 1024) (hO : Own k w [sls p c 63 4 Api_attr.cells xs]) :
    Tri Try.prog 106 #[.slice p z c, .int .i64 ai, .int .i64 bi, .int .i64 ni, v] k w fun _ m => m = [sls p c 63 4 Api_attr.cells (swpR n a b xs)] := by
  subst ez ea eb en
  refine enter (args := [.slice p xs.length c, .int .i64 (a : Int), .int .i64 (b : Int), .int .i64 (n : Int), v]) Try.func106 rfl rfl ?_
  have hgs := (sls_fct (p := p) hO).2
  refine K0 (K1 ?_)
  refine l_y rfl rfl (y_assign rfl) ?_
  refine K2 (K3 (K4 ?_))
  refine c_rounds (X := Nat × List Api_attr) (fun s => [(0, .slice p xs.length c), (1, .int .i64 (a : Int)), (2, .int .i64 (b : Int)), (3, .int .i64 (n : Int)), (10, .int .i64 (s.1 : Int))]) (fun s w => Own k w [sls p c 63 4 Api_attr.cells s.2] ∧ (s.1 ≤ n ∧ s.2.length = xs.length) ∧ (swpR n a b xs = swpR (n - s.1) (a + s.1) (b + s.1) s.2)) (fun s => n - s.1) ((0, xs)) ⟨rfl, rfl, rfl, rfl, rfl, trivial⟩ ⟨hO.only [.p p], ⟨Nat.zero_le _, rfl⟩, rfl⟩ ?_
  rintro s w m hm ⟨hO, hsn, hT⟩
  have hgs2 : Gs p s.2.length := hsn.2 ▸ hgs
  refine K0 (K0 (K1 ?_))
  refine l_y rfl rfl (y_move rfl) ?_
  refine l_y rfl rfl (y_move rfl) ?_
  refine Z0 (fun h1_2 => ?_) (fun h1_2 => ?_)
  · refine K2 (K3 (L8 (K5 (K3 (K0 (K4 ?_))))))
    refine da_region (by intro c a d v w h; cases d <;> exact h) ?_
    have hO := hO.drew
    refine da_phase _ [21] (SO.ks [.p p] hO) ?_
    refine dx_u 0 (by kernel_rfl) rfl rfl rfl (fun w => y_move rfl) ?_
    refine dx_u 1 (by kernel_rfl) rfl rfl rfl (fun w => y_move rfl) ?_
    refine dx_u 2 (by kernel_rfl) rfl rfl rfl (fun w => y_move rfl) ?_
    refine dx_u 3 (by kernel_rfl) rfl rfl rfl (fun w => D4) ?_
    refine dx_u 4 (by kernel_rfl) rfl rfl rfl (fun w => y_move rfl) ?_
    refine dx_u 5 (by kernel_rfl) rfl rfl rfl (fun w => y_move rfl) ?_
    refine dx_u 6 (by kernel_rfl) rfl rfl rfl (fun w => y_move rfl) ?_
    refine dx_u 7 (by kernel_rfl) rfl rfl rfl (fun w => D4) ?_
    refine dx_u 8 (by kernel_rfl) rfl rfl rfl (fun w => y_move rfl) ?_
    refine dx_u 9 (by kernel_rfl) rfl rfl rfl (fun w => y_move rfl) ?_
    refine dx_u 10 (by kernel_rfl) rfl rfl rfl (fun w => y_move rfl) ?_
    refine dx_u 11 (by kernel_rfl) rfl rfl rfl (fun w => D4) ?_
    refine dx_u 12 (by kernel_rfl) rfl rfl rfl (fun w => y_idx rfl rfl) ?_
    refine dx_y 13 (by kernel_rfl) rfl rfl rfl (fun w ⟨m, hw⟩ => y_eA (x0 := 0) (cs := [.int .i64 (at_ s.2 (((b : Int) + (s.1 : Int)) : Int).toNat).Space, .string (at_ s.2 (((b : Int) + (s.1 : Int)) : Int).toNat).Prefix, .string (at_ s.2 (((b : Int) + (s.1 : Int)) : Int).toNat).Name, .string (at_ s.2 (((b : Int) + (s.1 : Int)) : Int).toNat).Value]) hw rfl) ?_
    refine dx_u 14 (by kernel_rfl) rfl rfl rfl (fun w => y_move rfl) ?_
    refine dx_u 15 (by kernel_rfl) rfl rfl rfl (fun w => y_move rfl) ?_
    refine dx_u 16 (by kernel_rfl) rfl rfl rfl (fun w => y_move rfl) ?_
    refine dx_u 17 (by kernel_rfl) rfl rfl rfl (fun w => D4) ?_
    refine dx_u 18 (by kernel_rfl) rfl rfl rfl (fun w => y_idx rfl rfl) ?_
    refine dx_y 19 (by kernel_rfl) rfl rfl rfl (fun w ⟨m, hw⟩ => y_eA (x0 := 0) (cs := [.int .i64 (at_ s.2 (((a : Int) + (s.1 : Int)) : Int).toNat).Space, .string (at_ s.2 (((a : Int) + (s.1 : Int)) : Int).toNat).Prefix, .string (at_ s.2 (((a : Int) + (s.1 : Int)) : Int).toNat).Name, .string (at_ s.2 (((a : Int) + (s.1 : Int)) : Int).toNat).Value]) hw rfl) ?_
    refine dx_u 20 (by kernel_rfl) rfl rfl rfl (fun w => y_idx rfl rfl) ?_
    refine dx_close 21 (by kernel_rfl) rfl rfl ?_
    refine s_eA (at_ s.2 ((b : Int) + (s.1 : Int)).toNat) hO rfl rfl (fun w hO => ?_)
    refine o_done ?_
    refine da_phase _ [23] (SO.ks [] hO) ?_
    refine dx_u 22 (by kernel_rfl) rfl rfl rfl (fun w => y_idx rfl rfl) ?_
    refine dx_close 23 (by kernel_rfl) rfl rfl ?_
    refine s_eA (at_ s.2 ((a : Int) + (s.1 : Int)).toNat) hO rfl rfl (fun w hO => ?_)
    refine o_done ?_
    refine da_end (by kernel_rfl) ?_
    refine K8 (K3 (K1 ?_))
    refine l_y rfl rfl (y_move rfl) ?_
    refine l_y rfl rfl (D4) ?_
    refine l_y rfl rfl (y_assign rfl) ?_
    refine K2 ?_
    have e1 : ((a : Int) + (s.1 : Int)).toNat = a + s.1 := by omega
    have e2 : ((b : Int) + (s.1 : Int)).toNat = b + s.1 := by omega
    rw [e1, e2] at hO
    exact q_next ((s.1 + 1, swpL s.2 (a + s.1) (b + s.1))) ⟨rfl, rfl, rfl, rfl, rfl, trivial⟩ ⟨hO.only [.p p], ⟨by dsimp only; omega, by dsimp only; rw [swpL_len]; exact hsn.2⟩, (by dsimp only; rw [hT, swpR_t (by omega)]; congr 1)⟩ (by dsimp only; omega)
  · refine K2 (K3 (L9 (K7 (L1 (L1 (L2 ?_))))))
    have e : n - s.1 = 0 := by omega
    rw [e] at hT
    exact fin0 rfl ⟨_, (by rw [hT]; rfl), hO.only [.p p]⟩
set_option maxHeartbeats 2000000 in
theorem ins_spec {p : Option Addr} {z c a b : Nat} {xs : List Api_attr} {ai bi : Int} (ez : z = xs.length) (ea : ai = (a : Int)) (eb : bi = (b : Int)) (hb : b ≤ xs.length) (ha : a ≤ 1024) (hl : xs.length ≤ 1024) (hn : NmOk xs) (hO : Own k w [sls p c 63 4 Api_attr.cells xs]) :
    Tri Try.prog 101 #[.slice p z c, .int .i64 ai, .int .i64 bi, .func (.func 59) #[] #[]] k w fun _ m => m = [sls p c 63 4 Api_attr.cells (insS ltA a b xs)] := by
  subst ez ea eb
  refine enter (args := [.slice p xs.length c, .int .i64 (a : Int), .int .i64 (b : Int), .func (.func 59) #[] #[]]) Try.func101 rfl rfl ?_
  have hgs := (sls_fct (p := p) hO).2
  refine K0 (K1 ?_)
  refine l_y rfl rfl (y_move rfl) ?_
  refine l_y rfl rfl (D4) ?_
  refine l_y rfl rfl (y_assign rfl) ?_
  refine K2 (K3 (K4 ?_))
  refine c_rounds (X := Nat × List Api_attr) (fun s => [(0, .slice p xs.length c), (1, .int .i64 (a : Int)), (2, .int .i64 (b : Int)), (3, .func (.func 59) #[] #[]), (8, .int .i64 (s.1 : Int))]) (fun s w => Own k w [sls p c 63 4 Api_attr.cells s.2] ∧ (s.2.Perm xs ∧ a < s.1 ∧ s.1 ≤ 1026) ∧ (insS ltA a b xs = insO ltA a (b - s.1) s.1 s.2)) (fun s => b - s.1) ((a + 1, xs)) ⟨rfl, rfl, rfl, rfl, rfl, trivial⟩ ⟨hO.only [.p p], ⟨.refl _, by dsimp only; omega, by dsimp only; omega⟩, rfl⟩ ?_
  rintro s w m hm ⟨hO, hsn, hT⟩
  refine K0 (K0 (K1 ?_))
  refine l_y rfl rfl (y_move rfl) ?_
  refine l_y rfl rfl (y_move rfl) ?_
  refine Z0 (fun h1_2 => ?_) (fun h1_2 => ?_)
  · refine K2 (K3 (L8 (K5 (K3 (K0 (K4 (K0 (K1 ?_))))))))
    refine l_y rfl rfl (y_move rfl) ?_
    refine l_y rfl rfl (y_assign rfl) ?_
    refine K2 (K3 (K4 ?_))
    refine c_rounds (X := Int × List Api_attr) (fun y => [(0, .slice p xs.length c), (1, .int .i64 (a : Int)), (2, .int .i64 (b : Int)), (3, .func (.func 59) #[] #[]), (8, .int .i64 (s.1 : Int)), (9, .int .i64 y.1)]) (fun y w => Own k w [sls p c 63 4 Api_attr.cells y.2] ∧ (y.2.Perm xs ∧ 0 ≤ y.1 ∧ y.1 ≤ (s.1 : Int)) ∧ (insD ltA a s.1 s.2 = insD ltA a y.1.toNat y.2)) (fun y => y.1.toNat) (((s.1 : Int), s.2)) ⟨rfl, rfl, rfl, rfl, rfl, rfl, trivial⟩ ⟨hO.only [.p p], ⟨hsn.1, by dsimp only; omega, Int.le_refl _⟩, rfl⟩ ?_
    rintro y w m hm ⟨hO, hy, hU⟩
    have hyl : y.2.length = xs.length := hy.1.length_eq
    have hgs2 : Gs p y.2.length := hyl ▸ hgs
    have hny := hn.perm hy.1
    have ey : (y.1 - 1).toNat = y.1.toNat - 1 := by omega
    refine K0 (K0 ?_)
    refine da_region (by intro c a d v w h; cases d <;> exact h) ?_
    have hO := hO.drew
    refine da_phase _ [14] (SO.ks [.p p] hO) ?_
    refine dx_u 0 (by kernel_rfl) rfl rfl rfl (fun w => y_move rfl) ?_
    refine dx_u 1 (by kernel_rfl) rfl rfl rfl (fun w => y_move rfl) ?_
    refine dx_u 2 (by kernel_rfl) rfl rfl rfl (fun w => y_cmpI rfl rfl rfl) ?_
    refine dx_u 3 (by kernel_rfl) rfl rfl rfl (fun w => y_move rfl) ?_
    refine dx_split 21 rfl (fun hg21 => ?_) (fun hg21 => ?_)
    · have h4_2 := of_decide_eq_true hg21
      refine dx_u 4 (by kernel_rfl) rfl rfl rfl (fun w => y_move rfl) ?_
      refine dx_u 5 (by kernel_rfl) rfl rfl rfl (fun w => y_move rfl) ?_
      refine dx_u 6 (by kernel_rfl) rfl rfl rfl (fun w => y_move rfl) ?_
      refine dx_u 7 (by kernel_rfl) rfl rfl rfl (fun w => y_idx rfl rfl) ?_
      refine dx_y 8 (by kernel_rfl) rfl rfl rfl (fun w ⟨m, hw⟩ => y_eA (x0 := 0) (cs := [.int .i64 (at_ y.2 (y.1 : Int).toNat).Space, .string (at_ y.2 (y.1 : Int).toNat).Prefix, .string (at_ y.2 (y.1 : Int).toNat).Name, .string (at_ y.2 (y.1 : Int).toNat).Value]) hw rfl) ?_
      refine dx_u 9 (by kernel_rfl) rfl rfl rfl (fun w => y_move rfl) ?_
      refine dx_u 10 (by kernel_rfl) rfl rfl rfl (fun w => y_move rfl) ?_
      refine dx_u 11 (by kernel_rfl) rfl rfl rfl (fun w => D4) ?_
      refine dx_u 12 (by kernel_rfl) rfl rfl rfl (fun w => y_idx rfl rfl) ?_
      refine dx_y 13 (by kernel_rfl) rfl rfl rfl (fun w ⟨m, hw⟩ => y_eA (x0 := 0) (cs := [.int .i64 (at_ y.2 ((y.1 - 1) : Int).toNat).Space, .string (at_ y.2 ((y.1 - 1) : Int).toNat).Prefix, .string (at_ y.2 ((y.1 - 1) : Int).toNat).Name, .string (at_ y.2 ((y.1 - 1) : Int).toNat).Value]) hw rfl) ?_
      refine dx_close 14 (by kernel_rfl) rfl rfl ?_
      refine CKv [] hO rfl rfl (fun k' hx hr hO' => cmp3_spec (x := at_ y.2 y.1.toNat) (y := at_ y.2 (y.1 - 1).toNat) (hny.at_ (by omega)) (hny.at_ (by omega)) hO') ?_
      rintro _ _ w ⟨rfl, rfl⟩ hO
      simp only [List.cons_append, List.nil_append] at hO
      refine o_done ?_
      refine da_phase _ [] (SO.ks [] hO) ?_
      refine dx_u 15 (by kernel_rfl) rfl rfl rfl (fun w => y_cmpI rfl rfl rfl) ?_
      refine dx_u 16 (by kernel_rfl) rfl rfl rfl (fun w => y_pick_t rfl rfl) ?_
      refine dx_end (by kernel_rfl) ?_
      refine K3 ?_
      refine c_split rfl (fun hc34 => ?_) (fun hc34 => ?_)
      · refine K5 (K3 (K0 (K4 ?_)))
        refine da_region (by intro c a d v w h; cases d <;> exact h) ?_
        have hO := hO.drew
        refine da_phase _ [15] (SO.ks [.p p] hO) ?_
        refine dx_u 0 (by kernel_rfl) rfl rfl rfl (fun w => y_move rfl) ?_
        refine dx_u 1 (by kernel_rfl) rfl rfl rfl (fun w => y_move rfl) ?_
        refine dx_u 2 (by kernel_rfl) rfl rfl rfl (fun w => y_move rfl) ?_
        refine dx_u 3 (by kernel_rfl) rfl rfl rfl (fun w => y_move rfl) ?_
        refine dx_u 4 (by kernel_rfl) rfl rfl rfl (fun w => D4) ?_
        refine dx_u 5 (by kernel_rfl) rfl rfl rfl (fun w => y_move rfl) ?_
        refine dx_u 6 (by kernel_rfl) rfl rfl rfl (fun w => y_move rfl) ?_
        refine dx_u 7 (by kernel_rfl) rfl rfl rfl (fun w => D4) ?_
        refine dx_u 8 (by kernel_rfl) rfl rfl rfl (fun w => y_idx rfl rfl) ?_
        refine dx_y 9 (by kernel_rfl) rfl rfl rfl (fun w ⟨m, hw⟩ => y_eA (x0 := 0) (cs := [.int .i64 (at_ y.2 ((y.1 - 1) : Int).toNat).Space, .string (at_ y.2 ((y.1 - 1) : Int).toNat).Prefix, .string (at_ y.2 ((y.1 - 1) : Int).toNat).Name, .string (at_ y.2 ((y.1 - 1) : Int).toNat).Value]) hw rfl) ?_
        refine dx_u 10 (by kernel_rfl) rfl rfl rfl (fun w => y_move rfl) ?_
        refine dx_u 11 (by kernel_rfl) rfl rfl rfl (fun w => y_move rfl) ?_
        refine dx_u 12 (by kernel_rfl) rfl rfl rfl (fun w => y_idx rfl rfl) ?_
        refine dx_y 13 (by kernel_rfl) rfl rfl rfl (fun w ⟨m, hw⟩ => y_eA (x0 := 0) (cs := [.int .i64 (at_ y.2 (y.1 : Int).toNat).Space, .string (at_ y.2 (y.1 : Int).toNat).Prefix, .string (at_ y.2 (y.1 : Int).toNat).Name, .string (at_ y.2 (y.1 : Int).toNat).Value]) hw rfl) ?_
        refine dx_u 14 (by kernel_rfl) rfl rfl rfl (fun w => y_idx rfl rfl) ?_
        refine dx_close 15 (by kernel_rfl) rfl rfl ?_
        refine s_eA (at_ y.2 (y.1 - 1).toNat) hO rfl rfl (fun w hO => ?_)
        refine o_done ?_
        refine da_phase _ [17] (SO.ks [] hO) ?_
        refine dx_u 16 (by kernel_rfl) rfl rfl rfl (fun w => y_idx rfl rfl) ?_
        refine dx_close 17 (by kernel_rfl) rfl rfl ?_
        refine s_eA (at_ y.2 y.1.toNat) hO rfl rfl (fun w hO => ?_)
        refine o_done ?_
        refine da_end (by kernel_rfl) ?_
        refine K8 (K3 (K1 ?_))
        refine l_y rfl rfl (y_move rfl) ?_
        refine l_y rfl rfl (D4) ?_
        refine l_y rfl rfl (y_assign rfl) ?_
        refine K2 ?_
        rw [ey] at hO
        exact q_next ((y.1 - 1, swpL y.2 y.1.toNat (y.1.toNat - 1))) ⟨rfl, rfl, rfl, rfl, rfl, rfl, trivial⟩ ⟨hO.only [.p p], ⟨(swpL_perm (by omega) (by omega)).trans hy.1, by dsimp only; omega, by dsimp only; omega⟩, (by dsimp only; rw [hU, ey]; exact insD_t (by omega) (by rw [← ey]; exact hc34))⟩ (by dsimp only; omega)
      · refine K7 (L1 (L1 (L2 (K8 (K3 (K1 ?_))))))
        refine l_y rfl rfl (y_move rfl) ?_
        refine l_y rfl rfl (D4) ?_
        refine l_y rfl rfl (y_assign rfl) ?_
        refine K2 ?_
        exact q_next ((s.1 + 1, y.2)) ⟨rfl, rfl, rfl, rfl, rfl, trivial⟩ ⟨hO.only [.p p], ⟨hy.1, by dsimp only; omega, by dsimp only; omega⟩, (by dsimp only; rw [hT, insO_t (by omega), hU]; first | (rw [insD_f (fun q => h4_2 (by have := q.1; omega))]; rfl) | (rw [insD_f (fun q => by have q2 := q.2; rw [← ey] at q2; exact absurd (q2.symm.trans hc34) (by decide))]; rfl))⟩ (by dsimp only; omega)
    · have h4_2 := of_decide_eq_false hg21
      refine dx_pass 4 (by kernel_rfl) rfl rfl rfl ?_
      refine dx_pass 5 (by kernel_rfl) rfl rfl rfl ?_
      refine dx_pass 6 (by kernel_rfl) rfl rfl rfl ?_
      refine dx_pass 7 (by kernel_rfl) rfl rfl rfl ?_
      refine dx_pass 8 (by kernel_rfl) rfl rfl rfl ?_
      refine dx_pass 9 (by kernel_rfl) rfl rfl rfl ?_
      refine dx_pass 10 (by kernel_rfl) rfl rfl rfl ?_
      refine dx_pass 11 (by kernel_rfl) rfl rfl rfl ?_
      refine dx_pass 12 (by kernel_rfl) rfl rfl rfl ?_
      refine dx_pass 13 (by kernel_rfl) rfl rfl rfl ?_
      refine dx_close 14 (by kernel_rfl) rfl rfl ?_
      refine M2 ?_
      refine o_done ?_
      refine da_phase _ [] (SO.ks [] hO) ?_
      refine dx_pass 15 (by kernel_rfl) rfl rfl rfl ?_
      refine dx_u 16 (by kernel_rfl) rfl rfl rfl (fun w => y_pick_f rfl rfl) ?_
      refine dx_end (by kernel_rfl) ?_
      refine K3 (L9 (K7 (L1 (L1 (L2 (K8 (K3 (K1 ?_))))))))
      refine l_y rfl rfl (y_move rfl) ?_
      refine l_y rfl rfl (D4) ?_
      refine l_y rfl rfl (y_assign rfl) ?_
      refine K2 ?_
      exact q_next ((s.1 + 1, y.2)) ⟨rfl, rfl, rfl, rfl, rfl, trivial⟩ ⟨hO.only [.p p], ⟨hy.1, by dsimp only; omega, by dsimp only; omega⟩, (by dsimp only; rw [hT, insO_t (by omega), hU]; first | (rw [insD_f (fun q => h4_2 (by have := q.1; omega))]; rfl) | (rw [insD_f (fun q => by have q2 := q.2; rw [← ey] at q2; exact absurd (q2.symm.trans hc34) (by decide))]; rfl))⟩ (by dsimp only; omega)
  · refine K2 (K3 (L9 (K7 (L1 (L1 (L2 ?_))))))
    have e : b - s.1 = 0 := by omega
    rw [e] at hT
    exact fin0 rfl ⟨_, (by rw [hT]; rfl), hO.only [.p p]⟩
end
end Go.Proofs.Ythkmnohghpdjhaa
end
section
set_option linter.unusedVariables false
set_option linter.unusedSimpArgs false
set_option maxRecDepth 100000
namespace Go.Proofs.Ythkmnohghpdjhaa
open Go Go.Hb Go.RowKit
section
variable {α : Type} [Inhabited α]
theorem rotF_a {m f i j : Nat} {l : List α} (hf : 0 < f) (h : i ≠ j) (h2 : j < i) : rotF m f i j l = rotF m (f - 1) (i - j) j (swpR j (m - i) m l) := by
  cases f with
  | zero => omega
  | succ f => rw [rotF, if_neg h, if_pos h2]; rfl
theorem rotF_b {m f i j : Nat} {l : List α} (hf : 0 < f) (h : i ≠ j) (h2 : ¬ j < i) : rotF m f i j l = rotF m (f - 1) i (j - i) (swpR i (m - i) (m + j - i) l) := by
  cases f with
  | zero => omega
  | succ f => rw [rotF, if_neg h, if_neg h2]; rfl
theorem rotF_e {m f i : Nat} {l : List α} (hf : 0 < f) : rotF m f i i l = swpR i (m - i) m l := by
  cases f with
  | zero => omega
  | succ f => rw [rotF, if_pos rfl]
end
section
variable {k : Ctx} {w : World}
set_option maxHeartbeats 1000000 in
theorem rot_spec {p : Option Addr} {z c a u b : Nat} {xs : List Api_attr} {ai mi bi : Int} {v : Value} (ez : z = xs.length) (ea : ai = (a : Int)) (em : mi = (u : Int)) (eb : bi = (b : Int)) (h1 : a < u) (h2 : u < b) (hb : b ≤ xs.length) (hl : xs.length ≤ 1024) (hO : Own k w [sls p c 63 4 Api_attr.cells xs]) :
    Tri Try.prog 105 #[.slice p z c, .int .i64 ai, .int .i64 mi, .int .i64 bi, v] k w fun _ o => o = [sls p c 63 4 Api_attr.cells (rotF u (b - a) (u - a) (b - u) xs)] := by
  subst ez ea em eb
  refine enter (args := [.slice p xs.length c, .int .i64 (a : Int), .int .i64 (u : Int), .int .i64 (b : Int), v]) Try.func105 rfl rfl ?_
  refine K0 (K1 ?_)
  refine l_y rfl rfl (y_move rfl) ?_
  refine l_y rfl rfl (y_move rfl) ?_
  refine l_y rfl rfl (D4) ?_
  refine l_y rfl rfl (y_assign rfl) ?_
  refine K2 (K3 (K0 (K1 ?_)))
  refine l_y rfl rfl (y_move rfl) ?_
  refine l_y rfl rfl (y_move rfl) ?_
  refine l_y rfl rfl (D4) ?_
  refine l_y rfl rfl (y_assign rfl) ?_
  refine K2 (K3 (K0 (K4 ?_)))
  refine c_rounds (X := Nat × Int × Int × List Api_attr) (fun s => [(0, .slice p xs.length c), (2, .int .i64 (u : Int)), (4, v), (10, .int .i64 s.2.1), (11, .int .i64 s.2.2.1)]) (fun s w => Own k w [sls p c 63 4 Api_attr.cells s.2.2.2] ∧ (0 < s.2.1 ∧ 0 < s.2.2.1 ∧ s.2.1 ≤ (u : Int) ∧ (u : Int) + s.2.2.1 ≤ (xs.length : Int) ∧ s.2.1 + s.2.2.1 ≤ (s.1 : Int)) ∧ (s.2.2.2.length = xs.length) ∧ (rotF u (b - a) (u - a) (b - u) xs = rotF u s.1 s.2.1.toNat s.2.2.1.toNat s.2.2.2)) (fun s => s.1) ((b - a, (u : Int) - (a : Int), (b : Int) - (u : Int), xs)) ⟨rfl, rfl, rfl, rfl, rfl, trivial⟩ ⟨hO.only [.p p], ⟨by dsimp only; omega, by dsimp only; omega, by dsimp only; omega, by dsimp only; omega, by dsimp only; omega⟩, rfl, (by dsimp only; rw [show ((u : Int) - (a : Int)).toNat = u - a by omega, show ((b : Int) - (u : Int)).toNat = b - u by omega])⟩ ?_
  rintro s w m hm ⟨hO, hs, hz, hT⟩
  refine K0 (K0 (K1 ?_))
  refine l_y rfl rfl (y_move rfl) ?_
  refine l_y rfl rfl (y_move rfl) ?_
  refine Z1 (fun h2_2 => ?_) (fun h2_2 => ?_)
  · refine K2 (K3 (L8 (K5 (K3 (K4 (K0 (K1 ?_)))))))
    refine l_y rfl rfl (y_move rfl) ?_
    refine l_y rfl rfl (y_move rfl) ?_
    refine Z0 (fun h3_2 => ?_) (fun h3_2 => ?_)
    · refine K2 (K3 (L8 (K0 (K1 ?_))))
      refine l_y rfl rfl (y_move rfl) ?_
      refine l_y rfl rfl (y_move rfl) ?_
      refine l_y rfl rfl (y_move rfl) ?_
      refine l_y rfl rfl (D4) ?_
      refine l_y rfl rfl (y_move rfl) ?_
      refine l_y rfl rfl (y_move rfl) ?_
      refine l_y rfl rfl (y_move rfl) ?_
      refine CK [.p p] hO rfl (fun k' hx hr hO' => swpR_spec (a := u - s.2.1.toNat) (b := u) (n := s.2.2.1.toNat) hz.symm (by omega) rfl (by omega) (by omega) (by omega) (by omega) (hO := hO')) ?_
      rintro _ _ w rfl hO
      simp only [List.cons_append, List.nil_append] at hO
      have hz2 : (swpR s.2.2.1.toNat (u - s.2.1.toNat) u s.2.2.2).length = xs.length := (swpR_perm (by omega) (by omega)).length_eq.trans hz
      have hA := rotF_a (m := u) (l := s.2.2.2) (f := s.1) (i := s.2.1.toNat) (j := s.2.2.1.toNat) (by omega) (by omega) (by omega)
      generalize swpR s.2.2.1.toNat (u - s.2.1.toNat) u s.2.2.2 = cur at hO hz2 hA
      refine K2 (K3 (K1 ?_))
      refine l_y rfl rfl (y_move rfl) ?_
      refine l_y rfl rfl (y_move rfl) ?_
      refine l_y rfl rfl (D4) ?_
      refine l_y rfl rfl (y_assign rfl) ?_
      refine K2 (K8 ?_)
      exact q_next ((s.1 - 1, (s.2.1 - s.2.2.1), s.2.2.1, cur)) ⟨rfl, rfl, rfl, rfl, rfl, trivial⟩ ⟨hO.only [.p p], ⟨by dsimp only; omega, by dsimp only; omega, by dsimp only; omega, by dsimp only; omega, by dsimp only; omega⟩, hz2, (by dsimp only; rw [hT]; first | (rw [hA]; congr 1; omega) | (rw [hB]; congr 1; omega))⟩ (by dsimp only; omega)
    · refine K2 (K3 (L9 (K0 (K1 ?_))))
      refine l_y rfl rfl (y_move rfl) ?_
      refine l_y rfl rfl (y_move rfl) ?_
      refine l_y rfl rfl (y_move rfl) ?_
      refine l_y rfl rfl (D4) ?_
      refine l_y rfl rfl (y_move rfl) ?_
      refine l_y rfl rfl (y_move rfl) ?_
      refine l_y rfl rfl (D4) ?_
      refine l_y rfl rfl (y_move rfl) ?_
      refine l_y rfl rfl (D4) ?_
      refine l_y rfl rfl (y_move rfl) ?_
      refine l_y rfl rfl (y_move rfl) ?_
      refine CK [.p p] hO rfl (fun k' hx hr hO' => swpR_spec (a := u - s.2.1.toNat) (b := u + s.2.2.1.toNat - s.2.1.toNat) (n := s.2.1.toNat) hz.symm (by omega) (by omega) (by omega) (by omega) (by omega) (by omega) (hO := hO')) ?_
      rintro _ _ w rfl hO
      simp only [List.cons_append, List.nil_append] at hO
      have hz2 : (swpR s.2.1.toNat (u - s.2.1.toNat) (u + s.2.2.1.toNat - s.2.1.toNat) s.2.2.2).length = xs.length := (swpR_perm (by omega) (by omega)).length_eq.trans hz
      have hB := rotF_b (m := u) (l := s.2.2.2) (f := s.1) (i := s.2.1.toNat) (j := s.2.2.1.toNat) (by omega) (by omega) (by omega)
      generalize swpR s.2.1.toNat (u - s.2.1.toNat) (u + s.2.2.1.toNat - s.2.1.toNat) s.2.2.2 = cur at hO hz2 hB
      refine K2 (K3 (K1 ?_))
      refine l_y rfl rfl (y_move rfl) ?_
      refine l_y rfl rfl (y_move rfl) ?_
      refine l_y rfl rfl (D4) ?_
      refine l_y rfl rfl (y_assign rfl) ?_
      refine K2 (K8 ?_)
      exact q_next ((s.1 - 1, s.2.1, (s.2.2.1 - s.2.1), cur)) ⟨rfl, rfl, rfl, rfl, rfl, trivial⟩ ⟨hO.only [.p p], ⟨by dsimp only; omega, by dsimp only; omega, by dsimp only; omega, by dsimp only; omega, by dsimp only; omega⟩, hz2, (by dsimp only; rw [hT]; first | (rw [hA]; congr 1; omega) | (rw [hB]; congr 1; omega))⟩ (by dsimp only; omega)
  · refine K2 (K3 (L9 (K7 (L1 (L1 (L2 (K3 (K1 ?_))))))))
    refine l_y rfl rfl (y_move rfl) ?_
    refine l_y rfl rfl (y_move rfl) ?_
    refine l_y rfl rfl (y_move rfl) ?_
    refine l_y rfl rfl (D4) ?_
    refine l_y rfl rfl (y_move rfl) ?_
    refine l_y rfl rfl (y_move rfl) ?_
    refine l_y rfl rfl (y_move rfl) ?_
    refine CK [.p p] hO rfl (fun k' hx hr hO' => swpR_spec (a := u - s.2.1.toNat) (b := u) (n := s.2.1.toNat) hz.symm (by omega) rfl (by omega) (by omega) (by omega) (by omega) (hO := hO')) ?_
    rintro _ _ w rfl hO
    simp only [List.cons_append, List.nil_append] at hO
    refine K2 ?_
    have e : s.2.2.1.toNat = s.2.1.toNat := by omega
    rw [e, rotF_e (by omega)] at hT
    exact fin0 rfl ⟨_, (by rw [hT]), hO.only [.p p]⟩
end
end Go.Proofs.Ythkmnohghpdjhaa
end
section
set_option linter.unusedVariables false
set_option linter.unusedSimpArgs false
set_option maxRecDepth 100000
namespace Go.Proofs.Ythkmnohghpdjhaa
open Go Go.Hb Go.RowKit
theorem srch_tI {P : Nat → Bool} {f : Nat} {i j : Int} {q : Nat} (h : i < j) (h0 : 0 ≤ i) (hf : j.toNat - i.toNat ≤ f) (hq : q = (i.toNat + j.toNat) / 2) (hp : P q = true) : srch P f i.toNat j.toNat = srch P (f - 1) ((q : Int) + 1).toNat j.toNat := by
  subst hq
  cases f with
  | zero => omega
  | succ f => rw [srch, if_pos (by omega), if_pos hp]; rfl
theorem srch_fI {P : Nat → Bool} {f : Nat} {i j : Int} {q : Nat} (h : i < j) (h0 : 0 ≤ i) (hf : j.toNat - i.toNat ≤ f) (hq : q = (i.toNat + j.toNat) / 2) (hp : P q = false) : srch P f i.toNat j.toNat = srch P (f - 1) i.toNat (q : Int).toNat := by
  subst hq
  cases f with
  | zero => omega
  | succ f => rw [srch, if_pos (by omega), if_neg (by rw [hp]; decide)]; rfl
theorem srch_eI {P : Nat → Bool} {f : Nat} {i j : Int} (h : ¬ i < j) (h0 : 0 ≤ i) : srch P f i.toNat j.toNat = i.toNat := by
  cases f with
  | zero => rfl
  | succ f => rw [srch, if_neg (by omega)]
theorem half {x : Int} {q : Nat} (h : 0 ≤ x) (hq : q = x.toNat / 2) : x.fdiv (2 ^ (min (1 : Int).toNat IntKind.u64.bits)) = (q : Int) := by
  rw [show (2 : Int) ^ (min (1 : Int).toNat IntKind.u64.bits) = 2 by decide, Int.fdiv_eq_ediv_of_nonneg _ (by decide)]; omega
theorem wu64 {x : Int} (h1 : 0 ≤ x) (h2 : x ≤ 9223372036854775807) : IntKind.u64.wrap x = x := by
  simp [IntKind.wrap, IntKind.bits, IntKind.signed]; omega
section
variable {α : Type} [Inhabited α] {lt : α → α → Bool}
theorem movU_t {n y : Nat} {l : List α} (h : 0 < n) : movU n y l = movU (n - 1) (y + 1) (swpL l y (y + 1)) := by
  cases n with
  | zero => omega
  | succ n => rfl
theorem movD_t {n y : Nat} {l : List α} (h : 0 < n) : movD n y l = movD (n - 1) (y - 1) (swpL l y (y - 1)) := by
  cases n with
  | zero => omega
  | succ n => rfl
theorem symF_1 {f a u b : Nat} {l : List α} (h : u - a = 1) : symF lt (f + 1) a u b l = movU (symX1 lt l a u b - 1 - a) a l := by
  rw [symF, if_pos h]
theorem symF_2 {f a u b : Nat} {l : List α} (h : ¬ u - a = 1) (h2 : b - u = 1) : symF lt (f + 1) a u b l = movD (u - symX2 lt l a u) u l := by
  rw [symF, if_neg h, if_pos h2]
theorem symF_3 {f a u b s : Nat} {l l1 l2 l3 : List α} (h : ¬ u - a = 1) (h2 : ¬ b - u = 1) (hs : symX lt l a u b = s) (e1 : l1 = symL l a u b s) (e2 : l2 = if a < s ∧ s < (a + b) / 2 then symF lt f a s ((a + b) / 2) l1 else l1)
    (e3 : l3 = if (a + b) / 2 < (a + b) / 2 + u - s ∧ (a + b) / 2 + u - s < b then symF lt f ((a + b) / 2) ((a + b) / 2 + u - s) b l2 else l2) : symF lt (f + 1) a u b l = l3 := by
  subst hs e1 e2 e3
  rw [symF, if_neg h, if_neg h2]
end
set_option maxHeartbeats 4000000 in
theorem sym_spec {p : Option Addr} {c : Nat} : ∀ (f : Nat) {k : Ctx} {w : World} {z a u b : Nat} {xs : List Api_attr} {ai mi bi : Int} (ez : z = xs.length) (ea : ai = (a : Int)) (em : mi = (u : Int)) (eb : bi = (b : Int)) (h1 : a < u) (h2 : u < b) (hb : b ≤ xs.length) (hl : xs.length ≤ 1024) (hf : b - a ≤ f) (hn : NmOk xs) (hO : Own k w [sls p c 63 4 Api_attr.cells xs]),
    Tri Try.prog 102 #[.slice p z c, .int .i64 ai, .int .i64 mi, .int .i64 bi, .func (.func 59) #[] #[]] k w fun _ o => o = [sls p c 63 4 Api_attr.cells (symF ltA f a u b xs)] := by
  intro f
  induction f with
  | zero => intro k w z a u b xs ai mi bi ez ea em eb h1 h2 hb hl hf hn hO; omega
  | succ f ih =>
  intro k w z a u b xs ai mi bi ez ea em eb h1 h2 hb hl hf hn hO
  subst ez ea em eb
  refine enter (args := [.slice p xs.length c, .int .i64 (a : Int), .int .i64 (u : Int), .int .i64 (b : Int), .func (.func 59) #[] #[]]) Try.func102 rfl rfl ?_
  have hgs := (sls_fct (p := p) hO).2
  have hsy := symS_le h1 h2
  have hsx := symX_le ltA (l := xs) h1 h2
  obtain ⟨q, hq⟩ : ∃ q, q = (a + b) / 2 := ⟨_, rfl⟩
  refine K0 (K0 (K1 ?_))
  refine l_y rfl rfl (y_move rfl) ?_
  refine l_y rfl rfl (y_move rfl) ?_
  refine l_y rfl rfl (D4) ?_
  refine Z0 (fun h0_3 => ?_) (fun h0_3 => ?_)
  · refine K2 (K3 (L8 (K0 (K1 ?_))))
    refine l_y rfl rfl (y_move rfl) ?_
    refine l_y rfl rfl (y_assign rfl) ?_
    refine K2 (K3 (K0 (K1 ?_)))
    refine l_y rfl rfl (y_move rfl) ?_
    refine l_y rfl rfl (y_assign rfl) ?_
    refine K2 (K3 (K0 (K4 ?_)))
    refine c_rounds (X := Nat × Int × Int) (fun x => [(0, .slice p xs.length c), (1, .int .i64 (a : Int)), (2, .int .i64 (u : Int)), (3, .int .i64 (b : Int)), (4, .func (.func 59) #[] #[]), (10, .int .i64 x.2.1), (11, .int .i64 x.2.2)]) (fun x w => Own k w [sls p c 63 4 Api_attr.cells xs] ∧ ((u : Int) ≤ x.2.1 ∧ x.2.1 ≤ x.2.2 ∧ x.2.2 ≤ (b : Int) ∧ x.2.2.toNat - x.2.1.toNat ≤ x.1) ∧ (symX1 ltA xs a u b = srch (fun h => ltA (at_ xs h) (at_ xs a)) x.1 x.2.1.toNat x.2.2.toNat)) (fun x => x.1) ((b, (u : Int), (b : Int))) ⟨rfl, rfl, rfl, rfl, rfl, rfl, rfl, trivial⟩ ⟨hO.only [.p p], ⟨Int.le_refl _, by dsimp only; omega, Int.le_refl _, by dsimp only; omega⟩, rfl⟩ ?_
    rintro x w m hm ⟨hO, hx, hS⟩
    obtain ⟨q1, hq1⟩ : ∃ q, q = (x.2.1.toNat + x.2.2.toNat) / 2 := ⟨_, rfl⟩
    refine K0 (K0 (K1 ?_))
    refine l_y rfl rfl (y_move rfl) ?_
    refine l_y rfl rfl (y_move rfl) ?_
    refine Z0 (fun h3_2 => ?_) (fun h3_2 => ?_)
    · refine K2 (K3 (L8 (K5 (K3 (K4 (K0 (K1 ?_)))))))
      refine l_y rfl rfl (y_move rfl) ?_
      refine l_y rfl rfl (y_move rfl) ?_
      refine l_y rfl rfl (D4) ?_
      refine l_y rfl rfl (y_convI rfl (wu64 (by omega) (by omega))) ?_
      refine l_y rfl rfl (y_shr (r := ((q1 : Nat) : Int)) rfl rfl (by decide) (half (by omega) (by omega))) ?_
      refine l_y rfl rfl (D7) ?_
      refine l_y rfl rfl (y_assign rfl) ?_
      refine K2 (K3 (K0 ?_))
      refine da_region (by intro c a d v w h; cases d <;> exact h) ?_
      have hO := hO.drew
      refine da_phase _ [9] (SO.ks [.p p] hO) ?_
      refine dx_u 0 (by kernel_rfl) rfl rfl rfl (fun w => y_move rfl) ?_
      refine dx_u 1 (by kernel_rfl) rfl rfl rfl (fun w => y_move rfl) ?_
      refine dx_u 2 (by kernel_rfl) rfl rfl rfl (fun w => y_move rfl) ?_
      refine dx_u 3 (by kernel_rfl) rfl rfl rfl (fun w => y_idx rfl rfl) ?_
      refine dx_y 4 (by kernel_rfl) rfl rfl rfl (fun w ⟨m, hw⟩ => y_eA (x0 := 0) (cs := [.int .i64 (at_ xs (((q1 : Nat) : Int) : Int).toNat).Space, .string (at_ xs (((q1 : Nat) : Int) : Int).toNat).Prefix, .string (at_ xs (((q1 : Nat) : Int) : Int).toNat).Name, .string (at_ xs (((q1 : Nat) : Int) : Int).toNat).Value]) hw rfl) ?_
      refine dx_u 5 (by kernel_rfl) rfl rfl rfl (fun w => y_move rfl) ?_
      refine dx_u 6 (by kernel_rfl) rfl rfl rfl (fun w => y_move rfl) ?_
      refine dx_u 7 (by kernel_rfl) rfl rfl rfl (fun w => y_idx rfl rfl) ?_
      refine dx_y 8 (by kernel_rfl) rfl rfl rfl (fun w ⟨m, hw⟩ => y_eA (x0 := 0) (cs := [.int .i64 (at_ xs ((a : Int) : Int).toNat).Space, .string (at_ xs ((a : Int) : Int).toNat).Prefix, .string (at_ xs ((a : Int) : Int).toNat).Name, .string (at_ xs ((a : Int) : Int).toNat).Value]) hw rfl) ?_
      refine dx_close 9 (by kernel_rfl) rfl rfl ?_
      refine CKv [] hO rfl rfl (fun k' hx hr hO' => cmp3_spec (x := at_ xs ((q1 : Nat) : Int).toNat) (y := at_ xs ((a : Nat) : Int).toNat) (hn.at_ (by omega)) (hn.at_ (by omega)) hO') ?_
      rintro _ _ w ⟨rfl, rfl⟩ hO
      simp only [List.cons_append, List.nil_append] at hO
      refine o_done ?_
      refine da_phase _ [] (SO.ks [] hO) ?_
      refine dx_u 10 (by kernel_rfl) rfl rfl rfl (fun w => y_cmpI rfl rfl rfl) ?_
      refine dx_end (by kernel_rfl) ?_
      refine K3 ?_
      refine c_split rfl (fun hc50 => ?_) (fun hc50 => ?_)
      · refine K1 ?_
        refine l_y rfl rfl (y_move rfl) ?_
        refine l_y rfl rfl (D4) ?_
        refine l_y rfl rfl (y_assign rfl) ?_
        refine K2 (K8 ?_)
        exact q_next ((x.1 - 1, (((q1 : Nat) : Int) + 1), x.2.2)) ⟨rfl, rfl, rfl, rfl, rfl, rfl, rfl, trivial⟩ ⟨hO.only [.p p], ⟨by dsimp only; omega, by dsimp only; omega, by dsimp only; omega, by dsimp only; omega⟩, (by first | exact hS.trans (srch_tI (by omega) (by omega) (by omega) hq1 hc50) | exact hS.trans (srch_fI (by omega) (by omega) (by omega) hq1 hc50))⟩ (by dsimp only; omega)
      · refine K1 ?_
        refine l_y rfl rfl (y_move rfl) ?_
        refine l_y rfl rfl (y_assign rfl) ?_
        refine K2 (K8 ?_)
        exact q_next ((x.1 - 1, x.2.1, ((q1 : Nat) : Int))) ⟨rfl, rfl, rfl, rfl, rfl, rfl, rfl, trivial⟩ ⟨hO.only [.p p], ⟨by dsimp only; omega, by dsimp only; omega, by dsimp only; omega, by dsimp only; omega⟩, (by first | exact hS.trans (srch_tI (by omega) (by omega) (by omega) hq1 hc50) | exact hS.trans (srch_fI (by omega) (by omega) (by omega) hq1 hc50))⟩ (by dsimp only; omega)
    · refine K2 (K3 (L9 (K7 (L1 (L1 (L2 (K3 (K0 (K0 (K1 ?_))))))))))
      refine l_y rfl rfl (y_move rfl) ?_
      refine l_y rfl rfl (y_assign rfl) ?_
      refine K2 (K3 (K4 ?_))
      refine c_rounds (X := Nat × List Api_attr) (fun y => [(0, .slice p xs.length c), (1, .int .i64 (a : Int)), (2, .int .i64 (u : Int)), (3, .int .i64 (b : Int)), (4, .func (.func 59) #[] #[]), (10, .int .i64 x.2.1), (13, .int .i64 (y.1 : Int))]) (fun y w => Own k w [sls p c 63 4 Api_attr.cells y.2] ∧ (a ≤ y.1 ∧ y.2.length = xs.length) ∧ (movU (x.2.1.toNat - 1 - a) a xs = movU (x.2.1.toNat - 1 - y.1) y.1 y.2)) (fun y => x.2.1.toNat - y.1) ((a, xs)) ⟨rfl, rfl, rfl, rfl, rfl, rfl, rfl, trivial⟩ ⟨hO.only [.p p], ⟨Nat.le_refl _, rfl⟩, rfl⟩ ?_
      rintro y w m hm ⟨hO, hy, hU⟩
      have hgs2 : Gs p y.2.length := hy.2 ▸ hgs
      have ey : (((y.1 : Nat) : Int) + 1).toNat = y.1 + 1 := by omega
      refine K0 (K0 (K1 ?_))
      refine l_y rfl rfl (y_move rfl) ?_
      refine l_y rfl rfl (y_move rfl) ?_
      refine l_y rfl rfl (D4) ?_
      refine Z0 (fun h9_3 => ?_) (fun h9_3 => ?_)
      · refine K2 (K3 (L8 (K5 (K3 (K0 (K4 ?_))))))
        refine da_region (by intro c a d v w h; cases d <;> exact h) ?_
        have hO := hO.drew
        refine da_phase _ [15] (SO.ks [.p p] hO) ?_
        refine dx_u 0 (by kernel_rfl) rfl rfl rfl (fun w => y_move rfl) ?_
        refine dx_u 1 (by kernel_rfl) rfl rfl rfl (fun w => y_move rfl) ?_
        refine dx_u 2 (by kernel_rfl) rfl rfl rfl (fun w => y_move rfl) ?_
        refine dx_u 3 (by kernel_rfl) rfl rfl rfl (fun w => y_move rfl) ?_
        refine dx_u 4 (by kernel_rfl) rfl rfl rfl (fun w => D4) ?_
        refine dx_u 5 (by kernel_rfl) rfl rfl rfl (fun w => y_move rfl) ?_
        refine dx_u 6 (by kernel_rfl) rfl rfl rfl (fun w => y_move rfl) ?_
        refine dx_u 7 (by kernel_rfl) rfl rfl rfl (fun w => D4) ?_
        refine dx_u 8 (by kernel_rfl) rfl rfl rfl (fun w => y_idx rfl rfl) ?_
        refine dx_y 9 (by kernel_rfl) rfl rfl rfl (fun w ⟨m, hw⟩ => y_eA (x0 := 0) (cs := [.int .i64 (at_ y.2 (((y.1 : Int) + 1) : Int).toNat).Space, .string (at_ y.2 (((y.1 : Int) + 1) : Int).toNat).Prefix, .string (at_ y.2 (((y.1 : Int) + 1) : Int).toNat).Name, .string (at_ y.2 (((y.1 : Int) + 1) : Int).toNat).Value]) hw rfl) ?_
        refine dx_u 10 (by kernel_rfl) rfl rfl rfl (fun w => y_move rfl) ?_
        refine dx_u 11 (by kernel_rfl) rfl rfl rfl (fun w => y_move rfl) ?_
        refine dx_u 12 (by kernel_rfl) rfl rfl rfl (fun w => y_idx rfl rfl) ?_
        refine dx_y 13 (by kernel_rfl) rfl rfl rfl (fun w ⟨m, hw⟩ => y_eA (x0 := 0) (cs := [.int .i64 (at_ y.2 ((y.1 : Int) : Int).toNat).Space, .string (at_ y.2 ((y.1 : Int) : Int).toNat).Prefix, .string (at_ y.2 ((y.1 : Int) : Int).toNat).Name, .string (at_ y.2 ((y.1 : Int) : Int).toNat).Value]) hw rfl) ?_
        refine dx_u 14 (by kernel_rfl) rfl rfl rfl (fun w => y_idx rfl rfl) ?_
        refine dx_close 15 (by kernel_rfl) rfl rfl ?_
        refine s_eA (at_ y.2 (((y.1 : Nat) : Int) + 1).toNat) hO rfl rfl (fun w hO => ?_)
        refine o_done ?_
        refine da_phase _ [17] (SO.ks [] hO) ?_
        refine dx_u 16 (by kernel_rfl) rfl rfl rfl (fun w => y_idx rfl rfl) ?_
        refine dx_close 17 (by kernel_rfl) rfl rfl ?_
        refine s_eA (at_ y.2 ((y.1 : Nat) : Int).toNat) hO rfl rfl (fun w hO => ?_)
        refine o_done ?_
        refine da_end (by kernel_rfl) ?_
        refine K8 (K3 (K1 ?_))
        refine l_y rfl rfl (y_move rfl) ?_
        refine l_y rfl rfl (D4) ?_
        refine l_y rfl rfl (y_assign rfl) ?_
        refine K2 ?_
        rw [ey] at hO
        exact q_next ((y.1 + 1, swpL y.2 y.1 (y.1 + 1))) ⟨rfl, rfl, rfl, rfl, rfl, rfl, rfl, trivial⟩ ⟨hO.only [.p p], ⟨by dsimp only; omega, by dsimp only; rw [swpL_len]; exact hy.2⟩, (by dsimp only; rw [hU, movU_t (by omega)]; congr 1)⟩ (by dsimp only; omega)
      · refine K2 (K3 (L9 (K7 (L1 (L1 (L2 (K3 (K6 (K9 ?_)))))))))
        refine fin_ret ?_
        have e0 : x.2.1.toNat - 1 - y.1 = 0 := by omega
        rw [srch_eI (by omega) (by omega)] at hS
        rw [e0] at hU
        exact fin0 rfl ⟨_, (by rw [symF_1 (by omega), hS, hU]; rfl), hO.only [.p p]⟩
  · refine K2 (K3 (L9 (K5 (K3 (K0 (K0 (K1 ?_)))))))
    refine l_y rfl rfl (y_move rfl) ?_
    refine l_y rfl rfl (y_move rfl) ?_
    refine l_y rfl rfl (D4) ?_
    refine Z0 (fun h12_3 => ?_) (fun h12_3 => ?_)
    · refine K2 (K3 (L8 (K0 (K1 ?_))))
      refine l_y rfl rfl (y_move rfl) ?_
      refine l_y rfl rfl (y_assign rfl) ?_
      refine K2 (K3 (K0 (K1 ?_)))
      refine l_y rfl rfl (y_move rfl) ?_
      refine l_y rfl rfl (y_assign rfl) ?_
      refine K2 (K3 (K0 (K4 ?_)))
      refine c_rounds (X := Nat × Int × Int) (fun x => [(0, .slice p xs.length c), (1, .int .i64 (a : Int)), (2, .int .i64 (u : Int)), (3, .int .i64 (b : Int)), (4, .func (.func 59) #[] #[]), (14, .int .i64 x.2.1), (15, .int .i64 x.2.2)]) (fun x w => Own k w [sls p c 63 4 Api_attr.cells xs] ∧ ((a : Int) ≤ x.2.1 ∧ x.2.1 ≤ x.2.2 ∧ x.2.2 ≤ (u : Int) ∧ x.2.2.toNat - x.2.1.toNat ≤ x.1) ∧ (symX2 ltA xs a u = srch (fun h => !ltA (at_ xs u) (at_ xs h)) x.1 x.2.1.toNat x.2.2.toNat)) (fun x => x.1) ((u, (a : Int), (u : Int))) ⟨rfl, rfl, rfl, rfl, rfl, rfl, rfl, trivial⟩ ⟨hO.only [.p p], ⟨Int.le_refl _, by dsimp only; omega, Int.le_refl _, by dsimp only; omega⟩, rfl⟩ ?_
      rintro x w m hm ⟨hO, hx, hS⟩
      obtain ⟨q1, hq1⟩ : ∃ q, q = (x.2.1.toNat + x.2.2.toNat) / 2 := ⟨_, rfl⟩
      refine K0 (K0 (K1 ?_))
      refine l_y rfl rfl (y_move rfl) ?_
      refine l_y rfl rfl (y_move rfl) ?_
      refine Z0 (fun h15_2 => ?_) (fun h15_2 => ?_)
      · refine K2 (K3 (L8 (K5 (K3 (K4 (K0 (K1 ?_)))))))
        refine l_y rfl rfl (y_move rfl) ?_
        refine l_y rfl rfl (y_move rfl) ?_
        refine l_y rfl rfl (D4) ?_
        refine l_y rfl rfl (y_convI rfl (wu64 (by omega) (by omega))) ?_
        refine l_y rfl rfl (y_shr (r := ((q1 : Nat) : Int)) rfl rfl (by decide) (half (by omega) (by omega))) ?_
        refine l_y rfl rfl (D7) ?_
        refine l_y rfl rfl (y_assign rfl) ?_
        refine K2 (K3 (K0 ?_))
        refine da_region (by intro c a d v w h; cases d <;> exact h) ?_
        have hO := hO.drew
        refine da_phase _ [9] (SO.ks [.p p] hO) ?_
        refine dx_u 0 (by kernel_rfl) rfl rfl rfl (fun w => y_move rfl) ?_
        refine dx_u 1 (by kernel_rfl) rfl rfl rfl (fun w => y_move rfl) ?_
        refine dx_u 2 (by kernel_rfl) rfl rfl rfl (fun w => y_move rfl) ?_
        refine dx_u 3 (by kernel_rfl) rfl rfl rfl (fun w => y_idx rfl rfl) ?_
        refine dx_y 4 (by kernel_rfl) rfl rfl rfl (fun w ⟨m, hw⟩ => y_eA (x0 := 0) (cs := [.int .i64 (at_ xs ((u : Int) : Int).toNat).Space, .string (at_ xs ((u : Int) : Int).toNat).Prefix, .string (at_ xs ((u : Int) : Int).toNat).Name, .string (at_ xs ((u : Int) : Int).toNat).Value]) hw rfl) ?_
        refine dx_u 5 (by kernel_rfl) rfl rfl rfl (fun w => y_move rfl) ?_
        refine dx_u 6 (by kernel_rfl) rfl rfl rfl (fun w => y_move rfl) ?_
        refine dx_u 7 (by kernel_rfl) rfl rfl rfl (fun w => y_idx rfl rfl) ?_
        refine dx_y 8 (by kernel_rfl) rfl rfl rfl (fun w ⟨m, hw⟩ => y_eA (x0 := 0) (cs := [.int .i64 (at_ xs (((q1 : Nat) : Int) : Int).toNat).Space, .string (at_ xs (((q1 : Nat) : Int) : Int).toNat).Prefix, .string (at_ xs (((q1 : Nat) : Int) : Int).toNat).Name, .string (at_ xs (((q1 : Nat) : Int) : Int).toNat).Value]) hw rfl) ?_
        refine dx_close 9 (by kernel_rfl) rfl rfl ?_
        refine CKv [] hO rfl rfl (fun k' hx hr hO' => cmp3_spec (x := at_ xs ((u : Nat) : Int).toNat) (y := at_ xs ((q1 : Nat) : Int).toNat) (hn.at_ (by omega)) (hn.at_ (by omega)) hO') ?_
        rintro _ _ w ⟨rfl, rfl⟩ hO
        simp only [List.cons_append, List.nil_append] at hO
        refine o_done ?_
        refine da_phase _ [] (SO.ks [] hO) ?_
        refine dx_u 10 (by kernel_rfl) rfl rfl rfl (fun w => y_cmpI rfl rfl rfl) ?_
        refine dx_u 11 (by kernel_rfl) rfl rfl rfl (fun w => y_not rfl rfl) ?_
        refine dx_end (by kernel_rfl) ?_
        refine K3 ?_
        refine c_split rfl (fun hc103 => ?_) (fun hc103 => ?_)
        · refine K1 ?_
          refine l_y rfl rfl (y_move rfl) ?_
          refine l_y rfl rfl (D4) ?_
          refine l_y rfl rfl (y_assign rfl) ?_
          refine K2 (K8 ?_)
          exact q_next ((x.1 - 1, (((q1 : Nat) : Int) + 1), x.2.2)) ⟨rfl, rfl, rfl, rfl, rfl, rfl, rfl, trivial⟩ ⟨hO.only [.p p], ⟨by dsimp only; omega, by dsimp only; omega, by dsimp only; omega, by dsimp only; omega⟩, (by first | exact hS.trans (srch_tI (by omega) (by omega) (by omega) hq1 hc103) | exact hS.trans (srch_fI (by omega) (by omega) (by omega) hq1 hc103))⟩ (by dsimp only; omega)
        · refine K1 ?_
          refine l_y rfl rfl (y_move rfl) ?_
          refine l_y rfl rfl (y_assign rfl) ?_
          refine K2 (K8 ?_)
          exact q_next ((x.1 - 1, x.2.1, ((q1 : Nat) : Int))) ⟨rfl, rfl, rfl, rfl, rfl, rfl, rfl, trivial⟩ ⟨hO.only [.p p], ⟨by dsimp only; omega, by dsimp only; omega, by dsimp only; omega, by dsimp only; omega⟩, (by first | exact hS.trans (srch_tI (by omega) (by omega) (by omega) hq1 hc103) | exact hS.trans (srch_fI (by omega) (by omega) (by omega) hq1 hc103))⟩ (by dsimp only; omega)
      · refine K2 (K3 (L9 (K7 (L1 (L1 (L2 (K3 (K0 (K0 (K1 ?_))))))))))
        refine l_y rfl rfl (y_move rfl) ?_
        refine l_y rfl rfl (y_assign rfl) ?_
        refine K2 (K3 (K4 ?_))
        refine c_rounds (X := Int × List Api_attr) (fun y => [(0, .slice p xs.length c), (1, .int .i64 (a : Int)), (2, .int .i64 (u : Int)), (3, .int .i64 (b : Int)), (4, .func (.func 59) #[] #[]), (14, .int .i64 x.2.1), (17, .int .i64 y.1)]) (fun y w => Own k w [sls p c 63 4 Api_attr.cells y.2] ∧ (x.2.1 ≤ y.1 ∧ y.1 ≤ (u : Int) ∧ y.2.length = xs.length) ∧ (movD (u - x.2.1.toNat) u xs = movD (y.1.toNat - x.2.1.toNat) y.1.toNat y.2)) (fun y => y.1.toNat) (((u : Int), xs)) ⟨rfl, rfl, rfl, rfl, rfl, rfl, rfl, trivial⟩ ⟨hO.only [.p p], ⟨by dsimp only; omega, Int.le_refl _, rfl⟩, rfl⟩ ?_
        rintro y w m hm ⟨hO, hy, hU⟩
        have hgs2 : Gs p y.2.length := hy.2.2 ▸ hgs
        have ey : (y.1 - 1).toNat = y.1.toNat - 1 := by omega
        refine K0 (K0 (K1 ?_))
        refine l_y rfl rfl (y_move rfl) ?_
        refine l_y rfl rfl (y_move rfl) ?_
        refine Z0 (fun h21_2 => ?_) (fun h21_2 => ?_)
        · refine K2 (K3 (L8 (K5 (K3 (K0 (K4 ?_))))))
          refine da_region (by intro c a d v w h; cases d <;> exact h) ?_
          have hO := hO.drew
          refine da_phase _ [15] (SO.ks [.p p] hO) ?_
          refine dx_u 0 (by kernel_rfl) rfl rfl rfl (fun w => y_move rfl) ?_
          refine dx_u 1 (by kernel_rfl) rfl rfl rfl (fun w => y_move rfl) ?_
          refine dx_u 2 (by kernel_rfl) rfl rfl rfl (fun w => y_move rfl) ?_
          refine dx_u 3 (by kernel_rfl) rfl rfl rfl (fun w => y_move rfl) ?_
          refine dx_u 4 (by kernel_rfl) rfl rfl rfl (fun w => D4) ?_
          refine dx_u 5 (by kernel_rfl) rfl rfl rfl (fun w => y_move rfl) ?_
          refine dx_u 6 (by kernel_rfl) rfl rfl rfl (fun w => y_move rfl) ?_
          refine dx_u 7 (by kernel_rfl) rfl rfl rfl (fun w => D4) ?_
          refine dx_u 8 (by kernel_rfl) rfl rfl rfl (fun w => y_idx rfl rfl) ?_
          refine dx_y 9 (by kernel_rfl) rfl rfl rfl (fun w ⟨m, hw⟩ => y_eA (x0 := 0) (cs := [.int .i64 (at_ y.2 ((y.1 - 1) : Int).toNat).Space, .string (at_ y.2 ((y.1 - 1) : Int).toNat).Prefix, .string (at_ y.2 ((y.1 - 1) : Int).toNat).Name, .string (at_ y.2 ((y.1 - 1) : Int).toNat).Value]) hw rfl) ?_
          refine dx_u 10 (by kernel_rfl) rfl rfl rfl (fun w => y_move rfl) ?_
          refine dx_u 11 (by kernel_rfl) rfl rfl rfl (fun w => y_move rfl) ?_
          refine dx_u 12 (by kernel_rfl) rfl rfl rfl (fun w => y_idx rfl rfl) ?_
          refine dx_y 13 (by kernel_rfl) rfl rfl rfl (fun w ⟨m, hw⟩ => y_eA (x0 := 0) (cs := [.int .i64 (at_ y.2 (y.1 : Int).toNat).Space, .string (at_ y.2 (y.1 : Int).toNat).Prefix, .string (at_ y.2 (y.1 : Int).toNat).Name, .string (at_ y.2 (y.1 : Int).toNat).Value]) hw rfl) ?_
          refine dx_u 14 (by kernel_rfl) rfl rfl rfl (fun w => y_idx rfl rfl) ?_
          refine dx_close 15 (by kernel_rfl) rfl rfl ?_
          refine s_eA (at_ y.2 (y.1 - 1).toNat) hO rfl rfl (fun w hO => ?_)
          refine o_done ?_
          refine da_phase _ [17] (SO.ks [] hO) ?_
          refine dx_u 16 (by kernel_rfl) rfl rfl rfl (fun w => y_idx rfl rfl) ?_
          refine dx_close 17 (by kernel_rfl) rfl rfl ?_
          refine s_eA (at_ y.2 y.1.toNat) hO rfl rfl (fun w hO => ?_)
          refine o_done ?_
          refine da_end (by kernel_rfl) ?_
          refine K8 (K3 (K1 ?_))
          refine l_y rfl rfl (y_move rfl) ?_
          refine l_y rfl rfl (D4) ?_
          refine l_y rfl rfl (y_assign rfl) ?_
          refine K2 ?_
          rw [ey] at hO
          exact q_next ((y.1 - 1, swpL y.2 y.1.toNat (y.1.toNat - 1))) ⟨rfl, rfl, rfl, rfl, rfl, rfl, rfl, trivial⟩ ⟨hO.only [.p p], ⟨by dsimp only; omega, by dsimp only; omega, by dsimp only; rw [swpL_len]; exact hy.2.2⟩, (by dsimp only; rw [hU, movD_t (by omega), ey]; congr 1; omega)⟩ (by dsimp only; omega)
        · refine K2 (K3 (L9 (K7 (L1 (L1 (L2 (K3 (K6 (K9 ?_)))))))))
          refine fin_ret ?_
          have e0 : y.1.toNat - x.2.1.toNat = 0 := by omega
          rw [srch_eI (by omega) (by omega)] at hS
          rw [e0] at hU
          exact fin0 rfl ⟨_, (by rw [symF_2 (by omega) (by omega), hS, hU]; rfl), hO.only [.p p]⟩
    · refine K2 (K3 (L9 (K5 (K3 (K0 (K1 ?_))))))
      refine l_y rfl rfl (y_move rfl) ?_
      refine l_y rfl rfl (y_move rfl) ?_
      refine l_y rfl rfl (D4) ?_
      refine l_y rfl rfl (y_convI rfl (wu64 (by omega) (by omega))) ?_
      refine l_y rfl rfl (y_shr (r := ((q : Nat) : Int)) rfl rfl (by decide) (half (by omega) (by omega))) ?_
      refine l_y rfl rfl (D7) ?_
      refine l_y rfl rfl (y_assign rfl) ?_
      refine K2 (K3 (K0 (K1 ?_)))
      refine l_y rfl rfl (y_move rfl) ?_
      refine l_y rfl rfl (y_move rfl) ?_
      refine l_y rfl rfl (D4) ?_
      refine l_y rfl rfl (y_assign rfl) ?_
      refine K2 (K3 (K0 (K1 ?_)))
      refine l_y rfl rfl (y_assign rfl) ?_
      refine l_y rfl rfl (y_assign rfl) ?_
      refine K2 (K3 ?_)
      refine c_cut (X := Int × Int) (fun v => [(0, .slice p xs.length c), (1, .int .i64 (a : Int)), (2, .int .i64 (u : Int)), (3, .int .i64 (b : Int)), (4, .func (.func 59) #[] #[]), (18, .int .i64 ((q : Nat) : Int)), (19, .int .i64 (((q : Nat) : Int) + (u : Int))), (20, .int .i64 v.1), (21, .int .i64 v.2)]) (fun v w => Own k w [sls p c 63 4 Api_attr.cells xs] ∧ (v.1 = (symS a u b : Int) ∧ v.2 = (symR a u b : Int))) ?_ ?_
      · refine K0 (K1 ?_)
        refine l_y rfl rfl (y_move rfl) ?_
        refine l_y rfl rfl (y_move rfl) ?_
        refine Z0 (fun h27_2 => ?_) (fun h27_2 => ?_)
        · refine K2 (K3 (L8 (K0 (K1 ?_))))
          refine l_y rfl rfl (y_move rfl) ?_
          refine l_y rfl rfl (y_move rfl) ?_
          refine l_y rfl rfl (D4) ?_
          refine l_y rfl rfl (y_assign rfl) ?_
          refine K2 (K3 (K1 ?_))
          refine l_y rfl rfl (y_move rfl) ?_
          refine l_y rfl rfl (y_assign rfl) ?_
          refine K2 ?_
          exact q_cut ((((((q : Nat) : Int) + (u : Int)) - (b : Int)), ((q : Nat) : Int))) ⟨rfl, rfl, rfl, rfl, rfl, rfl, rfl, rfl, rfl, trivial⟩ ⟨hO.only [.p p], ⟨by unfold symS; dsimp only; split <;> omega, by unfold symR; dsimp only; split <;> omega⟩⟩
        · refine K2 (K3 (L9 (K0 (K1 ?_))))
          refine l_y rfl rfl (y_move rfl) ?_
          refine l_y rfl rfl (y_assign rfl) ?_
          refine K2 (K3 (K1 ?_))
          refine l_y rfl rfl (y_move rfl) ?_
          refine l_y rfl rfl (y_assign rfl) ?_
          refine K2 ?_
          exact q_cut (((a : Int), (u : Int))) ⟨rfl, rfl, rfl, rfl, rfl, rfl, rfl, rfl, rfl, trivial⟩ ⟨hO.only [.p p], ⟨by unfold symS; dsimp only; split <;> omega, by unfold symR; dsimp only; split <;> omega⟩⟩
      · rintro v w ⟨hO, hv⟩
        refine K0 (K1 ?_)
        refine l_y rfl rfl (y_move rfl) ?_
        refine l_y rfl rfl (D4) ?_
        refine l_y rfl rfl (y_assign rfl) ?_
        refine K2 (K3 (K0 (K4 ?_)))
        refine c_rounds (X := Nat × Int × Int) (fun x => [(0, .slice p xs.length c), (1, .int .i64 (a : Int)), (2, .int .i64 (u : Int)), (3, .int .i64 (b : Int)), (4, .func (.func 59) #[] #[]), (18, .int .i64 ((q : Nat) : Int)), (19, .int .i64 (((q : Nat) : Int) + (u : Int))), (20, .int .i64 x.2.1), (21, .int .i64 x.2.2), (22, .int .i64 ((((q : Nat) : Int) + (u : Int)) - 1))]) (fun x w => Own k w [sls p c 63 4 Api_attr.cells xs] ∧ ((symS a u b : Int) ≤ x.2.1 ∧ x.2.1 ≤ x.2.2 ∧ x.2.2 ≤ (symR a u b : Int) ∧ x.2.2.toNat - x.2.1.toNat ≤ x.1) ∧ (symX ltA xs a u b = srch (fun h => !ltA (at_ xs ((a + b) / 2 + u - 1 - h)) (at_ xs h)) x.1 x.2.1.toNat x.2.2.toNat)) (fun x => x.1) ((b, v.1, v.2)) ⟨rfl, rfl, rfl, rfl, rfl, rfl, rfl, rfl, rfl, rfl, trivial⟩ ⟨hO.only [.p p], ⟨by dsimp only; omega, by dsimp only; omega, by dsimp only; omega, by dsimp only; omega⟩, (by dsimp only; rw [hv.1, hv.2]; rfl)⟩ ?_
        rintro x w m hm ⟨hO, hx, hS⟩
        obtain ⟨q1, hq1⟩ : ∃ q, q = (x.2.1.toNat + x.2.2.toNat) / 2 := ⟨_, rfl⟩
        refine K0 (K0 (K1 ?_))
        refine l_y rfl rfl (y_move rfl) ?_
        refine l_y rfl rfl (y_move rfl) ?_
        refine Z0 (fun h33_2 => ?_) (fun h33_2 => ?_)
        · refine K2 (K3 (L8 (K5 (K3 (K4 (K0 (K1 ?_)))))))
          refine l_y rfl rfl (y_move rfl) ?_
          refine l_y rfl rfl (y_move rfl) ?_
          refine l_y rfl rfl (D4) ?_
          refine l_y rfl rfl (y_convI rfl (wu64 (by omega) (by omega))) ?_
          refine l_y rfl rfl (y_shr (r := ((q1 : Nat) : Int)) rfl rfl (by decide) (half (by omega) (by omega))) ?_
          refine l_y rfl rfl (D7) ?_
          refine l_y rfl rfl (y_assign rfl) ?_
          refine K2 (K3 (K0 ?_))
          have ei : (((q : Nat) : Int) + (u : Int) - 1 - ((q1 : Nat) : Int)).toNat = (a + b) / 2 + u - 1 - q1 := by omega
          refine da_region (by intro c a d v w h; cases d <;> exact h) ?_
          have hO := hO.drew
          refine da_phase _ [11] (SO.ks [.p p] hO) ?_
          refine dx_u 0 (by kernel_rfl) rfl rfl rfl (fun w => y_move rfl) ?_
          refine dx_u 1 (by kernel_rfl) rfl rfl rfl (fun w => y_move rfl) ?_
          refine dx_u 2 (by kernel_rfl) rfl rfl rfl (fun w => y_move rfl) ?_
          refine dx_u 3 (by kernel_rfl) rfl rfl rfl (fun w => y_move rfl) ?_
          refine dx_u 4 (by kernel_rfl) rfl rfl rfl (fun w => D4) ?_
          refine dx_u 5 (by kernel_rfl) rfl rfl rfl (fun w => y_idx rfl rfl) ?_
          refine dx_y 6 (by kernel_rfl) rfl rfl rfl (fun w ⟨m, hw⟩ => y_eA (x0 := 0) (cs := [.int .i64 (at_ xs ((((((q : Nat) : Int) + (u : Int)) - 1) - ((q1 : Nat) : Int)) : Int).toNat).Space, .string (at_ xs ((((((q : Nat) : Int) + (u : Int)) - 1) - ((q1 : Nat) : Int)) : Int).toNat).Prefix, .string (at_ xs ((((((q : Nat) : Int) + (u : Int)) - 1) - ((q1 : Nat) : Int)) : Int).toNat).Name, .string (at_ xs ((((((q : Nat) : Int) + (u : Int)) - 1) - ((q1 : Nat) : Int)) : Int).toNat).Value]) hw rfl) ?_
          refine dx_u 7 (by kernel_rfl) rfl rfl rfl (fun w => y_move rfl) ?_
          refine dx_u 8 (by kernel_rfl) rfl rfl rfl (fun w => y_move rfl) ?_
          refine dx_u 9 (by kernel_rfl) rfl rfl rfl (fun w => y_idx rfl rfl) ?_
          refine dx_y 10 (by kernel_rfl) rfl rfl rfl (fun w ⟨m, hw⟩ => y_eA (x0 := 0) (cs := [.int .i64 (at_ xs (((q1 : Nat) : Int) : Int).toNat).Space, .string (at_ xs (((q1 : Nat) : Int) : Int).toNat).Prefix, .string (at_ xs (((q1 : Nat) : Int) : Int).toNat).Name, .string (at_ xs (((q1 : Nat) : Int) : Int).toNat).Value]) hw rfl) ?_
          refine dx_close 11 (by kernel_rfl) rfl rfl ?_
          refine CKv [] hO rfl rfl (fun k' hx hr hO' => cmp3_spec (x := at_ xs (((q : Nat) : Int) + (u : Int) - 1 - ((q1 : Nat) : Int)).toNat) (y := at_ xs ((q1 : Nat) : Int).toNat) (hn.at_ (by omega)) (hn.at_ (by omega)) hO') ?_
          rintro _ _ w ⟨rfl, rfl⟩ hO
          simp only [List.cons_append, List.nil_append] at hO
          refine o_done ?_
          refine da_phase _ [] (SO.ks [] hO) ?_
          refine dx_u 12 (by kernel_rfl) rfl rfl rfl (fun w => y_cmpI rfl rfl rfl) ?_
          refine dx_u 13 (by kernel_rfl) rfl rfl rfl (fun w => y_not rfl rfl) ?_
          refine dx_end (by kernel_rfl) ?_
          refine K3 ?_
          refine c_split rfl (fun hc171 => ?_) (fun hc171 => ?_)
          · have hcc := hc171
            rw [ei] at hcc
            refine K1 ?_
            refine l_y rfl rfl (y_move rfl) ?_
            refine l_y rfl rfl (D4) ?_
            refine l_y rfl rfl (y_assign rfl) ?_
            refine K2 (K8 ?_)
            exact q_next ((x.1 - 1, (((q1 : Nat) : Int) + 1), x.2.2)) ⟨rfl, rfl, rfl, rfl, rfl, rfl, rfl, rfl, rfl, rfl, trivial⟩ ⟨hO.only [.p p], ⟨by dsimp only; omega, by dsimp only; omega, by dsimp only; omega, by dsimp only; omega⟩, (by first | exact hS.trans (srch_tI (by omega) (by omega) (by omega) hq1 hcc) | exact hS.trans (srch_fI (by omega) (by omega) (by omega) hq1 hcc))⟩ (by dsimp only; omega)
          · have hcc := hc171
            rw [ei] at hcc
            refine K1 ?_
            refine l_y rfl rfl (y_move rfl) ?_
            refine l_y rfl rfl (y_assign rfl) ?_
            refine K2 (K8 ?_)
            exact q_next ((x.1 - 1, x.2.1, ((q1 : Nat) : Int))) ⟨rfl, rfl, rfl, rfl, rfl, rfl, rfl, rfl, rfl, rfl, trivial⟩ ⟨hO.only [.p p], ⟨by dsimp only; omega, by dsimp only; omega, by dsimp only; omega, by dsimp only; omega⟩, (by first | exact hS.trans (srch_tI (by omega) (by omega) (by omega) hq1 hcc) | exact hS.trans (srch_fI (by omega) (by omega) (by omega) hq1 hcc))⟩ (by dsimp only; omega)
        · refine K2 (K3 (L9 (K7 (L1 (L1 (L2 (K3 (K0 ?_))))))))
          have hX := hS
          rw [srch_eI (by omega) (by omega)] at hX
          refine K1 ?_
          refine l_y rfl rfl (y_move rfl) ?_
          refine l_y rfl rfl (y_move rfl) ?_
          refine l_y rfl rfl (D4) ?_
          refine l_y rfl rfl (y_assign rfl) ?_
          refine K2 (K3 ?_)
          refine c_cut (X := List Api_attr) (fun l1 => [(0, .slice p xs.length c), (1, .int .i64 (a : Int)), (3, .int .i64 (b : Int)), (4, .func (.func 59) #[] #[]), (18, .int .i64 ((q : Nat) : Int)), (20, .int .i64 x.2.1), (24, .int .i64 ((((q : Nat) : Int) + (u : Int)) - x.2.1))]) (fun l1 w => Own k w [sls p c 63 4 Api_attr.cells l1] ∧ (l1 = symL xs a u b x.2.1.toNat)) ?_ ?_
          · refine K0 (K1 ?_)
            refine l_y rfl rfl (y_move rfl) ?_
            refine l_y rfl rfl (y_move rfl) ?_
            refine Z0 (fun h39_2 => ?_) (fun h39_2 => ?_)
            · refine l_y rfl rfl (y_move rfl) ?_
              refine l_y rfl rfl (y_move rfl) ?_
              refine l_y rfl rfl (y_move rfl) ?_
              refine Z0 (fun h39_6 => ?_) (fun h39_6 => ?_)
              · refine l_y rfl rfl (y_pick_t rfl rfl) ?_
                refine K2 (K3 (L8 (K1 ?_)))
                refine l_y rfl rfl (y_move rfl) ?_
                refine l_y rfl rfl (y_move rfl) ?_
                refine l_y rfl rfl (y_move rfl) ?_
                refine l_y rfl rfl (y_move rfl) ?_
                refine l_y rfl rfl (y_move rfl) ?_
                refine CK [.p p] hO rfl (fun k' hx hr hO' => rot_spec (a := x.2.1.toNat) (u := u) (b := (a + b) / 2 + u - x.2.1.toNat) rfl (by omega) rfl (by omega) (by omega) (by omega) (by omega) hl (hO := hO')) ?_
                rintro _ _ w rfl hO
                simp only [List.cons_append, List.nil_append] at hO
                refine K2 ?_
                exact q_cut (_) ⟨rfl, rfl, rfl, rfl, rfl, rfl, rfl, trivial⟩ ⟨hO.only [.p p], (by unfold symL; first | rw [if_pos (by omega)] | rw [if_neg (by omega)])⟩
              · refine l_y rfl rfl (y_pick_t rfl rfl) ?_
                refine K2 (K3 (L9 (K5 ?_)))
                exact q_cut (_) ⟨rfl, rfl, rfl, rfl, rfl, rfl, rfl, trivial⟩ ⟨hO.only [.p p], (by unfold symL; first | rw [if_pos (by omega)] | rw [if_neg (by omega)])⟩
            · refine l_y rfl rfl (y_move rfl) ?_
              repeat refine M2 ?_
              refine l_y rfl rfl (y_pick_f rfl rfl) ?_
              refine K2 (K3 (L9 (K5 ?_)))
              exact q_cut (_) ⟨rfl, rfl, rfl, rfl, rfl, rfl, rfl, trivial⟩ ⟨hO.only [.p p], (by unfold symL; first | rw [if_pos (by omega)] | rw [if_neg (by omega)])⟩
          · rintro l1 w ⟨hO, hl1⟩
            have hp1 : l1.Perm xs := by rw [hl1]; exact symL_perm h1 h2 hb (by omega)
            refine c_cut (X := List Api_attr) (fun l2 => [(0, .slice p xs.length c), (3, .int .i64 (b : Int)), (4, .func (.func 59) #[] #[]), (18, .int .i64 ((q : Nat) : Int)), (20, .int .i64 x.2.1), (24, .int .i64 ((((q : Nat) : Int) + (u : Int)) - x.2.1))]) (fun l2 w => Own k w [sls p c 63 4 Api_attr.cells l2] ∧ (l2 = if a < x.2.1.toNat ∧ x.2.1.toNat < (a + b) / 2 then symF ltA f a x.2.1.toNat ((a + b) / 2) l1 else l1)) ?_ ?_
            · refine K0 (K1 ?_)
              refine l_y rfl rfl (y_move rfl) ?_
              refine l_y rfl rfl (y_move rfl) ?_
              refine Z0 (fun h41_2 => ?_) (fun h41_2 => ?_)
              · refine l_y rfl rfl (y_move rfl) ?_
                refine l_y rfl rfl (y_move rfl) ?_
                refine l_y rfl rfl (y_move rfl) ?_
                refine Z0 (fun h41_6 => ?_) (fun h41_6 => ?_)
                · refine l_y rfl rfl (y_pick_t rfl rfl) ?_
                  refine K2 (K3 (L8 (K1 ?_)))
                  refine l_y rfl rfl (y_move rfl) ?_
                  refine l_y rfl rfl (y_move rfl) ?_
                  refine l_y rfl rfl (y_move rfl) ?_
                  refine l_y rfl rfl (y_move rfl) ?_
                  refine l_y rfl rfl (y_move rfl) ?_
                  refine CK [.p p] hO rfl (fun k' hx hr hO' => ih (a := a) (u := x.2.1.toNat) (b := (a + b) / 2) hp1.length_eq.symm rfl (by omega) (by omega) (by omega) (by omega) (by rw [hp1.length_eq]; omega) (by rw [hp1.length_eq]; omega) (by omega) (hn.perm hp1) hO') ?_
                  rintro _ _ w rfl hO
                  simp only [List.cons_append, List.nil_append] at hO
                  refine K2 ?_
                  exact q_cut (_) ⟨rfl, rfl, rfl, rfl, rfl, rfl, trivial⟩ ⟨hO.only [.p p], (by first | rw [if_pos (by omega)] | rw [if_neg (by omega)])⟩
                · refine l_y rfl rfl (y_pick_t rfl rfl) ?_
                  refine K2 (K3 (L9 (K5 ?_)))
                  exact q_cut (_) ⟨rfl, rfl, rfl, rfl, rfl, rfl, trivial⟩ ⟨hO.only [.p p], (by first | rw [if_pos (by omega)] | rw [if_neg (by omega)])⟩
              · refine l_y rfl rfl (y_move rfl) ?_
                repeat refine M2 ?_
                refine l_y rfl rfl (y_pick_f rfl rfl) ?_
                refine K2 (K3 (L9 (K5 ?_)))
                exact q_cut (_) ⟨rfl, rfl, rfl, rfl, rfl, rfl, trivial⟩ ⟨hO.only [.p p], (by first | rw [if_pos (by omega)] | rw [if_neg (by omega)])⟩
            · rintro l2 w ⟨hO, hl2⟩
              have hp2 : l2.Perm xs := by
                rw [hl2]; split
                · next hh => exact (symF_perm ltA hh.1 hh.2 (by rw [hp1.length_eq]; omega)).trans hp1
                · exact hp1
              refine K0 (K1 ?_)
              refine l_y rfl rfl (y_move rfl) ?_
              refine l_y rfl rfl (y_move rfl) ?_
              refine Z0 (fun h43_2 => ?_) (fun h43_2 => ?_)
              · refine l_y rfl rfl (y_move rfl) ?_
                refine l_y rfl rfl (y_move rfl) ?_
                refine l_y rfl rfl (y_move rfl) ?_
                refine Z0 (fun h43_6 => ?_) (fun h43_6 => ?_)
                · refine l_y rfl rfl (y_pick_t rfl rfl) ?_
                  refine K2 (K3 (L8 (K1 ?_)))
                  refine l_y rfl rfl (y_move rfl) ?_
                  refine l_y rfl rfl (y_move rfl) ?_
                  refine l_y rfl rfl (y_move rfl) ?_
                  refine l_y rfl rfl (y_move rfl) ?_
                  refine l_y rfl rfl (y_move rfl) ?_
                  refine CK [.p p] hO rfl (fun k' hx hr hO' => ih (a := (a + b) / 2) (u := (a + b) / 2 + u - x.2.1.toNat) (b := b) hp2.length_eq.symm (by omega) (by omega) rfl (by omega) (by omega) (by rw [hp2.length_eq]; omega) (by rw [hp2.length_eq]; omega) (by omega) (hn.perm hp2) hO') ?_
                  rintro _ _ w rfl hO
                  simp only [List.cons_append, List.nil_append] at hO
                  refine K2 ?_
                  exact fin0 rfl ⟨_, (by rw [symF_3 (by omega) (by omega) hX hl1 hl2 rfl]; first | rw [if_pos (by omega)] | rw [if_neg (by omega)]), hO.only [.p p]⟩
                · refine l_y rfl rfl (y_pick_t rfl rfl) ?_
                  refine K2 (K3 (L9 (K5 ?_)))
                  exact fin0 rfl ⟨_, (by rw [symF_3 (by omega) (by omega) hX hl1 hl2 rfl]; first | rw [if_pos (by omega)] | rw [if_neg (by omega)]), hO.only [.p p]⟩
              · refine l_y rfl rfl (y_move rfl) ?_
                repeat refine M2 ?_
                refine l_y rfl rfl (y_pick_f rfl rfl) ?_
                refine K2 (K3 (L9 (K5 ?_)))
                exact fin0 rfl ⟨_, (by rw [symF_3 (by omega) (by omega) hX hl1 hl2 rfl]; first | rw [if_pos (by omega)] | rw [if_neg (by omega)]), hO.only [.p p]⟩
end Go.Proofs.Ythkmnohghpdjhaa
end
section
set_option linter.unusedVariables false
set_option linter.unusedSimpArgs false
set_option maxRecDepth 100000
namespace Go.Proofs.Ythkmnohghpdjhaa
open Go Go.Hb Go.RowKit
section
variable {α : Type} [Inhabited α] {lt : α → α → Bool}
theorem stI_a {n f a : Nat} {l : List α} (hf : 0 < f) (h : a + 20 ≤ n) : stI lt n f a l = stI lt n (f - 1) (a + 20) (insS lt a (a + 20) l) := by
  cases f with
  | zero => omega
  | succ f => rw [stI, if_pos h]; rfl
theorem stI_b {n f a : Nat} {l : List α} (hf : 0 < f) (h : ¬ a + 20 ≤ n) : stI lt n f a l = insS lt a n l := by
  cases f with
  | zero => omega
  | succ f => rw [stI, if_neg h]
theorem stG_a {n bs f a : Nat} {l : List α} (hf : 0 < f) (h : a + 2 * bs ≤ n) : stG lt n bs f a l = stG lt n bs (f - 1) (a + 2 * bs) (symF lt n a (a + bs) (a + 2 * bs) l) := by
  cases f with
  | zero => omega
  | succ f => rw [stG, if_pos h]; rfl
theorem stG_b {n bs f a : Nat} {l : List α} (hf : 0 < f) (h : ¬ a + 2 * bs ≤ n) : stG lt n bs f a l = if a + bs < n then symF lt n a (a + bs) n l else l := by
  cases f with
  | zero => omega
  | succ f => rw [stG, if_neg h]
theorem stM_a {n bs f : Nat} {l : List α} (hf : 0 < f) (h : bs < n) : stM lt n f bs l = stM lt n (f - 1) (2 * bs) (stG lt n bs (n + 1) 0 l) := by
  cases f with
  | zero => omega
  | succ f => rw [stM, if_pos h]; rfl
theorem stM_b {n bs f : Nat} {l : List α} (h : ¬ bs < n) : stM lt n f bs l = l := by
  cases f with
  | zero => rfl
  | succ f => rw [stM, if_neg h]
end
section
variable {k : Ctx} {w : World}
set_option maxHeartbeats 2000000 in
theorem stable_spec {p : Option Addr} {c : Nat} {xs : List Api_attr} (hl : xs.length ≤ 1024) (hn : NmOk xs) (hO : Own k w [sls p c 63 4 Api_attr.cells xs]) :
    Tri Try.prog 87 #[.slice p xs.length c, .int .i64 ((xs.length : Nat) : Int), .func (.func 59) #[] #[]] k w fun _ o => o = [sls p c 63 4 Api_attr.cells (stS ltA xs)] := by
  refine enter (args := [.slice p xs.length c, .int .i64 ((xs.length : Nat) : Int), .func (.func 59) #[] #[]]) Try.func87 rfl rfl ?_
  refine K0 (K1 ?_)
  refine l_y rfl rfl (y_assign rfl) ?_
  refine K2 (K3 (K0 (K1 ?_)))
  refine l_y rfl rfl (y_move rfl) ?_
  refine l_y rfl rfl (y_assign rfl) ?_
  refine l_y rfl rfl (y_assign rfl) ?_
  refine K2 (K3 (K0 (K4 ?_)))
  refine c_rounds (X := Nat × Nat × List Api_attr) (fun s => [(0, .slice p xs.length c), (1, .int .i64 ((xs.length : Nat) : Int)), (2, .func (.func 59) #[] #[]), (6, .int .i64 20), (7, .int .i64 (s.2.1 : Int)), (8, .int .i64 ((s.2.1 + 20 : Nat) : Int))]) (fun s w => Own k w [sls p c 63 4 Api_attr.cells s.2.2] ∧ (s.2.1 ≤ xs.length ∧ xs.length < s.1 + s.2.1 ∧ s.2.2.Perm xs) ∧ (stI ltA xs.length (xs.length + 1) 0 xs = stI ltA xs.length s.1 s.2.1 s.2.2)) (fun s => xs.length - s.2.1) ((xs.length + 1, 0, xs)) ⟨rfl, rfl, rfl, rfl, rfl, rfl, trivial⟩ ⟨hO.only [.p p], ⟨Nat.zero_le _, by dsimp only; omega, .refl _⟩, rfl⟩ ?_
  rintro s w m hm ⟨hO, hs, hT⟩
  refine K0 (K0 (K1 ?_))
  refine l_y rfl rfl (y_move rfl) ?_
  refine l_y rfl rfl (y_move rfl) ?_
  refine Z0 (fun h2_2 => ?_) (fun h2_2 => ?_)
  · refine K2 (K3 (L8 (K5 (K3 (K4 (K0 (K1 ?_)))))))
    refine l_y rfl rfl (y_move rfl) ?_
    refine l_y rfl rfl (y_move rfl) ?_
    refine l_y rfl rfl (y_move rfl) ?_
    refine l_y rfl rfl (y_move rfl) ?_
    refine CK [.p p] hO rfl (fun k' hx hr hO' => ins_spec (a := s.2.1) (b := s.2.1 + 20) hs.2.2.length_eq.symm rfl rfl (by rw [hs.2.2.length_eq]; omega) (by omega) (by rw [hs.2.2.length_eq]; omega) (hn.perm hs.2.2) (hO := hO')) ?_
    rintro _ _ w rfl hO
    simp only [List.cons_append, List.nil_append] at hO
    refine K2 (K3 (K0 (K1 ?_)))
    refine l_y rfl rfl (y_move rfl) ?_
    refine l_y rfl rfl (y_assign rfl) ?_
    refine K2 (K3 (K1 ?_))
    refine l_y rfl rfl (y_move rfl) ?_
    refine l_y rfl rfl (y_move rfl) ?_
    refine l_y rfl rfl (D4) ?_
    refine l_y rfl rfl (y_assign rfl) ?_
    refine K2 (K8 ?_)
    exact q_next ((s.1 - 1, s.2.1 + 20, insS ltA s.2.1 (s.2.1 + 20) s.2.2)) ⟨rfl, rfl, rfl, rfl, rfl, rfl, trivial⟩ ⟨hO.only [.p p], ⟨by dsimp only; omega, by dsimp only; omega, (insS_perm (by rw [hs.2.2.length_eq]; omega)).trans hs.2.2⟩, (by rw [hT, stI_a (by omega) (by omega)])⟩ (by dsimp only; omega)
  · refine K2 (K3 (L9 (K7 (L1 (L1 (L2 (K3 (K0 (K1 ?_)))))))))
    refine l_y rfl rfl (y_move rfl) ?_
    refine l_y rfl rfl (y_move rfl) ?_
    refine l_y rfl rfl (y_move rfl) ?_
    refine l_y rfl rfl (y_move rfl) ?_
    refine CK [.p p] hO rfl (fun k' hx hr hO' => ins_spec (a := s.2.1) (b := xs.length) hs.2.2.length_eq.symm rfl rfl (by rw [hs.2.2.length_eq]; omega) (by omega) (by rw [hs.2.2.length_eq]; omega) (hn.perm hs.2.2) (hO := hO')) ?_
    rintro _ _ w rfl hO
    simp only [List.cons_append, List.nil_append] at hO
    have hT1 := hT.trans (stI_b (by omega) (by omega))
    rw [← hT1] at hO
    have hp1 : (stI ltA xs.length (xs.length + 1) 0 xs).Perm xs := stI_perm ltA (Nat.le_refl _)
    generalize hl1 : stI ltA xs.length (xs.length + 1) 0 xs = l1 at hO hp1
    refine K2 (K3 (K4 ?_))
    refine c_rounds (X := Nat × Nat × List Api_attr) (fun y => [(0, .slice p xs.length c), (1, .int .i64 ((xs.length : Nat) : Int)), (2, .func (.func 59) #[] #[]), (6, .int .i64 (y.2.1 : Int))]) (fun y w => Own k w [sls p c 63 4 Api_attr.cells y.2.2] ∧ (0 < y.2.1 ∧ y.2.1 ≤ 2048 ∧ xs.length < y.1 + y.2.1 ∧ y.2.2.Perm xs) ∧ (stM ltA xs.length (xs.length + 1) 20 l1 = stM ltA xs.length y.1 y.2.1 y.2.2)) (fun y => xs.length - y.2.1) ((xs.length + 1, 20, l1)) ⟨rfl, rfl, rfl, rfl, trivial⟩ ⟨hO.only [.p p], ⟨by dsimp only; omega, by dsimp only; omega, by dsimp only; omega, hp1⟩, rfl⟩ ?_
    rintro y w m hm ⟨hO, hy, hU⟩
    refine K0 (K0 (K1 ?_))
    refine l_y rfl rfl (y_move rfl) ?_
    refine l_y rfl rfl (y_move rfl) ?_
    refine Z0 (fun h7_2 => ?_) (fun h7_2 => ?_)
    · refine K2 (K3 (L8 (K5 (K3 (K4 (K0 (K1 ?_)))))))
      refine l_y rfl rfl (y_move rfl) ?_
      refine l_y rfl rfl (D4) ?_
      refine l_y rfl rfl (y_assign rfl) ?_
      refine l_y rfl rfl (y_assign rfl) ?_
      refine K2 (K3 (K0 (K4 ?_)))
      refine c_rounds (X := Nat × Int × Int × List Api_attr) (fun x => [(0, .slice p xs.length c), (1, .int .i64 ((xs.length : Nat) : Int)), (2, .func (.func 59) #[] #[]), (6, .int .i64 (y.2.1 : Int)), (7, .int .i64 x.2.1), (8, .int .i64 x.2.2.1)]) (fun x w => Own k w [sls p c 63 4 Api_attr.cells x.2.2.2] ∧ (x.2.2.1 = x.2.1 + 2 * (y.2.1 : Int) ∧ 0 ≤ x.2.1 ∧ x.2.1 ≤ (xs.length : Int) ∧ (xs.length : Int) < (x.1 : Int) + x.2.1) ∧ (x.2.2.2.Perm xs) ∧ (stG ltA xs.length y.2.1 (xs.length + 1) 0 y.2.2 = stG ltA xs.length y.2.1 x.1 x.2.1.toNat x.2.2.2)) (fun x => xs.length - x.2.1.toNat) ((xs.length + 1, 0, 2 * (y.2.1 : Int), y.2.2)) ⟨rfl, rfl, rfl, rfl, rfl, rfl, trivial⟩ ⟨hO.only [.p p], ⟨by dsimp only; omega, Int.le_refl _, by dsimp only; omega, by dsimp only; omega⟩, hy.2.2.2, rfl⟩ ?_
      rintro x w m hm ⟨hO, hx, hxp, hS⟩
      have ea : x.2.2.1.toNat = x.2.1.toNat + 2 * y.2.1 := by omega
      refine K0 (K0 (K1 ?_))
      refine l_y rfl rfl (y_move rfl) ?_
      refine l_y rfl rfl (y_move rfl) ?_
      refine Z0 (fun h9_2 => ?_) (fun h9_2 => ?_)
      · refine K2 (K3 (L8 (K5 (K3 (K4 (K0 (K1 ?_)))))))
        refine l_y rfl rfl (y_move rfl) ?_
        refine l_y rfl rfl (y_move rfl) ?_
        refine l_y rfl rfl (y_move rfl) ?_
        refine l_y rfl rfl (y_move rfl) ?_
        refine l_y rfl rfl (D4) ?_
        refine l_y rfl rfl (y_move rfl) ?_
        refine l_y rfl rfl (y_move rfl) ?_
        refine CK [.p p] hO rfl (fun k' _ hr hO' => sym_spec xs.length (a := x.2.1.toNat) (u := x.2.1.toNat + y.2.1) (b := x.2.1.toNat + 2 * y.2.1) hxp.length_eq.symm (by omega) (by omega) (by omega) (by omega) (by omega) (by rw [hxp.length_eq]; omega) (by rw [hxp.length_eq]; omega) (by omega) (hn.perm hxp) hO') ?_
        rintro _ _ w rfl hO
        simp only [List.cons_append, List.nil_append] at hO
        refine K2 (K3 (K0 (K1 ?_)))
        refine l_y rfl rfl (y_move rfl) ?_
        refine l_y rfl rfl (y_assign rfl) ?_
        refine K2 (K3 (K1 ?_))
        refine l_y rfl rfl (y_move rfl) ?_
        refine l_y rfl rfl (y_move rfl) ?_
        refine l_y rfl rfl (D4) ?_
        refine l_y rfl rfl (D4) ?_
        refine l_y rfl rfl (y_assign rfl) ?_
        refine K2 (K8 ?_)
        exact q_next ((x.1 - 1, x.2.2.1, (x.2.2.1 + (2 * (y.2.1 : Int))), symF ltA xs.length x.2.1.toNat (x.2.1.toNat + y.2.1) (x.2.1.toNat + 2 * y.2.1) x.2.2.2)) ⟨rfl, rfl, rfl, rfl, rfl, rfl, trivial⟩ ⟨hO.only [.p p], ⟨rfl, by dsimp only; omega, by dsimp only; omega, by dsimp only; omega⟩, (symF_perm ltA (by omega) (by omega) (by rw [hxp.length_eq]; omega)).trans hxp, (by dsimp only; rw [hS, stG_a (by omega) (by omega), ea])⟩ (by dsimp only; omega)
      · refine K2 (K3 (L9 (K7 (L1 (L1 (L2 (K3 ?_)))))))
        refine c_cut (X := List Api_attr) (fun v => [(0, .slice p xs.length c), (1, .int .i64 ((xs.length : Nat) : Int)), (2, .func (.func 59) #[] #[]), (6, .int .i64 (y.2.1 : Int))]) (fun v w => Own k w [sls p c 63 4 Api_attr.cells v] ∧ (v = stG ltA xs.length y.2.1 (xs.length + 1) 0 y.2.2)) ?_ ?_
        · refine K0 (K1 ?_)
          refine l_y rfl rfl (y_move rfl) ?_
          refine l_y rfl rfl (y_move rfl) ?_
          refine l_y rfl rfl (D4) ?_
          refine l_y rfl rfl (y_assign rfl) ?_
          refine K2 (K3 (K0 (K1 ?_)))
          refine l_y rfl rfl (y_move rfl) ?_
          refine l_y rfl rfl (y_move rfl) ?_
          refine Z0 (fun h14_2 => ?_) (fun h14_2 => ?_)
          · refine K2 (K3 (L8 (K1 ?_)))
            refine l_y rfl rfl (y_move rfl) ?_
            refine l_y rfl rfl (y_move rfl) ?_
            refine l_y rfl rfl (y_move rfl) ?_
            refine l_y rfl rfl (y_move rfl) ?_
            refine l_y rfl rfl (y_move rfl) ?_
            refine CK [.p p] hO rfl (fun k' _ hr hO' => sym_spec xs.length (a := x.2.1.toNat) (u := x.2.1.toNat + y.2.1) (b := xs.length) hxp.length_eq.symm (by omega) (by omega) rfl (by omega) (by omega) (by rw [hxp.length_eq]; omega) (by rw [hxp.length_eq]; omega) (by omega) (hn.perm hxp) hO') ?_
            rintro _ _ w rfl hO
            simp only [List.cons_append, List.nil_append] at hO
            refine K2 ?_
            exact q_cut (_) ⟨rfl, rfl, rfl, rfl, trivial⟩ ⟨hO.only [.p p], (by rw [hS, stG_b (by omega) (by omega)]; first | rw [if_pos (by omega)] | rw [if_neg (by omega)])⟩
          · refine K2 (K3 (L9 (K5 ?_)))
            exact q_cut (_) ⟨rfl, rfl, rfl, rfl, trivial⟩ ⟨hO.only [.p p], (by rw [hS, stG_b (by omega) (by omega)]; first | rw [if_pos (by omega)] | rw [if_neg (by omega)])⟩
        · rintro v w ⟨hO, hv⟩
          have hvp : v.Perm xs := by rw [hv]; exact (stG_perm ltA hy.1 (by rw [hy.2.2.2.length_eq]; omega)).trans hy.2.2.2
          refine K1 ?_
          refine l_y rfl rfl (y_move rfl) ?_
          refine l_y rfl rfl (D4) ?_
          refine l_y rfl rfl (y_assign rfl) ?_
          refine K2 (K8 ?_)
          exact q_next ((y.1 - 1, y.2.1 * 2, v)) ⟨rfl, rfl, rfl, rfl, trivial⟩ ⟨hO.only [.p p], ⟨by dsimp only; omega, by dsimp only; omega, by dsimp only; omega, hvp⟩, (by rw [hU, stM_a (by omega) (by omega), ← hv, Nat.mul_comm 2])⟩ (by dsimp only; omega)
    · refine K2 (K3 (L9 (K7 (L1 (L1 (L2 ?_))))))
      have hU1 := hU.trans (stM_b (by omega))
      exact fin0 rfl ⟨_, (by rw [stS, hl1, hU1]), hO.only [.p p]⟩
theorem sort_spec {p : Option Addr} {c : Nat} {xs : List Api_attr} (hl : xs.length ≤ 1024) (hn : NmOk xs) (hO : Own k w [sls p c 63 4 Api_attr.cells xs]) :
    Tri Try.prog 58 #[.slice p xs.length c, .func (.func 59) #[] #[]] k w fun _ o => o = [sls p c 63 4 Api_attr.cells (stS ltA xs)] := by
  refine enter (args := [.slice p xs.length c, .func (.func 59) #[] #[]]) Try.func58 rfl rfl ?_
  refine K1 ?_
  refine l_y rfl rfl (y_move rfl) ?_
  refine l_y rfl rfl (y_move rfl) ?_
  refine l_y rfl rfl (y_lenL rfl) ?_
  refine l_y rfl rfl (y_move rfl) ?_
  refine CK [.p p] hO rfl (fun k' hx hr hO' => stable_spec hl hn hO') ?_
  rintro _ _ w rfl hO
  simp only [List.cons_append, List.nil_append] at hO
  refine K2 ?_
  exact fin0 rfl ⟨_, rfl, hO.only [.p p]⟩
theorem Sorts.all {A : List Node_one} (hT : TextOk A) (ha : AttrsOk A) : Sorts A (stS ltA) := fun k w p c x hx hO =>
  sort_spec (ha x.toNat (by have := hx.1; have := hx.2; omega)) (fun y hy => (att_len (hT _ hx) hy).1) hO
end
end Go.Proofs.Ythkmnohghpdjhaa
end
section
set_option linter.unusedVariables false
set_option linter.unusedSimpArgs false
set_option maxRecDepth 100000
namespace Go.Proofs.Ythkmnohghpdjhaa
open Go Go.Hb Go.RowKit
/-- the copy's attributes so far -/
def cps (l : List HP) : HP := sep l
instance (l S : List HP) : AtK (cps S :: l) (.o 0) (cps S) l := ⟨.hd _ _⟩
/-- the same but for where the attributes lie, up to i -/
def CopyTo (A B : List Node_one) (i : Nat) : Prop := ∀ j, j < A.length → (j < i → ∃ q d, at_ B j = setAttrs (at_ A j) q (at_ A j).Node.Attrs d) ∧ (i ≤ j → at_ B j = at_ A j)
theorem CopyTo.step {A B : List Node_one} {i : Nat} (h : CopyTo A B i) (hl : B.length = A.length) (hi : i < A.length) (q : Option Addr) (d : Nat) : CopyTo A (B.set i (setAttrs (at_ B i) q (at_ B i).Node.Attrs d)) (i + 1) := fun j hj => by
  have hb := (h i hi).2 (Nat.le_refl _)
  rw [at_set (by omega)]
  by_cases e : i = j
  · subst e
    rw [if_pos rfl, hb]
    exact ⟨fun _ => ⟨q, d, rfl⟩, fun h => by omega⟩
  · rw [if_neg e]
    exact ⟨fun h1 => (h j hj).1 (by omega), fun h1 => (h j hj).2 (by omega)⟩
theorem cps_step {B : List Node_one} {i : Nat} {y : Node_one} (hi : i < B.length) : (B.take i).map attrsP ++ [attrsP y] = ((B.set i y).take (i + 1)).map attrsP := by
  rw [take_succ_at (by simpa using hi), List.take_set, List.set_eq_of_length_le (by simp; omega), at_set_eq hi, List.map_append]; rfl
set_option maxHeartbeats 4000000 in
theorem Copy_spec {k : Ctx} {w : World} {a : Nat} {A : List Node_one} (hn : 0 < A.length) (hmax : A.length ≤ 32768) (ha : AttrsOk A) (hO : Own k w [arenaL a A]) :
    Tri Try.prog 23 #[.pointer (some ⟨a, 0, none⟩)] k w fun v m => ∃ b B, v = .pointer (some ⟨b, 0, none⟩) ∧ B.length = A.length ∧ CopyTo A B A.length ∧ m = [arenaL a A, arenaL b B] := by
  refine enter (args := [.pointer (some ⟨a, 0, none⟩)]) Try.func23 rfl rfl ?_
  obtain ⟨p, c, hg, hO⟩ := arenaL_open hO
  refine K0 (K1 ?_)
  refine l_y rfl rfl (y_assign rfl) ?_
  refine K2 (K3 (K0 (K0 (K1 ?_))))
  refine l_y rfl rfl (y_move rfl) ?_
  refine CK [.b a, .p p] hO rfl (fun k' hx hr hO' => none_spec (hO := hO')) ?_
  rintro _ _ w ⟨rfl, rfl⟩ hO
  simp only [List.cons_append, List.nil_append] at hO
  refine K2 (K3 (L9 (K5 (K3 (K0 (K1 ?_))))))
  refine l_y rfl rfl (y_move rfl) ?_
  refine l_y rfl rfl (y_nilCheck rfl rfl) ?_
  refine l_y rfl rfl (y_fldb (o' := 0) rfl) ?_
  refine l_y rfl rfl (D5 hO rfl) ?_
  refine l_y rfl rfl (y_lenL rfl) ?_
  refine s_mk (enc := Node_one.cells) default hO rfl rfl rfl rfl (Nat.le_refl _) (by omega) (by simp only [maxLen]; omega) fun b12 w hO => ?_
  refine s_build (parts := [(0, .tmp 12)]) (cs := [.slice (some ⟨b12, 0, none⟩) A.length A.length]) rfl rfl (fun a ha => partsOf_sound ha _ _ rfl) (by kernel_rfl) ?_
  refine s_box (vs := [.slice (some ⟨b12, 0, none⟩) A.length A.length]) hO rfl rfl rfl (by rfl) fun b14 w hO => ?_
  refine l_y rfl rfl (y_assign rfl) ?_
  refine K2 (K3 (K0 ?_))
  refine da_region (by intro c a d v w h; cases d <;> exact h) ?_
  have hO := hO.drew
  refine da_phase _ [8] (SO.ks [.b b14, .b a] hO) ?_
  refine dx_u 0 (by kernel_rfl) rfl rfl rfl (fun w => y_move rfl) ?_
  refine dx_u 1 (by kernel_rfl) rfl rfl rfl (fun w => y_nilCheck rfl rfl) ?_
  refine dx_u 2 (by kernel_rfl) rfl rfl rfl (fun w => y_fldb (o' := 0) rfl) ?_
  refine dx_y 3 (by kernel_rfl) rfl rfl rfl (fun w ⟨m, hw⟩ => D5 hw rfl) ?_
  refine dx_u 4 (by kernel_rfl) rfl rfl rfl (fun w => y_move rfl) ?_
  refine dx_u 5 (by kernel_rfl) rfl rfl rfl (fun w => y_nilCheck rfl rfl) ?_
  refine dx_u 6 (by kernel_rfl) rfl rfl rfl (fun w => y_fldb (o' := 0) rfl) ?_
  refine dx_y 7 (by kernel_rfl) rfl rfl rfl (fun w ⟨m, hw⟩ => D5 hw rfl) ?_
  refine dx_close 8 (by kernel_rfl) rfl rfl ?_
  refine s_cp hO rfl rfl (src_own hO) fun w hO => ?_
  rw [List.drop_of_length_le (by simp), List.append_nil] at hO
  refine o_done ?_
  refine da_end (by kernel_rfl) ?_
  refine K3 (K0 (K0 ?_))
  have hO := arenaL_shut (hO.ks [.s, .b a, .p p])
  have hO : Own k w (cps ((A.take 0).map attrsP) :: _) := Own.shut (l := []) hO
  refine K1 ?_
  refine l_y rfl rfl (y_move rfl) ?_
  refine l_y rfl rfl (y_nilCheck rfl rfl) ?_
  refine l_y rfl rfl (y_fldb (o' := 0) rfl) ?_
  refine l_y rfl rfl (D5 hO rfl) ?_
  refine l_y rfl rfl (y_lenL rfl) ?_
  refine l_y rfl rfl (y_move rfl) ?_
  refine K2 (K3 (K4 ?_))
  refine c_rounds (X := Nat × List Node_one) (fun x => [(2, .pointer none), (3, .pointer (some ⟨b14, 0, none⟩)), (28, .int .i64 ((A.length : Nat) : Int)), (29, .int .i64 (x.1 : Int))]) (fun x w => Own k w [arenaL a A, blk b14 61 [.slice (some ⟨b12, 0, none⟩) A.length A.length], sls (some ⟨b12, 0, none⟩) A.length 57 13 Node_one.cells x.2, cps ((x.2.take x.1).map attrsP)] ∧ (x.1 ≤ A.length ∧ x.2.length = A.length) ∧ (CopyTo A x.2 x.1)) (fun x => A.length - x.1) ((0, A)) ⟨rfl, rfl, rfl, rfl, trivial⟩ ⟨hO.only [.o a, .b b14, .p (some ⟨b12, 0, none⟩), .o 0], ⟨Nat.zero_le _, rfl⟩, fun j hj => ⟨fun h => by omega, fun _ => rfl⟩⟩ ?_
  rintro x w m hm ⟨hO, hx, hh⟩
  have hgb : Gs (some ⟨b12, 0, none⟩) x.2.length := (sls_fct (p := some ⟨b12, 0, none⟩) hO).2
  have hgb2 : Gs (some ⟨b12, 0, none⟩) A.length := hx.2 ▸ hgb
  refine K0 (K1 ?_)
  refine Z0 (fun h6_0 => ?_) (fun h6_0 => ?_)
  · refine K2 (K3 (K0 (L8 (K5 (K3 (K0 (K4 (K0 (K1 ?_)))))))))
    refine l_y rfl rfl (y_move rfl) ?_
    refine l_y rfl rfl (y_assign rfl) ?_
    refine K2 (K3 ?_)
    obtain ⟨p, c, hg, hO⟩ := arenaL_open (hO.ks [.o a])
    have hO := arena_pick (i := x.1) (by omega) (hO.ks [.s])
    have hai : at_ x.2 ((x.1 : Int)).toNat = at_ A x.1 := (hh x.1 (by omega)).2 (Nat.le_refl _)
    have hli := ha x.1 (by omega)
    refine da_region (by intro c a d v w h; cases d <;> exact h) ?_
    have hO := hO.drew
    refine da_phase _ [18] (SO.ks [.b b14, .p (some ⟨b12, 0, none⟩)] hO) ?_
    refine dx_u 0 (by kernel_rfl) rfl rfl rfl (fun w => y_move rfl) ?_
    refine dx_u 1 (by kernel_rfl) rfl rfl rfl (fun w => y_nilCheck rfl rfl) ?_
    refine dx_u 2 (by kernel_rfl) rfl rfl rfl (fun w => y_fldb (o' := 0) rfl) ?_
    refine dx_y 3 (by kernel_rfl) rfl rfl rfl (fun w ⟨m, hw⟩ => D5 hw rfl) ?_
    refine dx_u 4 (by kernel_rfl) rfl rfl rfl (fun w => y_move rfl) ?_
    refine dx_u 5 (by kernel_rfl) rfl rfl rfl (fun w => y_move rfl) ?_
    refine dx_u 6 (by kernel_rfl) rfl rfl rfl (fun w => y_nilCheck rfl rfl) ?_
    refine dx_u 7 (by kernel_rfl) rfl rfl rfl (fun w => y_fldb (o' := 0) rfl) ?_
    refine dx_y 8 (by kernel_rfl) rfl rfl rfl (fun w ⟨m, hw⟩ => D5 hw rfl) ?_
    refine dx_u 9 (by kernel_rfl) rfl rfl rfl (fun w => y_move rfl) ?_
    refine dx_u 10 (by kernel_rfl) rfl rfl rfl (fun w => y_idx rfl rfl) ?_
    refine dx_u 11 (by kernel_rfl) rfl rfl rfl (fun w => y_fld (j' := 0) rfl) ?_
    refine dx_u 12 (by kernel_rfl) rfl rfl rfl (fun w => y_fld (j' := 3) rfl) ?_
    refine dx_y 13 (by kernel_rfl) rfl rfl rfl (fun w ⟨m, hw⟩ => y_e1 (x0 := 3) hw rfl) ?_
    refine dx_only 14 (by kernel_rfl) rfl rfl ?_
    refine CK [] hO rfl (fun k' hx hr hO' => own_spec (p := (at_ x.2 (x.1 : Int).toNat).Node.AttrsP) (c := (at_ x.2 (x.1 : Int).toNat).Node.AttrsC) (xs := (at_ x.2 (x.1 : Int).toNat).Node.Attrs) (by rw [hai]; exact sls_roK (p := (at_ A x.1).Node.AttrsP) hr (sls_fct (p := (at_ A x.1).Node.AttrsP) hO)) (by rw [hai]; omega) (hO := hO')) ?_
    rintro _ _ w ⟨b46, rfl, rfl⟩ hO
    simp only [List.cons_append, List.nil_append] at hO
    refine o_done ?_
    refine ⟨SO.ks [.b b14, .p (some ⟨b12, 0, none⟩)] hO, ?_⟩
    refine dx_u 15 (by kernel_rfl) rfl rfl rfl (fun w => y_idx rfl rfl) ?_
    refine dx_u 16 (by kernel_rfl) rfl rfl rfl (fun w => y_fld (j' := 0) rfl) ?_
    refine dx_u 17 (by kernel_rfl) rfl rfl rfl (fun w => y_fld (j' := 3) rfl) ?_
    refine dx_close 18 (by kernel_rfl) rfl rfl ?_
    refine s_e1 (x0 := 3) hO rfl rfl (fun w hO => ?_)
    refine o_done ?_
    refine da_end (by kernel_rfl) ?_
    refine K8 (K3 (K1 ?_))
    refine l_y rfl rfl (D4) ?_
    refine l_y rfl rfl (y_move rfl) ?_
    refine K2 ?_
    have hO := arena_put (A := A) (i := x.1) (y := at_ A x.1) (by omega) (hO.ks [.p (at_ A x.1).Node.AttrsP, .s])
    rw [set_at (by omega)] at hO
    have hO := arenaL_shut (hO.ks [.s, .b a, .p p])
    have hO : Own k w (sep ((x.2.take x.1).map attrsP) :: attrsP (setAttrs (at_ x.2 x.1) (some ⟨b46, 0, none⟩) (at_ x.2 x.1).Node.Attrs (at_ x.2 x.1).Node.Attrs.length) :: _) := hO.ks [.o 0, .p (some ⟨b46, 0, none⟩)]
    have hO := hO.snoc
    rw [cps_step (by omega)] at hO
    have hO : Own k w (cps (((x.2.set x.1 (setAttrs (at_ x.2 x.1) (some ⟨b46, 0, none⟩) (at_ x.2 x.1).Node.Attrs (at_ x.2 x.1).Node.Attrs.length)).take (x.1 + 1)).map attrsP) :: _) := hO
    exact q_next ((x.1 + 1, _)) ⟨rfl, rfl, rfl, rfl, trivial⟩ ⟨hO.only [.o a, .b b14, .p (some ⟨b12, 0, none⟩), .o 0], ⟨by dsimp only; omega, by dsimp only; rw [List.length_set]; exact hx.2⟩, hh.step hx.2 (by omega) _ _⟩ (by dsimp only; omega)
  · refine K2 (K3 (K0 (L9 (K7 (L1 (L1 (L2 (K3 (K0 ?_)))))))))
    have hxe : x.1 = A.length := by omega
    have e : x.2.take x.1 = x.2 := List.take_of_length_le (by omega)
    rw [e] at hO
    have hO : Own k w (sep (x.2.map attrsP) :: _) := hO.ks [.o 0]
    refine K1 ?_
    refine l_y rfl rfl (y_move rfl) ?_
    refine l_y rfl rfl (y_assign rfl) ?_
    refine K2 (K3 (K6 ?_))
    exact fin1 rfl rfl ⟨_, ⟨b14, x.2, rfl, hx.2, by rw [← hxe]; exact hh, rfl⟩, (arenaL_shut (hO.ks [.s, .b b14, .p (some ⟨b12, 0, none⟩)]) rfl hx.2.symm).ks [.o a, .o b14]⟩
theorem Tree.moved {A B : List Node_one} {K : Int → List Int} (t : Tree A K) (hlen : B.length = A.length) (f1 : ∀ y : Int, InA A y → ∃ q d, at_ B y.toNat = setAttrs (at_ A y.toNat) q (at_ A y.toNat).Node.Attrs d) : Tree B K := by
  have hiA : ∀ {y}, InA B y → InA A y := fun h => h.len hlen.symm
  have g : ∀ y : Int, InA A y → (nodeA B y).Parent = (nodeA A y).Parent ∧ (nodeA B y).First = (nodeA A y).First ∧ (nodeA B y).Last = (nodeA A y).Last ∧ (nodeA B y).Prev = (nodeA A y).Prev ∧ (nodeA B y).Next = (nodeA A y).Next ∧ (nodeA B y).Kind = (nodeA A y).Kind ∧ (nodeA B y).Inner = (nodeA A y).Inner ∧ (at_ B y.toNat).host = (at_ A y.toNat).host ∧ (nodeA B y).Attrs = (nodeA A y).Attrs := fun y hy => by
    obtain ⟨_, _, e⟩ := f1 y hy
    rw [nodeA, e]; exact ⟨rfl, rfl, rfl, rfl, rfl, rfl, rfl, rfl, rfl⟩
  constructor
  · intro x hx
    have hX := t.lnk x (hiA hx)
    have gx := g x (hiA hx)
    refine ⟨by rw [gx.2.1]; exact hX.first, by rw [gx.2.2.1]; exact hX.last, fun pre y suf e => ?_⟩
    obtain ⟨g1, g2, g3, g4⟩ := hX.kid pre y suf e
    have gy := g y g1
    exact ⟨g1.len hlen, by rw [gy.1, g2], by rw [gy.2.2.2.1, g3], by rw [gy.2.2.2.2.1, g4]⟩
  · exact fun x hx => t.nodup x (hiA hx)
  · intro y hy hp
    rw [(g y (hiA hy)).1] at hp ⊢
    exact (t.up y (hiA hy) hp).imp (fun h => h.len hlen) fun h => h
  · intro y hy hp
    have gy := g y (hiA hy)
    rw [gy.1] at hp
    rw [gy.2.2.2.1, gy.2.2.2.2.1]
    exact t.free y (hiA hy) hp
  · intro y hy
    rw [(g y (hiA hy)).2.2.2.2.2.2.2.1]
    exact (t.host y (hiA hy)).imp (fun h => h) fun h => h.len hlen
  · intro y hy hk
    rw [(g y (hiA hy)).2.2.2.2.2.1] at hk
    rw [(g y (hiA hy)).2.2.2.2.2.2.2.1]
    exact t.hostK y (hiA hy) hk
  · intro y hy hp
    rw [(g y (hiA hy)).1] at hp
    rw [(g y (hiA hy)).2.2.2.2.2.1]
    exact t.upK y (hiA hy) hp
  · intro y hy
    rw [(g y (hiA hy)).2.2.2.2.2.2.1]
    exact (t.inner y (hiA hy)).imp (fun h => h) fun h => h.len hlen
  · obtain ⟨rk, hrk⟩ := t.rank
    refine ⟨rk, fun x hx => ?_⟩
    have hxA := hiA (inA_iff.1 hx)
    have gx := g x hxA
    have e1 := gx.1
    simp only [nodeA] at e1
    simp only [nextUp, e1, gx.2.2.2.2.2.2.2.1]
    exact (hrk x hxA.b).imp (fun h => h) fun h => ⟨((inA_iff.1 h.1).len hlen).b, h.2⟩
  · intro i hi
    have := (g (i : Int) ⟨by omega, by omega⟩).2.2.2.2.2.2.2.2
    simp only [nodeA, toNat_nat] at this
    rw [this]; exact t.attrs i (by omega)
end Go.Proofs.Ythkmnohghpdjhaa
end
section
set_option linter.unusedVariables false
set_option linter.unusedSimpArgs false
set_option maxRecDepth 100000
namespace Go.Proofs.Ythkmnohghpdjhaa
open Go Go.Hb Go.RowKit
theorem CopyTo.one {A B : List Node_one} (hc : CopyTo A B A.length) : ∀ y : Int, InA A y → ∃ q d, at_ B y.toNat = setAttrs (at_ A y.toNat) q (at_ A y.toNat).Node.Attrs d := fun y hy => (hc y.toNat (by have := hy.1; have := hy.2; omega)).1 (by have := hy.1; have := hy.2; omega)
theorem CopyTo.twin {A B : List Node_one} {K : Int → List Int} (hl : B.length = A.length) (hc : CopyTo A B A.length) : Twin A B K := fun x hx => by
  obtain ⟨q, d, e⟩ := hc.one x hx
  have e2 : nodeA B x = (setAttrs (at_ A x.toNat) q (at_ A x.toNat).Node.Attrs d).Node := by unfold nodeA; rw [e]
  exact ⟨⟨hx.b, (hx.len hl).b, by rw [e2]; rfl, by rw [e2]; rfl, by rw [e2]; rfl, by rw [e2]; rfl, by rw [e2]; rfl, by rw [e2]; rfl, rfl, by rw [e2]; exact Iff.rfl⟩, by rw [e2]; rfl⟩
section
variable {k : Ctx} {w : World}
set_option maxHeartbeats 1000000 in
theorem ShowAlike_spec {p q : Option Addr} {c d : Nat} {l l2 : List Law03_op} {x y : Int} (hs : Scr3 k p c l) (hs2 : Scr3 k q d l2) (hO : Own k w []) :
    Tri Try.prog 7 #[.slice p l.length c, .slice q l2.length d, .int .i64 x, .int .i64 y] k w fun v m => v = .bool true := by
  refine enter (args := [.slice p l.length c, .slice q l2.length d, .int .i64 x, .int .i64 y]) Try.func7 rfl rfl ?_
  refine K0 (K1 ?_)
  refine l_y rfl rfl (y_assign rfl) ?_
  refine K2 (K3 (K0 (K1 ?_)))
  refine l_y rfl rfl (y_move rfl) ?_
  refine CK [] hO rfl (fun k' hx hr hO' => build_spec ⟨hs.sli.ext hO hx, fun o ho => (hs.one o ho).ext hO hx⟩ hO') ?_
  rintro _ _ w ⟨a, r, A, K, R, rfl, t, rfl⟩ hO
  simp only [List.cons_append, List.nil_append] at hO
  have hlen := t.len
  refine l_y rfl rfl (y_move rfl) ?_
  refine l_y rfl rfl (y_extract rfl rfl) ?_
  refine l_y rfl rfl (y_extract rfl rfl) ?_
  refine l_y rfl rfl (y_assign rfl) ?_
  refine l_y rfl rfl (y_assign rfl) ?_
  refine K2 (K3 (K0 (K1 ?_)))
  refine l_y rfl rfl (y_move rfl) ?_
  refine CK [] hO rfl (fun k' hx hr hO' => build_spec ⟨hs2.sli.ext hO hx, fun o ho => (hs2.one o ho).ext hO hx⟩ hO') ?_
  rintro _ _ w ⟨b, r2, B, L, Q, rfl, t2, rfl⟩ hO
  simp only [List.cons_append, List.nil_append] at hO
  have hlen2 := t2.len
  refine l_y rfl rfl (y_move rfl) ?_
  refine l_y rfl rfl (y_extract rfl rfl) ?_
  refine l_y rfl rfl (y_extract rfl rfl) ?_
  refine l_y rfl rfl (y_assign rfl) ?_
  refine l_y rfl rfl (y_assign rfl) ?_
  refine K2 (K3 (K0 (K0 (K1 ?_))))
  refine l_y rfl rfl (y_move rfl) ?_
  refine l_y rfl rfl (y_eqPnil rfl rfl rfl) ?_
  refine l_y rfl rfl (y_move rfl) ?_
  refine l_y rfl rfl (y_move rfl) ?_
  refine l_y rfl rfl (y_eqPnil rfl rfl rfl) ?_
  refine l_y rfl rfl (y_pick_f rfl rfl) ?_
  refine K2 (K3 (L9 (K5 (K3 (K0 (K1 ?_))))))
  refine l_y rfl rfl (y_move rfl) ?_
  refine l_y rfl rfl (y_move rfl) ?_
  refine l_y rfl rfl (y_move rfl) ?_
  refine l_y rfl rfl (y_move rfl) ?_
  refine CK [.o a, .o b] hO rfl (fun k' hx hr hO' => Same2_spec t.two.tree t.inn t2.two.tree t.two.pos t2.two.pos (by omega) (by omega) hO') ?_
  rintro _ _ w ⟨rfl, rfl⟩ hO
  simp only [List.cons_append, List.nil_append] at hO
  refine l_y rfl rfl (y_assign rfl) ?_
  refine K2 (K3 (K0 (K1 ?_)))
  refine l_y rfl rfl (y_move rfl) ?_
  refine l_y rfl rfl (y_move rfl) ?_
  refine CK [.o a] hO rfl (fun k' hx hr hO' => Show_spec t.two.tree t.inn t.text (fun x _ => stS_perm ltA) (Sorts.all t.text t.two.tree.attrs) t.two.pos (by omega) hO') ?_
  rintro _ _ w ⟨rfl, rfl⟩ hO
  simp only [List.cons_append, List.nil_append] at hO
  refine l_y rfl rfl (y_move rfl) ?_
  refine l_y rfl rfl (y_extract rfl rfl) ?_
  refine l_y rfl rfl (y_extract rfl rfl) ?_
  refine l_y rfl rfl (y_assign rfl) ?_
  refine l_y rfl rfl (y_assign rfl) ?_
  refine K2 (K3 (K0 (K1 ?_)))
  refine l_y rfl rfl (y_move rfl) ?_
  refine l_y rfl rfl (y_move rfl) ?_
  refine CK [.o b] hO rfl (fun k' hx hr hO' => Show_spec t2.two.tree t2.inn t2.text (fun x _ => stS_perm ltA) (Sorts.all t2.text t2.two.tree.attrs) t2.two.pos (by omega) hO') ?_
  rintro _ _ w ⟨rfl, rfl⟩ hO
  simp only [List.cons_append, List.nil_append] at hO
  refine l_y rfl rfl (y_move rfl) ?_
  refine l_y rfl rfl (y_extract rfl rfl) ?_
  refine l_y rfl rfl (y_extract rfl rfl) ?_
  refine l_y rfl rfl (y_assign rfl) ?_
  refine l_y rfl rfl (y_assign rfl) ?_
  refine K2 (K3 (K0 (K0 (K1 ?_))))
  refine l_y rfl rfl (y_move rfl) ?_
  refine l_y rfl rfl (y_move rfl) ?_
  refine l_y rfl rfl (y_move rfl) ?_
  refine l_y rfl rfl (y_move rfl) ?_
  refine l_y rfl rfl (y_move rfl) ?_
  refine CK [.o b, .o a] hO rfl (fun k' hx hr hO' => Same2_spec t2.two.tree t2.inn t.two.tree t2.two.pos t.two.pos (by omega) (by omega) hO') ?_
  rintro _ _ w ⟨rfl, rfl⟩ hO
  simp only [List.cons_append, List.nil_append] at hO
  rw [sameN_symm t2.two.tree t2.inn t.two.tree t.inn y x]
  refine l_y rfl rfl (y_neB (c := false) rfl rfl (by simp)) ?_
  refine l_y rfl rfl (y_move rfl) ?_
  refine l_y rfl rfl (y_move rfl) ?_
  refine l_y rfl rfl (y_move rfl) ?_
  refine l_split 60 rfl (fun hg60 => ?_) (fun hg60 => ?_)
  · refine l_y rfl rfl (y_move rfl) ?_
    refine l_y rfl rfl (y_move rfl) ?_
    refine N8 (hp := (by rw [showT_alike t.two.tree t.inn t2.two.tree t2.inn hg60])) ?_
    refine l_y rfl rfl (y_pick_t rfl rfl) ?_
    refine l_y rfl rfl (y_pick_f rfl rfl) ?_
    refine K2 (K3 (L9 (K5 (K3 (K0 (K1 ?_))))))
    refine l_y rfl rfl (y_move rfl) ?_
    refine l_y rfl rfl (y_move rfl) ?_
    refine l_y rfl rfl (y_move rfl) ?_
    refine CK [.o a] hO rfl (fun k' hx hr hO' => Copy_spec t.two.pos t.two.max t.two.tree.attrs (hO := hO')) ?_
    rintro _ _ w ⟨a3, C, rfl, hcl, hcc, rfl⟩ hO
    simp only [List.cons_append, List.nil_append] at hO
    have tw : Twin A C K := hcc.twin hcl
    refine l_y rfl rfl (y_move rfl) ?_
    refine CK [.o a, .o a3] hO rfl (fun k' hx hr hO' => Same2_spec t.two.tree t.inn (t.two.tree.moved hcl hcc.one) t.two.pos (by rw [hcl]; exact t.two.pos) (by omega) (by omega) hO') ?_
    rintro _ _ w ⟨rfl, rfl⟩ hO
    simp only [List.cons_append, List.nil_append] at hO
    rw [sameN_twin t.two.tree t.inn tw x]
    refine l_y rfl rfl (y_move rfl) ?_
    refine l_y rfl rfl (y_cmpI rfl rfl rfl) ?_
    refine l_y rfl rfl (y_eqB (c := true) rfl rfl (by unfold errN; cases hasB A x <;> rfl)) ?_
    refine l_y rfl rfl (y_move rfl) ?_
    refine CK [] hO rfl (fun k' hx hr hO' => awake03_spec (hO := hO')) ?_
    rintro _ _ w ⟨rfl, rfl⟩ hO
    simp only [List.cons_append, List.nil_append] at hO
    refine l_y rfl rfl (y_pick_t rfl rfl) ?_
    refine l_y rfl rfl (y_assign rfl) ?_
    refine K2 (K3 (K6 ?_))
    exact fin1 rfl rfl ⟨_, rfl, hO⟩
  · repeat refine M2 ?_
    refine l_y rfl rfl (y_pick_f rfl rfl) ?_
    refine l_y rfl rfl (y_pick_f rfl rfl) ?_
    refine K2 (K3 (L9 (K5 (K3 (K0 (K1 ?_))))))
    refine l_y rfl rfl (y_move rfl) ?_
    refine l_y rfl rfl (y_move rfl) ?_
    refine l_y rfl rfl (y_move rfl) ?_
    refine CK [.o a] hO rfl (fun k' hx hr hO' => Copy_spec t.two.pos t.two.max t.two.tree.attrs (hO := hO')) ?_
    rintro _ _ w ⟨a3, C, rfl, hcl, hcc, rfl⟩ hO
    simp only [List.cons_append, List.nil_append] at hO
    have tw : Twin A C K := hcc.twin hcl
    refine l_y rfl rfl (y_move rfl) ?_
    refine CK [.o a, .o a3] hO rfl (fun k' hx hr hO' => Same2_spec t.two.tree t.inn (t.two.tree.moved hcl hcc.one) t.two.pos (by rw [hcl]; exact t.two.pos) (by omega) (by omega) hO') ?_
    rintro _ _ w ⟨rfl, rfl⟩ hO
    simp only [List.cons_append, List.nil_append] at hO
    rw [sameN_twin t.two.tree t.inn tw x]
    refine l_y rfl rfl (y_move rfl) ?_
    refine l_y rfl rfl (y_cmpI rfl rfl rfl) ?_
    refine l_y rfl rfl (y_eqB (c := true) rfl rfl (by unfold errN; cases hasB A x <;> rfl)) ?_
    refine l_y rfl rfl (y_move rfl) ?_
    refine CK [] hO rfl (fun k' hx hr hO' => awake03_spec (hO := hO')) ?_
    rintro _ _ w ⟨rfl, rfl⟩ hO
    simp only [List.cons_append, List.nil_append] at hO
    refine l_y rfl rfl (y_pick_t rfl rfl) ?_
    refine l_y rfl rfl (y_assign rfl) ?_
    refine K2 (K3 (K6 ?_))
    exact fin1 rfl rfl ⟨_, rfl, hO⟩
end
end Go.Proofs.Ythkmnohghpdjhaa
end
