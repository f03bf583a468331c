/- The walk of the law WriteInners; no condition. -/
import Derived.Test.YthkmnohghpdjhaaWtx8
set_option linter.unusedVariables false
set_option linter.unusedSimpArgs false
set_option maxRecDepth 100000
namespace Go.Proofs.Ythkmnohghpdjhaa
open Go Go.Hb Go.RowKit
/-- the first node is the document -/
def DocOk (A : List Node_one) : Prop := InA A 0 ∧ (nodeA A 0).Kind = 0
theorem DocOk.new : DocOk [docD] := ⟨⟨by decide, by simp⟩, rfl⟩
theorem DocOk.add {A : List Node_one} (h : DocOk A) (n : Api_node) : DocOk (A ++ [blankN n]) := ⟨inA_new.2 (.inl h.1), by rw [nodeA, at_old h.1]; exact h.2⟩
theorem DocOk.same {A B : List Node_one} (h : DocOk A) (hl : B.length = A.length) (hk : (nodeA B 0).Kind = (nodeA A 0).Kind) : DocOk B := ⟨h.1.len hl, by rw [hk]; exact h.2⟩
theorem DocOk.addL {A : List Node_one} (h : DocOk A) (n : Api_node) (ts : List ByteArray) : DocOk (addL A n ts).2.2 := by
  unfold Go.Proofs.Ythkmnohghpdjhaa.addL
  repeat' split
  · exact h
  · exact h
  · exact h.add n
theorem DocOk.element {A : List Node_one} (g : DocOk A) (sp : Int) (nm : ByteArray) (xs : List Api_attr) (q : Option Addr) (d : Nat) : DocOk (elementL A sp nm xs q d).2.2 := by
  unfold elementL
  repeat' split
  · exact g
  · exact g
  · exact g
  · exact g
  · exact g
  · have g2 := (g.add (elementN q d sp nm xs)).add fragmentN
    have i1 : InA (A ++ [blankN (elementN q d sp nm xs)]) (A.length : Int) := ⟨by omega, by simp; omega⟩
    have id2 : InA (A ++ [blankN (elementN q d sp nm xs)] ++ [blankN fragmentN]) (A.length : Int) := inA_new.2 (.inl i1)
    have if2 : InA (A ++ [blankN (elementN q d sp nm xs)] ++ [blankN fragmentN]) ((A ++ [blankN (elementN q d sp nm xs)]).length : Int) := inA_new.2 (.inr rfl)
    exact g2.same (by simp [setHost, setInner]) (hosted_kind id2 if2 0 (by decide)).1
  · exact g.add _
/-- both arenas after so many rounds -/
structure WInv (A : List Node_one) (K : Int → List Int) (R : List Ref01_one) (n : Nat) : Prop where
  two : Two A K R
  inn : InnOk A
  text : TextOk A
  knd : KndOk A
  len : A.length ≤ 2 * n + 1
  doc : DocOk A
theorem WInv.tx {A : List Node_one} {K : Int → List Int} {R : List Ref01_one} {n : Nat} (h : WInv A K R n) : TxOk A K := ⟨h.two.tree, h.inn, h.text, h.knd⟩
theorem WInv.mono {A : List Node_one} {K : Int → List Int} {R : List Ref01_one} {n m : Nat} (h : WInv A K R n) (hm : n ≤ m) : WInv A K R m := ⟨h.two, h.inn, h.text, h.knd, by have := h.len; omega, h.doc⟩
theorem WInv.new : WInv [docD] (fun _ => []) [docR] 0 := ⟨Two.new, InnOk.new, TextOk.new, KndOk.new, by simp, DocOk.new⟩
theorem elementL_len {A : List Node_one} {sp : Int} {nm : ByteArray} {xs : List Api_attr} {q : Option Addr} {d : Nat} : (elementL A sp nm xs q d).2.2.length ≤ A.length + 2 := by
  unfold elementL
  repeat' split
  all_goals simp [setHost, setInner]
theorem addL_len {A : List Node_one} {n : Api_node} {ts : List ByteArray} : (addL A n ts).2.2.length ≤ A.length + 2 := by
  unfold addL
  repeat' split
  all_goals simp
theorem WInv.el {A : List Node_one} {K : Int → List Int} {R : List Ref01_one} {n : Nat} (h : WInv A K R n) (sp : Int) (nm : ByteArray) (xs : List Api_attr) (q q' : Option Addr) (d d' : Nat) : ∃ K', WInv (elementL A sp nm xs q d).2.2 K' (elementR R sp nm xs q' d').2.2 (n + 1) := by
  obtain ⟨_, _, K', t⟩ := el_both h.two sp nm xs q q' d d'
  exact ⟨K', t, h.inn.element _ _ _ _ _, h.text.element _ _ _ _ _, h.knd.element _ _ _ _ _, by have := elementL_len (A := A) (sp := sp) (nm := nm) (xs := xs) (q := q) (d := d); have := h.len; omega, h.doc.element _ _ _ _ _⟩
theorem WInv.more {A : List Node_one} {K : Int → List Int} {R : List Ref01_one} {m : Nat} (h : WInv A K R m) {n : Api_node} {o : Ref01_one} (ts : List ByteArray) (ha : n.Attrs.length ≤ 1024) (hs : Sim1 (blankN n) [] (blankR o)) (hk : 1 ≤ n.Kind ∧ n.Kind ≤ 5) (ht : longB ts = false → TextN n) : ∃ K', WInv (addL A n ts).2.2 K' (raddR R o ts).2.2 (m + 1) := by
  obtain ⟨_, _, K', t⟩ := add_both h.two ts ha hs
  exact ⟨K', t, h.inn.addL _ _, h.text.addL ht, h.knd.addL hk, by have := addL_len (A := A) (n := n) (ts := ts); have := h.len; omega, h.doc.addL _ _⟩
theorem WInv.link {A : List Node_one} {K : Int → List Int} {R R' : List Ref01_one} {n : Nat} (h : WInv A K R n) {up id before : Int} (s : Sim (linkL A up id before).2 (linkKs A K up id before) R') : WInv (linkL A up id before).2 (linkKs A K up id before) R' n :=
  ⟨h.two.link s, h.inn.core linkL_len (link_core h.two.tree up id before), h.text.core linkL_len (link_core h.two.tree up id before), h.knd.link h.two.tree up id before, by rw [linkL_len]; exact h.len, h.doc.same linkL_len (core_kind (link_core h.two.tree up id before 0 (by decide)))⟩
theorem simText1 (s : ByteArray) : Sim1 (blankN (textN s)) [] (blankR (textR s)) := ⟨rfl, rfl, rfl, rfl, rfl, rfl, rfl, rfl, rfl, rfl⟩
theorem textText1 (s : ByteArray) (h : longB [s] = false) : TextN (textN s) := ⟨Nat.zero_le _, long_mem (s := s) h (by simp), Nat.zero_le _, rfl⟩
theorem simComment1 (s : ByteArray) : Sim1 (blankN (commentN s)) [] (blankR (commentR s)) := ⟨rfl, rfl, rfl, rfl, rfl, rfl, rfl, rfl, rfl, rfl⟩
theorem textComment1 (s : ByteArray) (h : longB [s] = false) : TextN (commentN s) := ⟨Nat.zero_le _, long_mem (s := s) h (by simp), Nat.zero_le _, rfl⟩
theorem simDoctype1 (a b c : ByteArray) : Sim1 (blankN (doctypeN a b c)) [] (blankR (doctypeR a b c)) := ⟨rfl, rfl, rfl, rfl, rfl, rfl, rfl, rfl, rfl, rfl⟩
theorem textDoctype1 (a b c : ByteArray) (h : longB [a, b, c] = false) : TextN (doctypeN a b c) := ⟨long_mem (s := a) h (by simp), long_mem (s := b) h (by simp), long_mem (s := c) h (by simp), rfl⟩
theorem simFragment1 : Sim1 (blankN fragmentN) [] (blankR fragmentR) := ⟨rfl, rfl, rfl, rfl, rfl, rfl, rfl, rfl, rfl, rfl⟩
theorem textFragment1 : TextN fragmentN := ⟨Nat.zero_le _, Nat.zero_le _, Nat.zero_le _, rfl⟩
section
variable {k : Ctx} {w : World}
/-- elements that may be read -/
structure ScrE (k : Ctx) (p : Option Addr) (c : Nat) (l : List Law17_elem) : Prop where
  sli : Sli (Ro k) (.slice p l.length c) (l.map Law17_elem.cells)
  one : ∀ o ∈ l, Sli (Ro k) (.slice o.LP o.L.length o.LC) (o.L.map Api_attr.cells)
set_option maxHeartbeats 4000000 in
theorem arenas_spec {p : Option Addr} {c : Nat} {l : List Law17_elem} (hs : ScrE k p c l) (hO : Own k w []) :
    Tri Try.prog 16 #[.slice p l.length c] k w fun v m => ∃ a r A K R, v = .tuple #[.pointer (some ⟨a, 0, none⟩), .pointer (some ⟨r, 0, none⟩)] ∧ WInv A K R 300 ∧ m = [arenaL a A, rarL r R] := by
  refine enter (args := [.slice p l.length c]) Try.func16 rfl rfl ?_
  have hsl := hs.sli
  have hgs := sli_gs hsl
  refine K0 (K1 ?_)
  refine l_y rfl rfl (y_assign rfl) ?_
  refine l_y rfl rfl (y_assign rfl) ?_
  refine K2 (K3 (K0 (K1 ?_)))
  refine CK [] hO rfl (fun k' hx hr hO' => New_spec (hO := hO')) ?_
  rintro _ _ w ⟨a10, rfl, rfl⟩ hO
  simp only [List.cons_append, List.nil_append] at hO
  refine l_y rfl rfl (y_assign rfl) ?_
  refine K2 (K3 (K0 (K1 ?_)))
  refine CK [] hO rfl (fun k' hx hr hO' => rNew_spec (hO := hO')) ?_
  rintro _ _ w ⟨r11, rfl, rfl⟩ hO
  simp only [List.cons_append, List.nil_append] at hO
  refine l_y rfl rfl (y_assign rfl) ?_
  refine K2 (K3 (K0 (K0 (K1 ?_))))
  refine l_y rfl rfl (y_assign rfl) ?_
  refine K2 (K3 (K4 ?_))
  refine c_rounds (X := Nat × List Node_one × (Int → List Int) × List Ref01_one) (fun x => [(0, .slice p l.length c), (2, .pointer none), (3, .pointer none), (4, .pointer (some ⟨a10, 0, none⟩)), (5, .pointer (some ⟨r11, 0, none⟩)), (6, .int .i64 (x.1 : Int))]) (fun x w => Own k w [arenaL a10 x.2.1, rarL r11 x.2.2.2] ∧ (x.1 ≤ l.length ∧ x.1 ≤ 300) ∧ (WInv x.2.1 x.2.2.1 x.2.2.2 x.1)) (fun x => 300 - x.1) ((0, [docD], fun _ => [], [docR])) ⟨rfl, rfl, rfl, rfl, rfl, rfl, trivial⟩ ⟨hO.only [.o a10, .o r11], ⟨Nat.zero_le _, Nat.zero_le _⟩, WInv.new⟩ ?_
  rintro x w m hm ⟨hO, hi, t⟩
  refine K0 (K0 (K1 ?_))
  refine l_y rfl rfl (y_move rfl) ?_
  refine l_y rfl rfl (y_move rfl) ?_
  refine l_y rfl rfl (y_lenL rfl) ?_
  refine Z0 (fun h4_3 => ?_) (fun h4_3 => ?_)
  · refine l_y rfl rfl (y_move rfl) ?_
    refine l_y rfl rfl (y_move rfl) ?_
    refine Z0 (fun h4_6 => ?_) (fun h4_6 => ?_)
    · refine l_y rfl rfl (y_pick_t rfl rfl) ?_
      refine l_y rfl rfl (y_move rfl) ?_
      refine l_y rfl rfl (y_move rfl) ?_
      refine l_y rfl rfl (y_nePnil rfl rfl rfl) ?_
      refine l_y rfl rfl (y_pick_t rfl rfl) ?_
      refine K2 (K3 (L8 (K5 (K3 (K0 (K4 (K0 (K1 ?_))))))))
      refine l_y rfl rfl (y_move rfl) ?_
      refine l_y rfl rfl (y_move rfl) ?_
      refine l_y rfl rfl (y_idx rfl rfl) ?_
      refine l_y rfl rfl (y_rA (x0 := 0) (enc := Law17_elem.cells) (xs := l) (cs := [.int .i64 (at_ l ((x.1 : Int) : Int).toNat).What, .int .i64 (at_ l ((x.1 : Int) : Int).toNat).Up, .int .i64 (at_ l ((x.1 : Int) : Int).toNat).N, .string (at_ l ((x.1 : Int) : Int).toNat).Text, .slice (at_ l ((x.1 : Int) : Int).toNat).LP (at_ l ((x.1 : Int) : Int).toNat).L.length (at_ l ((x.1 : Int) : Int).toNat).LC]) hO rfl) ?_
      refine s_alloc (vs := [.int .i64 0, .int .i64 0, .int .i64 0, .string ⟨#[]⟩, .slice none 0 0]) hO rfl rfl rfl fun b7 w hO => ?_
      refine Y3 hO rfl rfl (fun w hO => ?_)
      refine K2 (K3 (K0 ?_))
      have ho := hs.one _ (at_mem (xs := l) (i := ((x.1 : Nat) : Int).toNat) (by omega))
      have hn := t.two.pos
      have hc := t.two.max
      have hcr := t.two.rmax
      obtain ⟨e, he⟩ : ∃ e, e = at_ l ((x.1 : Int)).toNat := ⟨_, rfl⟩
      rw [← he] at ho hO ⊢
      refine K1 ?_
      refine l_y rfl rfl (y_assign rfl) ?_
      refine K2 (K3 (K0 (K1 ?_)))
      refine l_y rfl rfl (y_assign rfl) ?_
      refine K2 (K3 ?_)
      refine c_cut (X := List Node_one × (Int → List Int) × List Ref01_one × Int × Int) (fun y => [(0, .slice p l.length c), (2, .pointer none), (3, .pointer none), (4, .pointer (some ⟨a10, 0, none⟩)), (5, .pointer (some ⟨r11, 0, none⟩)), (6, .int .i64 (x.1 : Int)), (7, .pointer (some ⟨b7, 0, none⟩)), (8, .int .i64 y.2.2.2.1), (9, .int .i64 y.2.2.2.2)]) (fun y w => Own k w [arenaL a10 y.1, rarL r11 y.2.2.1, blk b7 89 (Law17_elem.cells e)] ∧ (WInv y.1 y.2.1 y.2.2.1 (x.1 + 1))) ?_ ?_
      · refine K0 (K1 ?_)
        refine l_y rfl rfl (y_fldb (o' := 0) rfl) ?_
        refine l_y rfl rfl (D5 hO rfl) ?_
        refine K2 (K3 (K4 (K0 (K1 ?_))))
        refine Z0 (fun h12_0 => ?_) (fun h12_0 => ?_)
        · refine l_y rfl rfl (y_assign rfl) ?_
          refine K2 (K3 (L8 (K0 (K1 ?_))))
          refine l_y rfl rfl (y_move rfl) ?_
          refine l_y rfl rfl (y_fldb (o' := 2) rfl) ?_
          refine l_y rfl rfl (D5 hO rfl) ?_
          refine l_y rfl rfl (y_fldb (o' := 3) rfl) ?_
          refine l_y rfl rfl (D5 hO rfl) ?_
          refine l_y rfl rfl (y_fldb (o' := 4) rfl) ?_
          refine l_y rfl rfl (D5 hO rfl) ?_
          refine CK [.o a10] hO rfl (fun k' hx hr hO' => Element_spec hn hc (ho.ext hO hx) (hO := hO')) ?_
          rintro _ _ w ⟨q1, d1, rfl, rfl⟩ hO
          simp only [List.cons_append, List.nil_append] at hO
          refine l_y rfl rfl (y_move rfl) ?_
          refine l_y rfl rfl (y_extract rfl rfl) ?_
          refine l_y rfl rfl (y_extract rfl rfl) ?_
          refine l_y rfl rfl (y_assign rfl) ?_
          refine l_y rfl rfl (y_assign rfl) ?_
          refine K2 (K3 (K1 ?_))
          refine l_y rfl rfl (y_move rfl) ?_
          refine l_y rfl rfl (y_fldb (o' := 2) rfl) ?_
          refine l_y rfl rfl (D5 hO rfl) ?_
          refine l_y rfl rfl (y_fldb (o' := 3) rfl) ?_
          refine l_y rfl rfl (D5 hO rfl) ?_
          refine l_y rfl rfl (y_fldb (o' := 4) rfl) ?_
          refine l_y rfl rfl (D5 hO rfl) ?_
          refine CK [.o r11] hO rfl (fun k' hx hr hO' => rElement_spec hcr (ho.ext hO hx) (hO := hO')) ?_
          rintro _ _ w ⟨q2, d2, rfl, rfl⟩ hO
          simp only [List.cons_append, List.nil_append] at hO
          obtain ⟨Kz, t9⟩ := t.el e.N e.Text e.L q1 q2 d1 d2
          refine K2 (K8 ?_)
          exact q_cut ((_, Kz, _, _, _)) ⟨rfl, rfl, rfl, rfl, rfl, rfl, rfl, rfl, rfl, trivial⟩ ⟨hO.only [.o a10, .o r11, .b b7], t9⟩
        · refine l_y rfl rfl (y_assign rfl) ?_
          refine K2 (K3 (L9 (K0 (K1 ?_))))
          refine Z0 (fun h15_0 => ?_) (fun h15_0 => ?_)
          · refine l_y rfl rfl (y_assign rfl) ?_
            refine K2 (K3 (L8 (K0 (K1 ?_))))
            refine l_y rfl rfl (y_move rfl) ?_
            refine l_y rfl rfl (y_fldb (o' := 3) rfl) ?_
            refine l_y rfl rfl (D5 hO rfl) ?_
            refine CK [.o a10] hO rfl (fun k' hx hr hO' => Text_spec hn hc (hO := hO')) ?_
            rintro _ _ w ⟨rfl, rfl⟩ hO
            simp only [List.cons_append, List.nil_append] at hO
            refine l_y rfl rfl (y_move rfl) ?_
            refine l_y rfl rfl (y_extract rfl rfl) ?_
            refine l_y rfl rfl (y_extract rfl rfl) ?_
            refine l_y rfl rfl (y_assign rfl) ?_
            refine l_y rfl rfl (y_assign rfl) ?_
            refine K2 (K3 (K1 ?_))
            refine l_y rfl rfl (y_move rfl) ?_
            refine l_y rfl rfl (y_fldb (o' := 3) rfl) ?_
            refine l_y rfl rfl (D5 hO rfl) ?_
            refine CK [.o r11] hO rfl (fun k' hx hr hO' => rText_spec hcr (hO := hO')) ?_
            rintro _ _ w ⟨rfl, rfl⟩ hO
            simp only [List.cons_append, List.nil_append] at hO
            obtain ⟨Kz, t9⟩ := t.more [e.Text] (Nat.zero_le _) (simText1 e.Text) ⟨by show (1 : Int) ≤ 2; decide, by show (2 : Int) ≤ 5; decide⟩ (textText1 e.Text)
            refine K2 (K8 ?_)
            exact q_cut ((_, Kz, _, _, _)) ⟨rfl, rfl, rfl, rfl, rfl, rfl, rfl, rfl, rfl, trivial⟩ ⟨hO.only [.o a10, .o r11, .b b7], t9⟩
          · refine l_y rfl rfl (y_assign rfl) ?_
            refine K2 (K3 (L9 (K0 (K1 ?_))))
            refine Z0 (fun h18_0 => ?_) (fun h18_0 => ?_)
            · refine l_y rfl rfl (y_assign rfl) ?_
              refine K2 (K3 (L8 (K0 (K1 ?_))))
              refine l_y rfl rfl (y_move rfl) ?_
              refine l_y rfl rfl (y_fldb (o' := 3) rfl) ?_
              refine l_y rfl rfl (D5 hO rfl) ?_
              refine CK [.o a10] hO rfl (fun k' hx hr hO' => Comment_spec hn hc (hO := hO')) ?_
              rintro _ _ w ⟨rfl, rfl⟩ hO
              simp only [List.cons_append, List.nil_append] at hO
              refine l_y rfl rfl (y_move rfl) ?_
              refine l_y rfl rfl (y_extract rfl rfl) ?_
              refine l_y rfl rfl (y_extract rfl rfl) ?_
              refine l_y rfl rfl (y_assign rfl) ?_
              refine l_y rfl rfl (y_assign rfl) ?_
              refine K2 (K3 (K1 ?_))
              refine l_y rfl rfl (y_move rfl) ?_
              refine l_y rfl rfl (y_fldb (o' := 3) rfl) ?_
              refine l_y rfl rfl (D5 hO rfl) ?_
              refine CK [.o r11] hO rfl (fun k' hx hr hO' => rComment_spec hcr (hO := hO')) ?_
              rintro _ _ w ⟨rfl, rfl⟩ hO
              simp only [List.cons_append, List.nil_append] at hO
              obtain ⟨Kz, t9⟩ := t.more [e.Text] (Nat.zero_le _) (simComment1 e.Text) ⟨by show (1 : Int) ≤ 3; decide, by show (3 : Int) ≤ 5; decide⟩ (textComment1 e.Text)
              refine K2 (K8 ?_)
              exact q_cut ((_, Kz, _, _, _)) ⟨rfl, rfl, rfl, rfl, rfl, rfl, rfl, rfl, rfl, trivial⟩ ⟨hO.only [.o a10, .o r11, .b b7], t9⟩
            · refine l_y rfl rfl (y_assign rfl) ?_
              refine K2 (K3 (L9 (K0 (K1 ?_))))
              refine Z0 (fun h21_0 => ?_) (fun h21_0 => ?_)
              · refine l_y rfl rfl (y_assign rfl) ?_
                refine K2 (K3 (L8 (K0 (K1 ?_))))
                refine l_y rfl rfl (y_move rfl) ?_
                refine l_y rfl rfl (y_fldb (o' := 3) rfl) ?_
                refine l_y rfl rfl (D5 hO rfl) ?_
                refine CK [.o a10] hO rfl (fun k' hx hr hO' => Doctype_spec hn hc (hO := hO')) ?_
                rintro _ _ w ⟨rfl, rfl⟩ hO
                simp only [List.cons_append, List.nil_append] at hO
                refine l_y rfl rfl (y_move rfl) ?_
                refine l_y rfl rfl (y_extract rfl rfl) ?_
                refine l_y rfl rfl (y_extract rfl rfl) ?_
                refine l_y rfl rfl (y_assign rfl) ?_
                refine l_y rfl rfl (y_assign rfl) ?_
                refine K2 (K3 (K1 ?_))
                refine l_y rfl rfl (y_move rfl) ?_
                refine l_y rfl rfl (y_fldb (o' := 3) rfl) ?_
                refine l_y rfl rfl (D5 hO rfl) ?_
                refine CK [.o r11] hO rfl (fun k' hx hr hO' => rDoctype_spec hcr (hO := hO')) ?_
                rintro _ _ w ⟨rfl, rfl⟩ hO
                simp only [List.cons_append, List.nil_append] at hO
                obtain ⟨Kz, t9⟩ := t.more [e.Text, ⟨#[]⟩, ⟨#[]⟩] (Nat.zero_le _) (simDoctype1 e.Text ⟨#[]⟩ ⟨#[]⟩) ⟨by show (1 : Int) ≤ 4; decide, by show (4 : Int) ≤ 5; decide⟩ (textDoctype1 e.Text ⟨#[]⟩ ⟨#[]⟩)
                refine K2 (K8 ?_)
                exact q_cut ((_, Kz, _, _, _)) ⟨rfl, rfl, rfl, rfl, rfl, rfl, rfl, rfl, rfl, trivial⟩ ⟨hO.only [.o a10, .o r11, .b b7], t9⟩
              · refine l_y rfl rfl (y_assign rfl) ?_
                refine K2 (K3 (L9 (K0 (K1 ?_))))
                refine l_y rfl rfl (y_move rfl) ?_
                refine CK [.o a10] hO rfl (fun k' hx hr hO' => Fragment_spec hn hc (hO := hO')) ?_
                rintro _ _ w ⟨rfl, rfl⟩ hO
                simp only [List.cons_append, List.nil_append] at hO
                refine l_y rfl rfl (y_move rfl) ?_
                refine l_y rfl rfl (y_extract rfl rfl) ?_
                refine l_y rfl rfl (y_extract rfl rfl) ?_
                refine l_y rfl rfl (y_assign rfl) ?_
                refine l_y rfl rfl (y_assign rfl) ?_
                refine K2 (K3 (K1 ?_))
                refine l_y rfl rfl (y_move rfl) ?_
                refine CK [.o r11] hO rfl (fun k' hx hr hO' => rFragment_spec hcr (hO := hO')) ?_
                rintro _ _ w ⟨rfl, rfl⟩ hO
                simp only [List.cons_append, List.nil_append] at hO
                obtain ⟨Kz, t9⟩ := t.more [] (Nat.zero_le _) simFragment1 ⟨by decide, by decide⟩ (fun _ => textFragment1)
                refine K2 (K8 ?_)
                exact q_cut ((_, Kz, _, _, _)) ⟨rfl, rfl, rfl, rfl, rfl, rfl, rfl, rfl, rfl, trivial⟩ ⟨hO.only [.o a10, .o r11, .b b7], t9⟩
      · rintro y w ⟨hO, t2⟩
        refine K0 (K1 ?_)
        refine l_y rfl rfl (y_move rfl) ?_
        refine Z0 (fun h24_1 => ?_) (fun h24_1 => ?_)
        · refine K2 (K3 (L8 (K0 (K1 ?_))))
          refine l_y rfl rfl (y_move rfl) ?_
          refine l_y rfl rfl (y_fldb (o' := 1) rfl) ?_
          refine l_y rfl rfl (D5 hO rfl) ?_
          refine l_y rfl rfl (y_move rfl) ?_
          refine CK [.o a10] hO rfl (fun k' hx hr hO' => LinkC_spec t2.two.pos t2.two.tree.rank t2.two.tree.links (hO := hO')) ?_
          rintro _ _ w ⟨rfl, rfl⟩ hO
          simp only [List.cons_append, List.nil_append] at hO
          refine K2 (K3 (K1 ?_))
          refine l_y rfl rfl (y_move rfl) ?_
          refine l_y rfl rfl (y_fldb (o' := 1) rfl) ?_
          refine l_y rfl rfl (D5 hO rfl) ?_
          refine l_y rfl rfl (y_move rfl) ?_
          refine CK [.o r11] hO rfl (fun k' hx hr hO' => rLink_spec t2.two.tree t2.two.sim t2.two.max (hO := hO')) ?_
          rintro _ _ w ⟨rfl, R9, rfl, s9⟩ hO
          simp only [List.cons_append, List.nil_append] at hO
          have tt := t2.link s9
          refine K2 (K8 (K3 (K1 ?_)))
          refine l_y rfl rfl (y_move rfl) ?_
          refine l_y rfl rfl (D4) ?_
          refine l_y rfl rfl (y_assign rfl) ?_
          refine K2 ?_
          exact q_next ((x.1 + 1, _, _, _)) ⟨rfl, rfl, rfl, rfl, rfl, rfl, trivial⟩ ⟨hO.only [.o a10, .o r11], (by constructor <;> dsimp only <;> omega), tt⟩ (by dsimp only; omega)
        · have tt := t2
          refine K2 (K3 (L9 (K5 (K8 (K3 (K1 ?_))))))
          refine l_y rfl rfl (y_move rfl) ?_
          refine l_y rfl rfl (D4) ?_
          refine l_y rfl rfl (y_assign rfl) ?_
          refine K2 ?_
          exact q_next ((x.1 + 1, _, _, _)) ⟨rfl, rfl, rfl, rfl, rfl, rfl, trivial⟩ ⟨hO.only [.o a10, .o r11], (by constructor <;> dsimp only <;> omega), tt⟩ (by dsimp only; omega)
    · refine l_y rfl rfl (y_pick_t rfl rfl) ?_
      refine l_y rfl rfl (y_move rfl) ?_
      repeat refine M2 ?_
      refine l_y rfl rfl (y_pick_f rfl rfl) ?_
      refine K2 (K3 (L9 (K7 (L1 (L1 (L2 (K3 (K0 (K1 ?_)))))))))
      refine l_y rfl rfl (y_move rfl) ?_
      refine l_y rfl rfl (y_move rfl) ?_
      refine l_y rfl rfl (y_assign rfl) ?_
      refine l_y rfl rfl (y_assign rfl) ?_
      refine K2 (K3 (K6 ?_))
      exact fin2 rfl rfl rfl ⟨_, ⟨_, _, _, _, _, rfl, t.mono hi.2, rfl⟩, hO.only [.o a10, .o r11]⟩
  · refine l_y rfl rfl (y_move rfl) ?_
    repeat refine M2 ?_
    refine l_y rfl rfl (y_pick_f rfl rfl) ?_
    refine l_y rfl rfl (y_move rfl) ?_
    repeat refine M2 ?_
    refine l_y rfl rfl (y_pick_f rfl rfl) ?_
    refine K2 (K3 (L9 (K7 (L1 (L1 (L2 (K3 (K0 (K1 ?_)))))))))
    refine l_y rfl rfl (y_move rfl) ?_
    refine l_y rfl rfl (y_move rfl) ?_
    refine l_y rfl rfl (y_assign rfl) ?_
    refine l_y rfl rfl (y_assign rfl) ?_
    refine K2 (K3 (K6 ?_))
    exact fin2 rfl rfl rfl ⟨_, ⟨_, _, _, _, _, rfl, t.mono hi.2, rfl⟩, hO.only [.o a10, .o r11]⟩
theorem WriteInners_spec {p : Option Addr} {c : Nat} {l : List Law17_elem} {id : Int} {sc : Bool} (hs : ScrE k p c l) (hO : Own k w []) :
    Tri Try.prog 4 #[.slice p l.length c, .int .i64 id, .bool sc] k w fun v m => v = .bool true := by
  refine enter (args := [.slice p l.length c, .int .i64 id, .bool sc]) Try.func4 rfl rfl ?_
  refine K0 (K1 ?_)
  refine l_y rfl rfl (y_assign rfl) ?_
  refine K2 (K3 (K0 (K1 ?_)))
  refine l_y rfl rfl (y_move rfl) ?_
  refine CK [] hO rfl (fun k' hx hr hO' => arenas_spec ⟨hs.sli.ext hO hx, fun o ho => (hs.one o ho).ext hO hx⟩ hO') ?_
  rintro _ _ w ⟨a, r, A, K, R, rfl, t, rfl⟩ hO
  simp only [List.cons_append, List.nil_append] at hO
  have hlen := t.len
  refine l_y rfl rfl (y_move rfl) ?_
  refine l_y rfl rfl (y_extract rfl rfl) ?_
  refine l_y rfl rfl (y_extract rfl rfl) ?_
  refine l_y rfl rfl (y_assign rfl) ?_
  refine l_y rfl rfl (y_assign rfl) ?_
  refine K2 (K3 (K0 (K0 (K1 ?_))))
  refine l_y rfl rfl (y_move rfl) ?_
  refine l_y rfl rfl (y_eqPnil rfl rfl rfl) ?_
  refine K2 (K3 (L9 (K5 (K3 (K0 (K1 ?_))))))
  refine l_y rfl rfl (y_move rfl) ?_
  refine l_y rfl rfl (y_move rfl) ?_
  refine l_y rfl rfl (y_move rfl) ?_
  refine CK [.o a] hO rfl (fun k' hx hr hO' => wInner_spec t.tx t.two.pos (by omega) hO') ?_
  rintro _ _ w ⟨rfl, rfl⟩ hO
  simp only [List.cons_append, List.nil_append] at hO
  refine l_y rfl rfl (y_move rfl) ?_
  refine l_y rfl rfl (y_extract rfl rfl) ?_
  refine l_y rfl rfl (y_extract rfl rfl) ?_
  refine l_y rfl rfl (y_assign rfl) ?_
  refine l_y rfl rfl (y_assign rfl) ?_
  refine K2 (K3 (K0 (K1 ?_)))
  refine l_y rfl rfl (y_move rfl) ?_
  refine l_y rfl rfl (y_move rfl) ?_
  refine l_y rfl rfl (y_move rfl) ?_
  refine CK [.o r] hO rfl (fun k' hx hr hO' => rInner_spec t.tx t.two.sim (by omega) hO') ?_
  rintro _ _ w ⟨rfl, rfl⟩ hO
  simp only [List.cons_append, List.nil_append] at hO
  refine l_y rfl rfl (y_move rfl) ?_
  refine l_y rfl rfl (y_extract rfl rfl) ?_
  refine l_y rfl rfl (y_extract rfl rfl) ?_
  refine l_y rfl rfl (y_assign rfl) ?_
  refine l_y rfl rfl (y_assign rfl) ?_
  refine K2 (K3 (K0 (K1 ?_)))
  refine l_y rfl rfl (y_move rfl) ?_
  refine l_y rfl rfl (y_move rfl) ?_
  refine N6 (hp := rfl) ?_
  refine l_y rfl rfl (y_move rfl) ?_
  refine l_y rfl rfl (y_move rfl) ?_
  refine l_y rfl rfl (y_move rfl) ?_
  refine N2 (hp := rfl) ?_
  refine l_y rfl rfl (y_pick_t rfl rfl) ?_
  refine l_y rfl rfl (y_move rfl) ?_
  refine CK [] hO rfl (fun k' hx hr hO' => awake17_spec (hO := hO')) ?_
  rintro _ _ w ⟨rfl, rfl⟩ hO
  simp only [List.cons_append, List.nil_append] at hO
  refine l_y rfl rfl (y_pick_t rfl rfl) ?_
  refine l_y rfl rfl (y_assign rfl) ?_
  refine K2 (K3 (K6 ?_))
  exact fin1 rfl rfl ⟨_, rfl, hO⟩
/-! what is read -/
abbrev QElem {H : Type} (W : World) : List Value → DataW H → Prop := QSt [QInt .i64, QInt .i64, QInt .i64, QStr, QSl W 4 QAttr]
theorem q_elem {H : Type} {enc : TypeId × Value → H} {W : World} : Reads enc Try.prog W 89 (QElem W) := by
  have h : Try.prog.cellsOf 89 = 5 := by kernel_rfl
  letI : Und Try.prog 89 _ := ⟨Try.underlying89⟩
  refine r_st ?_
  rw [h]
  exact .cons (m := 1) rfl (by kernel_rfl) r_int (.cons (m := 1) rfl (by kernel_rfl) r_int (.cons (m := 1) rfl (by kernel_rfl) r_int (.cons (m := 1) rfl (by kernel_rfl) r_str (.cons (m := 1) rfl (by kernel_rfl) (r_sl (by decide) q_attr) (.nil _)))))
theorem elem_of {H : Type} {W : World} {r : List Value} {d : DataW H} (h : QElem W r d) : ∃ o : Law17_elem, r = Law17_elem.cells o ∧ Sli (Ro (all W)) (.slice o.LP o.L.length o.LC) (o.L.map Api_attr.cells) := by
  obtain ⟨ps, rfl, hq⟩ := h
  obtain ⟨c1, cs1, d1, ds1, rfl, rfl, g1, hq⟩ := hq.un
  obtain ⟨c2, cs2, d2, ds2, rfl, rfl, g2, hq⟩ := hq.un
  obtain ⟨c3, cs3, d3, ds3, rfl, rfl, g3, hq⟩ := hq.un
  obtain ⟨c4, cs4, d4, ds4, rfl, rfl, g4, hq⟩ := hq.un
  obtain ⟨c5, cs5, d5, ds5, rfl, rfl, g5, hq⟩ := hq.un
  obtain ⟨rfl, rfl⟩ := hq.un0
  obtain ⟨n1, rfl, rfl, _⟩ := g1
  obtain ⟨n2, rfl, rfl, _⟩ := g2
  obtain ⟨n3, rfl, rfl, _⟩ := g3
  obtain ⟨s4, rfl, rfl, _⟩ := g4
  obtain ⟨u, rows', ds', rfl, B⟩ := g5
  obtain ⟨q, cc, rfl, _⟩ := B.shape
  obtain ⟨xs, rfl⟩ := attrs_of fun r hr => by
    obtain ⟨e, _, hq⟩ := B.all r hr
    exact attr_of hq
  have h5 := B.sli
  rw [List.length_map] at h5
  exact ⟨⟨n1, n2, n3, s4, q, xs, cc⟩, by simp [Law17_elem.cells], h5⟩
theorem elems_of {H : Type} {W : World} {p : Option Addr} {c : Nat} {d : DataW H} {rows : List (List Value)} {ds : List (DataW H)} (A : ArgSl (all W) 5 (QElem W) (.slice p rows.length c) d rows ds) : ∃ l : List Law17_elem, l.length = rows.length ∧ ScrE (all W) p c l := by
  obtain ⟨l, rfl, hl⟩ := recs_of (enc := Law17_elem.cells) (Q := fun o => Sli (Ro (all W)) (.slice o.LP o.L.length o.LC) (o.L.map Api_attr.cells)) (rows := rows) fun r hr => by
    obtain ⟨e, he, hq⟩ := A.all r hr
    exact elem_of hq
  have h3 := A.sli
  rw [List.length_map] at h3
  exact ⟨l, by simp, h3, hl⟩
end
end Go.Proofs.Ythkmnohghpdjhaa
