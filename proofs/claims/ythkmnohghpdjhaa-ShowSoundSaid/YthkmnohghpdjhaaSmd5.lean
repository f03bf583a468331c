/- The walk of the law's scripts: both arenas. -/
import Derived.Test.YthkmnohghpdjhaaWtx9
set_option linter.unusedVariables false
set_option linter.unusedSimpArgs false
set_option maxRecDepth 100000
namespace Go.Proofs.Ythkmnohghpdjhaa
open Go Go.Hb Go.RowKit
theorem WInv.unlink {A : List Node_one} {K : Int → List Int} {R R' : List Ref01_one} {n : Nat} (h : WInv A K R n) {id : Int} (s : Sim (unlinkL A id).2 (unlinkKs A K id) R') : WInv (unlinkL A id).2 (unlinkKs A K id) R' n :=
  ⟨h.two.unlink s, h.inn.core unlinkL_len (unlink_core h.two.tree id), h.text.core unlinkL_len (unlink_core h.two.tree id), h.knd.unlink h.two.tree id, by rw [unlinkL_len]; exact h.len, h.doc.same unlinkL_len (core_kind (unlink_core h.two.tree id 0 (by decide)))⟩
section
variable {k : Ctx} {w : World}
/-- a script that may be read -/
structure Scr3 (k : Ctx) (p : Option Addr) (c : Nat) (l : List Law03_op) : Prop where
  sli : Sli (Ro k) (.slice p l.length c) (l.map Law03_op.cells)
  one : ∀ o ∈ l, Sli (Ro k) (.slice o.LP o.L.length o.LC) (o.L.map Api_attr.cells)
set_option maxHeartbeats 8000000 in
theorem build_spec {p : Option Addr} {c : Nat} {l : List Law03_op} (hs : Scr3 k p c l) (hO : Own k w []) :
    Tri Try.prog 20 #[.slice p l.length c] k w fun v m => ∃ a r A K R, v = .tuple #[.pointer (some ⟨a, 0, none⟩), .pointer (some ⟨r, 0, none⟩)] ∧ WInv A K R 300 ∧ m = [arenaL a A, rarL r R] := by
  refine enter (args := [.slice p l.length c]) Try.func20 rfl rfl ?_
  have hsl := hs.sli
  have hgs := sli_gs hsl
  refine K0 (K1 ?_)
  refine l_y rfl rfl (y_assign rfl) ?_
  refine l_y rfl rfl (y_assign rfl) ?_
  refine K2 (K3 (K0 (K1 ?_)))
  refine CK [] hO rfl (fun k' hx hr hO' => New_spec (hO := hO')) ?_
  rintro _ _ w ⟨a8, rfl, rfl⟩ hO
  simp only [List.cons_append, List.nil_append] at hO
  refine l_y rfl rfl (y_assign rfl) ?_
  refine K2 (K3 (K0 (K1 ?_)))
  refine CK [] hO rfl (fun k' hx hr hO' => rNew_spec (hO := hO')) ?_
  rintro _ _ w ⟨r9, rfl, rfl⟩ hO
  simp only [List.cons_append, List.nil_append] at hO
  refine l_y rfl rfl (y_assign rfl) ?_
  refine K2 (K3 (K0 (K0 (K1 ?_))))
  refine l_y rfl rfl (y_assign rfl) ?_
  refine K2 (K3 (K4 ?_))
  refine c_rounds (X := Nat × List Node_one × (Int → List Int) × List Ref01_one) (fun x => [(0, .slice p l.length c), (2, .pointer none), (3, .pointer none), (4, .pointer (some ⟨a8, 0, none⟩)), (5, .pointer (some ⟨r9, 0, none⟩)), (6, .int .i64 (x.1 : Int))]) (fun x w => Own k w [arenaL a8 x.2.1, rarL r9 x.2.2.2] ∧ (x.1 ≤ l.length ∧ x.1 ≤ 300) ∧ (WInv x.2.1 x.2.2.1 x.2.2.2 x.1)) (fun x => 300 - x.1) ((0, [docD], fun _ => [], [docR])) ⟨rfl, rfl, rfl, rfl, rfl, rfl, trivial⟩ ⟨hO.only [.o a8, .o r9], ⟨Nat.zero_le _, Nat.zero_le _⟩, WInv.new⟩ ?_
  rintro x w m hm ⟨hO, hi, t⟩
  refine K0 (K0 (K1 ?_))
  refine l_y rfl rfl (y_move rfl) ?_
  refine l_y rfl rfl (y_move rfl) ?_
  refine l_y rfl rfl (y_lenL rfl) ?_
  refine Z0 (fun h4_3 => ?_) (fun h4_3 => ?_)
  · refine l_y rfl rfl (y_move rfl) ?_
    refine l_y rfl rfl (y_move rfl) ?_
    refine Z0 (fun h4_6 => ?_) (fun h4_6 => ?_)
    · refine l_y rfl rfl (y_pick_t rfl rfl) ?_
      refine l_y rfl rfl (y_move rfl) ?_
      refine l_y rfl rfl (y_move rfl) ?_
      refine l_y rfl rfl (y_nePnil rfl rfl rfl) ?_
      refine l_y rfl rfl (y_pick_t rfl rfl) ?_
      refine K2 (K3 (L8 (K5 (K3 (K0 (K4 (K0 (K1 ?_))))))))
      refine l_y rfl rfl (y_move rfl) ?_
      refine l_y rfl rfl (y_move rfl) ?_
      refine l_y rfl rfl (y_idx rfl rfl) ?_
      refine l_y rfl rfl (y_rA (x0 := 0) (enc := Law03_op.cells) (xs := l) (cs := [.int .i64 (at_ l ((x.1 : Int) : Int).toNat).What, .int .i64 (at_ l ((x.1 : Int) : Int).toNat).A, .int .i64 (at_ l ((x.1 : Int) : Int).toNat).B, .int .i64 (at_ l ((x.1 : Int) : Int).toNat).C, .int .i64 (at_ l ((x.1 : Int) : Int).toNat).N, .string (at_ l ((x.1 : Int) : Int).toNat).Text, .slice (at_ l ((x.1 : Int) : Int).toNat).LP (at_ l ((x.1 : Int) : Int).toNat).L.length (at_ l ((x.1 : Int) : Int).toNat).LC]) hO rfl) ?_
      refine s_alloc (vs := [.int .i64 0, .int .i64 0, .int .i64 0, .int .i64 0, .int .i64 0, .string ⟨#[]⟩, .slice none 0 0]) hO rfl rfl rfl fun b7 w hO => ?_
      refine Y3 hO rfl rfl (fun w hO => ?_)
      refine K2 (K3 (K0 ?_))
      have ho := hs.one _ (at_mem (xs := l) (i := ((x.1 : Nat) : Int).toNat) (by omega))
      have hn := t.two.pos
      have hc := t.two.max
      have hcr := t.two.rmax
      obtain ⟨e, he⟩ : ∃ e, e = at_ l ((x.1 : Int)).toNat := ⟨_, rfl⟩
      rw [← he] at ho hO ⊢
      refine K1 ?_
      refine l_y rfl rfl (y_fldb (o' := 0) rfl) ?_
      refine l_y rfl rfl (D5 hO rfl) ?_
      refine K2 (K3 (K4 (K0 (K1 ?_))))
      refine Z0 (fun h10_0 => ?_) (fun h10_0 => ?_)
      · refine l_y rfl rfl (y_assign rfl) ?_
        refine K2 (K3 (L8 (K0 (K1 ?_))))
        refine l_y rfl rfl (y_move rfl) ?_
        refine l_y rfl rfl (y_fldb (o' := 4) rfl) ?_
        refine l_y rfl rfl (D5 hO rfl) ?_
        refine l_y rfl rfl (y_fldb (o' := 5) rfl) ?_
        refine l_y rfl rfl (D5 hO rfl) ?_
        refine l_y rfl rfl (y_fldb (o' := 6) rfl) ?_
        refine l_y rfl rfl (D5 hO rfl) ?_
        refine CK [.o a8] hO rfl (fun k' hx hr hO' => Element_spec hn hc (ho.ext hO hx) (hO := hO')) ?_
        rintro _ _ w ⟨q1, d1, rfl, rfl⟩ hO
        simp only [List.cons_append, List.nil_append] at hO
        refine K2 (K3 (K1 ?_))
        refine l_y rfl rfl (y_move rfl) ?_
        refine l_y rfl rfl (y_fldb (o' := 4) rfl) ?_
        refine l_y rfl rfl (D5 hO rfl) ?_
        refine l_y rfl rfl (y_fldb (o' := 5) rfl) ?_
        refine l_y rfl rfl (D5 hO rfl) ?_
        refine l_y rfl rfl (y_fldb (o' := 6) rfl) ?_
        refine l_y rfl rfl (D5 hO rfl) ?_
        refine CK [.o r9] hO rfl (fun k' hx hr hO' => rElement_spec hcr (ho.ext hO hx) (hO := hO')) ?_
        rintro _ _ w ⟨q2, d2, rfl, rfl⟩ hO
        simp only [List.cons_append, List.nil_append] at hO
        obtain ⟨Kz, tt⟩ := t.el e.N e.Text e.L q1 q2 d1 d2
        refine K2 (K8 (K8 (K3 (K1 ?_))))
        refine l_y rfl rfl (y_move rfl) ?_
        refine l_y rfl rfl (D4) ?_
        refine l_y rfl rfl (y_assign rfl) ?_
        refine K2 ?_
        exact q_next ((x.1 + 1, _, _, _)) ⟨rfl, rfl, rfl, rfl, rfl, rfl, trivial⟩ ⟨hO.only [.o a8, .o r9], (by constructor <;> dsimp only <;> omega), tt⟩ (by dsimp only; omega)
      · refine l_y rfl rfl (y_assign rfl) ?_
        refine K2 (K3 (L9 (K0 (K1 ?_))))
        refine Z0 (fun h13_0 => ?_) (fun h13_0 => ?_)
        · refine l_y rfl rfl (y_assign rfl) ?_
          refine K2 (K3 (L8 (K0 (K1 ?_))))
          refine l_y rfl rfl (y_move rfl) ?_
          refine l_y rfl rfl (y_fldb (o' := 5) rfl) ?_
          refine l_y rfl rfl (D5 hO rfl) ?_
          refine CK [.o a8] hO rfl (fun k' hx hr hO' => Text_spec hn hc (hO := hO')) ?_
          rintro _ _ w ⟨rfl, rfl⟩ hO
          simp only [List.cons_append, List.nil_append] at hO
          refine K2 (K3 (K1 ?_))
          refine l_y rfl rfl (y_move rfl) ?_
          refine l_y rfl rfl (y_fldb (o' := 5) rfl) ?_
          refine l_y rfl rfl (D5 hO rfl) ?_
          refine CK [.o r9] hO rfl (fun k' hx hr hO' => rText_spec hcr (hO := hO')) ?_
          rintro _ _ w ⟨rfl, rfl⟩ hO
          simp only [List.cons_append, List.nil_append] at hO
          obtain ⟨Kz, tt⟩ := t.more [e.Text] (Nat.zero_le _) (simText1 e.Text) ⟨by show (1 : Int) ≤ 2; decide, by show (2 : Int) ≤ 5; decide⟩ (textText1 e.Text)
          refine K2 (K8 (K8 (K3 (K1 ?_))))
          refine l_y rfl rfl (y_move rfl) ?_
          refine l_y rfl rfl (D4) ?_
          refine l_y rfl rfl (y_assign rfl) ?_
          refine K2 ?_
          exact q_next ((x.1 + 1, _, _, _)) ⟨rfl, rfl, rfl, rfl, rfl, rfl, trivial⟩ ⟨hO.only [.o a8, .o r9], (by constructor <;> dsimp only <;> omega), tt⟩ (by dsimp only; omega)
        · refine l_y rfl rfl (y_assign rfl) ?_
          refine K2 (K3 (L9 (K0 (K1 ?_))))
          refine Z0 (fun h16_0 => ?_) (fun h16_0 => ?_)
          · refine l_y rfl rfl (y_assign rfl) ?_
            refine K2 (K3 (L8 (K0 (K1 ?_))))
            refine l_y rfl rfl (y_move rfl) ?_
            refine l_y rfl rfl (y_fldb (o' := 5) rfl) ?_
            refine l_y rfl rfl (D5 hO rfl) ?_
            refine CK [.o a8] hO rfl (fun k' hx hr hO' => Comment_spec hn hc (hO := hO')) ?_
            rintro _ _ w ⟨rfl, rfl⟩ hO
            simp only [List.cons_append, List.nil_append] at hO
            refine K2 (K3 (K1 ?_))
            refine l_y rfl rfl (y_move rfl) ?_
            refine l_y rfl rfl (y_fldb (o' := 5) rfl) ?_
            refine l_y rfl rfl (D5 hO rfl) ?_
            refine CK [.o r9] hO rfl (fun k' hx hr hO' => rComment_spec hcr (hO := hO')) ?_
            rintro _ _ w ⟨rfl, rfl⟩ hO
            simp only [List.cons_append, List.nil_append] at hO
            obtain ⟨Kz, tt⟩ := t.more [e.Text] (Nat.zero_le _) (simComment1 e.Text) ⟨by show (1 : Int) ≤ 3; decide, by show (3 : Int) ≤ 5; decide⟩ (textComment1 e.Text)
            refine K2 (K8 (K8 (K3 (K1 ?_))))
            refine l_y rfl rfl (y_move rfl) ?_
            refine l_y rfl rfl (D4) ?_
            refine l_y rfl rfl (y_assign rfl) ?_
            refine K2 ?_
            exact q_next ((x.1 + 1, _, _, _)) ⟨rfl, rfl, rfl, rfl, rfl, rfl, trivial⟩ ⟨hO.only [.o a8, .o r9], (by constructor <;> dsimp only <;> omega), tt⟩ (by dsimp only; omega)
          · refine l_y rfl rfl (y_assign rfl) ?_
            refine K2 (K3 (L9 (K0 (K1 ?_))))
            refine Z0 (fun h19_0 => ?_) (fun h19_0 => ?_)
            · refine l_y rfl rfl (y_assign rfl) ?_
              refine K2 (K3 (L8 (K0 (K1 ?_))))
              refine l_y rfl rfl (y_move rfl) ?_
              refine l_y rfl rfl (y_fldb (o' := 5) rfl) ?_
              refine l_y rfl rfl (D5 hO rfl) ?_
              refine l_y rfl rfl (y_fldb (o' := 5) rfl) ?_
              refine l_y rfl rfl (D5 hO rfl) ?_
              refine CK [.o a8] hO rfl (fun k' hx hr hO' => Doctype_spec hn hc (hO := hO')) ?_
              rintro _ _ w ⟨rfl, rfl⟩ hO
              simp only [List.cons_append, List.nil_append] at hO
              refine K2 (K3 (K1 ?_))
              refine l_y rfl rfl (y_move rfl) ?_
              refine l_y rfl rfl (y_fldb (o' := 5) rfl) ?_
              refine l_y rfl rfl (D5 hO rfl) ?_
              refine l_y rfl rfl (y_fldb (o' := 5) rfl) ?_
              refine l_y rfl rfl (D5 hO rfl) ?_
              refine CK [.o r9] hO rfl (fun k' hx hr hO' => rDoctype_spec hcr (hO := hO')) ?_
              rintro _ _ w ⟨rfl, rfl⟩ hO
              simp only [List.cons_append, List.nil_append] at hO
              obtain ⟨Kz, tt⟩ := t.more [e.Text, ⟨#[]⟩, e.Text] (Nat.zero_le _) (simDoctype1 e.Text ⟨#[]⟩ e.Text) ⟨by show (1 : Int) ≤ 4; decide, by show (4 : Int) ≤ 5; decide⟩ (textDoctype1 e.Text ⟨#[]⟩ e.Text)
              refine K2 (K8 (K8 (K3 (K1 ?_))))
              refine l_y rfl rfl (y_move rfl) ?_
              refine l_y rfl rfl (D4) ?_
              refine l_y rfl rfl (y_assign rfl) ?_
              refine K2 ?_
              exact q_next ((x.1 + 1, _, _, _)) ⟨rfl, rfl, rfl, rfl, rfl, rfl, trivial⟩ ⟨hO.only [.o a8, .o r9], (by constructor <;> dsimp only <;> omega), tt⟩ (by dsimp only; omega)
            · refine l_y rfl rfl (y_assign rfl) ?_
              refine K2 (K3 (L9 (K0 (K1 ?_))))
              refine Z0 (fun h22_0 => ?_) (fun h22_0 => ?_)
              · refine l_y rfl rfl (y_assign rfl) ?_
                refine K2 (K3 (L8 (K0 (K1 ?_))))
                refine l_y rfl rfl (y_move rfl) ?_
                refine CK [.o a8] hO rfl (fun k' hx hr hO' => Fragment_spec hn hc (hO := hO')) ?_
                rintro _ _ w ⟨rfl, rfl⟩ hO
                simp only [List.cons_append, List.nil_append] at hO
                refine K2 (K3 (K1 ?_))
                refine l_y rfl rfl (y_move rfl) ?_
                refine CK [.o r9] hO rfl (fun k' hx hr hO' => rFragment_spec hcr (hO := hO')) ?_
                rintro _ _ w ⟨rfl, rfl⟩ hO
                simp only [List.cons_append, List.nil_append] at hO
                obtain ⟨Kz, tt⟩ := t.more [] (Nat.zero_le _) simFragment1 ⟨by decide, by decide⟩ (fun _ => textFragment1)
                refine K2 (K8 (K8 (K3 (K1 ?_))))
                refine l_y rfl rfl (y_move rfl) ?_
                refine l_y rfl rfl (D4) ?_
                refine l_y rfl rfl (y_assign rfl) ?_
                refine K2 ?_
                exact q_next ((x.1 + 1, _, _, _)) ⟨rfl, rfl, rfl, rfl, rfl, rfl, trivial⟩ ⟨hO.only [.o a8, .o r9], (by constructor <;> dsimp only <;> omega), tt⟩ (by dsimp only; omega)
              · refine l_y rfl rfl (y_assign rfl) ?_
                refine K2 (K3 (L9 (K0 (K1 ?_))))
                refine Z0 (fun h25_0 => ?_) (fun h25_0 => ?_)
                · refine l_y rfl rfl (y_assign rfl) ?_
                  refine K2 (K3 (L8 (K0 (K1 ?_))))
                  refine l_y rfl rfl (y_move rfl) ?_
                  refine l_y rfl rfl (y_fldb (o' := 1) rfl) ?_
                  refine l_y rfl rfl (D5 hO rfl) ?_
                  refine l_y rfl rfl (y_fldb (o' := 2) rfl) ?_
                  refine l_y rfl rfl (D5 hO rfl) ?_
                  refine l_y rfl rfl (y_fldb (o' := 3) rfl) ?_
                  refine l_y rfl rfl (D5 hO rfl) ?_
                  refine CK [.o a8] hO rfl (fun k' hx hr hO' => LinkC_spec hn t.two.tree.rank t.two.tree.links (hO := hO')) ?_
                  rintro _ _ w ⟨rfl, rfl⟩ hO
                  simp only [List.cons_append, List.nil_append] at hO
                  refine K2 (K3 (K1 ?_))
                  refine l_y rfl rfl (y_move rfl) ?_
                  refine l_y rfl rfl (y_fldb (o' := 1) rfl) ?_
                  refine l_y rfl rfl (D5 hO rfl) ?_
                  refine l_y rfl rfl (y_fldb (o' := 2) rfl) ?_
                  refine l_y rfl rfl (D5 hO rfl) ?_
                  refine l_y rfl rfl (y_fldb (o' := 3) rfl) ?_
                  refine l_y rfl rfl (D5 hO rfl) ?_
                  refine CK [.o r9] hO rfl (fun k' hx hr hO' => rLink_spec t.two.tree t.two.sim hc (hO := hO')) ?_
                  rintro _ _ w ⟨rfl, R9, rfl, s9⟩ hO
                  simp only [List.cons_append, List.nil_append] at hO
                  have tt := (t.link s9).mono (Nat.le_succ _)
                  refine K2 (K8 (K8 (K3 (K1 ?_))))
                  refine l_y rfl rfl (y_move rfl) ?_
                  refine l_y rfl rfl (D4) ?_
                  refine l_y rfl rfl (y_assign rfl) ?_
                  refine K2 ?_
                  exact q_next ((x.1 + 1, _, _, _)) ⟨rfl, rfl, rfl, rfl, rfl, rfl, trivial⟩ ⟨hO.only [.o a8, .o r9], (by constructor <;> dsimp only <;> omega), tt⟩ (by dsimp only; omega)
                · refine l_y rfl rfl (y_assign rfl) ?_
                  refine K2 (K3 (L9 (K0 (K1 ?_))))
                  refine l_y rfl rfl (y_move rfl) ?_
                  refine l_y rfl rfl (y_fldb (o' := 1) rfl) ?_
                  refine l_y rfl rfl (D5 hO rfl) ?_
                  refine CK [.o a8] hO rfl (fun k' hx hr hO' => UnlinkC_spec hn t.two.tree.links (hO := hO')) ?_
                  rintro _ _ w ⟨rfl, rfl⟩ hO
                  simp only [List.cons_append, List.nil_append] at hO
                  refine K2 (K3 (K1 ?_))
                  refine l_y rfl rfl (y_move rfl) ?_
                  refine l_y rfl rfl (y_fldb (o' := 1) rfl) ?_
                  refine l_y rfl rfl (D5 hO rfl) ?_
                  refine CK [.o r9] hO rfl (fun k' hx hr hO' => rUnlink_spec t.two.tree t.two.sim hc (hO := hO')) ?_
                  rintro _ _ w ⟨rfl, R9, rfl, s9⟩ hO
                  simp only [List.cons_append, List.nil_append] at hO
                  have tt := (t.unlink s9).mono (Nat.le_succ _)
                  refine K2 (K8 (K8 (K3 (K1 ?_))))
                  refine l_y rfl rfl (y_move rfl) ?_
                  refine l_y rfl rfl (D4) ?_
                  refine l_y rfl rfl (y_assign rfl) ?_
                  refine K2 ?_
                  exact q_next ((x.1 + 1, _, _, _)) ⟨rfl, rfl, rfl, rfl, rfl, rfl, trivial⟩ ⟨hO.only [.o a8, .o r9], (by constructor <;> dsimp only <;> omega), tt⟩ (by dsimp only; omega)
    · refine l_y rfl rfl (y_pick_t rfl rfl) ?_
      refine l_y rfl rfl (y_move rfl) ?_
      repeat refine M2 ?_
      refine l_y rfl rfl (y_pick_f rfl rfl) ?_
      refine K2 (K3 (L9 (K7 (L1 (L1 (L2 (K3 (K0 (K1 ?_)))))))))
      refine l_y rfl rfl (y_move rfl) ?_
      refine l_y rfl rfl (y_move rfl) ?_
      refine l_y rfl rfl (y_assign rfl) ?_
      refine l_y rfl rfl (y_assign rfl) ?_
      refine K2 (K3 (K6 ?_))
      exact fin2 rfl rfl rfl ⟨_, ⟨_, _, _, _, _, rfl, t.mono hi.2, rfl⟩, hO.only [.o a8, .o r9]⟩
  · refine l_y rfl rfl (y_move rfl) ?_
    repeat refine M2 ?_
    refine l_y rfl rfl (y_pick_f rfl rfl) ?_
    refine l_y rfl rfl (y_move rfl) ?_
    repeat refine M2 ?_
    refine l_y rfl rfl (y_pick_f rfl rfl) ?_
    refine K2 (K3 (L9 (K7 (L1 (L1 (L2 (K3 (K0 (K1 ?_)))))))))
    refine l_y rfl rfl (y_move rfl) ?_
    refine l_y rfl rfl (y_move rfl) ?_
    refine l_y rfl rfl (y_assign rfl) ?_
    refine l_y rfl rfl (y_assign rfl) ?_
    refine K2 (K3 (K6 ?_))
    exact fin2 rfl rfl rfl ⟨_, ⟨_, _, _, _, _, rfl, t.mono hi.2, rfl⟩, hO.only [.o a8, .o r9]⟩
/-! what is read -/
abbrev QOp3 {H : Type} (W : World) : List Value → DataW H → Prop := QSt [QInt .i64, QInt .i64, QInt .i64, QInt .i64, QInt .i64, QStr, QSl W 4 QAttr]
theorem q_op3 {H : Type} {enc : TypeId × Value → H} {W : World} : Reads enc Try.prog W 116 (QOp3 W) := by
  have h : Try.prog.cellsOf 116 = 7 := by kernel_rfl
  letI : Und Try.prog 116 _ := ⟨Try.underlying116⟩
  refine r_st ?_
  rw [h]
  exact .cons (m := 1) rfl (by kernel_rfl) r_int (.cons (m := 1) rfl (by kernel_rfl) r_int (.cons (m := 1) rfl (by kernel_rfl) r_int (.cons (m := 1) rfl (by kernel_rfl) r_int (.cons (m := 1) rfl (by kernel_rfl) r_int (.cons (m := 1) rfl (by kernel_rfl) r_str (.cons (m := 1) rfl (by kernel_rfl) (r_sl (by decide) q_attr) (.nil _)))))))
theorem op_of3 {H : Type} {W : World} {r : List Value} {d : DataW H} (h : QOp3 W r d) : ∃ o : Law03_op, r = Law03_op.cells o ∧ Sli (Ro (all W)) (.slice o.LP o.L.length o.LC) (o.L.map Api_attr.cells) := by
  obtain ⟨ps, rfl, hq⟩ := h
  obtain ⟨c1, cs1, d1, ds1, rfl, rfl, g1, hq⟩ := hq.un
  obtain ⟨c2, cs2, d2, ds2, rfl, rfl, g2, hq⟩ := hq.un
  obtain ⟨c3, cs3, d3, ds3, rfl, rfl, g3, hq⟩ := hq.un
  obtain ⟨c4, cs4, d4, ds4, rfl, rfl, g4, hq⟩ := hq.un
  obtain ⟨c5, cs5, d5, ds5, rfl, rfl, g5, hq⟩ := hq.un
  obtain ⟨c6, cs6, d6, ds6, rfl, rfl, g6, hq⟩ := hq.un
  obtain ⟨c7, cs7, d7, ds7, rfl, rfl, g7, hq⟩ := hq.un
  obtain ⟨rfl, rfl⟩ := hq.un0
  obtain ⟨n1, rfl, rfl, _⟩ := g1
  obtain ⟨n2, rfl, rfl, _⟩ := g2
  obtain ⟨n3, rfl, rfl, _⟩ := g3
  obtain ⟨n4, rfl, rfl, _⟩ := g4
  obtain ⟨n5, rfl, rfl, _⟩ := g5
  obtain ⟨s6, rfl, rfl, _⟩ := g6
  obtain ⟨u, rows', ds', rfl, B⟩ := g7
  obtain ⟨q, cc, rfl, _⟩ := B.shape
  obtain ⟨xs, rfl⟩ := attrs_of fun r hr => by
    obtain ⟨e, _, hq⟩ := B.all r hr
    exact attr_of hq
  have h5 := B.sli
  rw [List.length_map] at h5
  exact ⟨⟨n1, n2, n3, n4, n5, s6, q, xs, cc⟩, by simp [Law03_op.cells], h5⟩
theorem script_of3 {H : Type} {W : World} {p : Option Addr} {c : Nat} {d : DataW H} {rows : List (List Value)} {ds : List (DataW H)} (A : ArgSl (all W) 7 (QOp3 W) (.slice p rows.length c) d rows ds) : ∃ l : List Law03_op, l.length = rows.length ∧ Scr3 (all W) p c l := by
  obtain ⟨l, rfl, hl⟩ := recs_of (enc := Law03_op.cells) (Q := fun o => Sli (Ro (all W)) (.slice o.LP o.L.length o.LC) (o.L.map Api_attr.cells)) (rows := rows) fun r hr => by
    obtain ⟨e, he, hq⟩ := A.all r hr
    exact op_of3 hq
  have h3 := A.sli
  rw [List.length_map] at h3
  exact ⟨l, by simp, h3, hl⟩
end
end Go.Proofs.Ythkmnohghpdjhaa
