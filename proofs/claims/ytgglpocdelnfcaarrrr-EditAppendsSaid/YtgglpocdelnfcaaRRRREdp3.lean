/- The walks of AddElement and AddText where nothing is refused. -/
import Derived.Test.YtgglpocdelnfcaaRRRREdp2
set_option linter.unusedVariables false
set_option linter.unusedSimpArgs false
set_option maxRecDepth 100000
namespace Go.Proofs.YtgglpocdelnfcaaRRRR
open Go Go.Hb Go.RowKit
section
variable {k : Ctx} {w : World} {s : ByteArray} {a : Nat} {A : List Node_one} {K : Int → List Int} {up : Int}
theorem el_new {nm : ByteArray} (h : ¬ tmpl 0 nm) (hs : nm.size ≤ 100) (hl : A.length ≤ 1000) (q : Option Addr) (d : Nat) : elementL A 0 nm [] q d = ((A.length : Int), 0, A ++ [blankN (elementN q d 0 nm [])]) := by
  have h2 : longB (nm :: attrTexts []) = false := by simp [longB, attrTexts]; omega
  rw [elementL, if_neg (by omega), if_neg (by simp), if_neg (fun h1 => h h1.1), if_neg (by rw [h2]; simp), if_neg (by omega), if_neg h]
set_option maxHeartbeats 1000000 in
theorem AddElement_spec (t : Tree A K) (hl : A.length ≤ 1000) (hd : InA A 0) (hu : InA A up) (hk : (nodeA A up).Kind = 1 ∨ (nodeA A up).Kind = 0 ∧ K 0 = []) (hT : TagOk s) (hO : Own k w [arenaL a A]) :
    Tri Try.prog 9 #[.pointer (some ⟨a, 0, none⟩), .string s, .int .i64 up] k w fun v m => v = .tuple #[.int .i64 (A.length : Int), .int .i64 0] ∧ ∃ q d, m = [arenaL a (linkL (A ++ [blankN (elementN q d 0 (smallT s) [])]) up A.length (-1)).2] := by
  refine enter (args := [.pointer (some ⟨a, 0, none⟩), .string s, .int .i64 up]) Try.func9 rfl rfl ?_
  have hu0 := hu.1
  have hu1 := hu.2
  have hsz := hT.size
  have hpar : parB (nodeA A up).Kind = true := by rcases hk with h | h <;> simp [parB, h]
  have hss := smallT_size s
  have hK0 : (nodeA A up).Kind = 0 → K 0 = [] := fun h0 => by
    rcases hk with h | h
    · omega
    · exact h.2
  refine K0 (K1 ?_)
  refine l_y rfl rfl (y_assign rfl) ?_
  refine l_y rfl rfl (y_assign rfl) ?_
  refine K2 (K3 (K0 (K0 (K1 ?_))))
  refine l_y rfl rfl (y_move rfl) ?_
  refine l_y rfl rfl (y_move rfl) ?_
  refine CK [.o a] hO rfl (fun k' hx hr hO' => kind_spec hu t.attrs (hO := hO')) ?_
  rintro _ _ w ⟨rfl, rfl⟩ hO
  simp only [List.cons_append, List.nil_append] at hO
  refine l_y rfl rfl (y_assign rfl) ?_
  refine K2 (K3 (K4 (K0 (K1 ?_))))
  refine l_y rfl rfl (y_move rfl) ?_
  refine CK [.o a] hO rfl (fun k' hx hr hO' => LenC_spec (by omega) (hO := hO')) ?_
  rintro _ _ w ⟨rfl, rfl⟩ hO
  simp only [List.cons_append, List.nil_append] at hO
  refine N3 (hp := (by omega)) ?_
  refine l_y rfl rfl (y_assign rfl) ?_
  refine K2 (K3 (L9 (K0 (K1 ?_))))
  refine l_y rfl rfl (y_move rfl) ?_
  refine N3 (hp := (by omega)) ?_
  refine l_y rfl rfl (y_assign rfl) ?_
  refine K2 (K3 (L9 (K0 (K1 ?_))))
  refine l_y rfl rfl (y_move rfl) ?_
  refine CK [] hO rfl (fun k' hx hr hO' => tag_spec hT (hO := hO')) ?_
  rintro _ _ w ⟨rfl, rfl⟩ hO
  simp only [List.cons_append, List.nil_append] at hO
  refine l_y rfl rfl (y_not rfl rfl) ?_
  refine l_y rfl rfl (y_assign rfl) ?_
  refine K2 (K3 (L9 (K0 (K0 (K1 ?_)))))
  refine l_y rfl rfl (y_move rfl) ?_
  refine CK [] hO rfl (fun k' hx hr hO' => eparent_spec (hO := hO')) ?_
  rintro _ _ w ⟨rfl, rfl⟩ hO
  rw [hpar]
  refine l_y rfl rfl (y_not rfl rfl) ?_
  refine l_y rfl rfl (y_assign rfl) ?_
  refine K2 (K3 (L9 (K1 ?_)))
  refine l_y rfl rfl (y_move rfl) ?_
  refine Z0 (fun h9_1 => ?_) (fun h9_1 => ?_)
  · refine l_y rfl rfl (y_move rfl) ?_
    refine l_y rfl rfl (y_move rfl) ?_
    refine CK [.o a] hO rfl (fun k' hx hr hO' => opened_spec t hd hl (hK0 h9_1) (hO := hO')) ?_
    rintro _ _ w ⟨rfl, rfl⟩ hO
    refine l_y rfl rfl (y_field (vs := [.int .i64 0, .int .i64 0, .int .i64 0, .int .i64 0]) (v := .int .i64 0) rfl (by rfl)) ?_
    refine N3 (hp := (by decide)) ?_
    refine l_y rfl rfl (y_pick_t rfl rfl) ?_
    refine l_y rfl rfl (y_assign rfl) ?_
    refine K2 (K3 (L9 (K5 (K8 (K3 (K0 (K1 ?_)))))))
    refine l_y rfl rfl (y_move rfl) ?_
    refine l_y rfl rfl (y_move rfl) ?_
    refine CK [] hO rfl (fun k' hx hr hO' => small_spec (by omega) (hO := hO')) ?_
    rintro _ _ w ⟨rfl, rfl⟩ hO
    simp only [List.cons_append, List.nil_append] at hO
    refine CK [.o a] hO rfl (fun k' hx hr hO' => Element_spec (xs := []) (by omega) (by omega) (Sli.nil rfl) (hO := hO')) ?_
    rintro _ _ w ⟨q1, d1, rfl, rfl⟩ hO
    simp only [List.cons_append, List.nil_append] at hO
    rw [el_new hT.plain (by omega) hl q1 d1] at hO ⊢
    have t1 := t.add (elementN q1 d1 0 (smallT s) []) (Nat.zero_le _)
    refine l_y rfl rfl (y_move rfl) ?_
    refine l_y rfl rfl (y_extract rfl rfl) ?_
    refine l_y rfl rfl (y_extract rfl rfl) ?_
    refine l_y rfl rfl (y_assign rfl) ?_
    refine l_y rfl rfl (y_assign rfl) ?_
    refine K2 (K3 (K0 (K0 (K1 ?_))))
    refine l_y rfl rfl (y_move rfl) ?_
    refine N4 (hp := rfl) ?_
    refine K2 (K3 (L9 (K5 (K3 (K0 (K1 ?_))))))
    refine l_y rfl rfl (y_move rfl) ?_
    refine l_y rfl rfl (y_move rfl) ?_
    refine l_y rfl rfl (y_move rfl) ?_
    refine CK [.o a] hO rfl (fun k' hx hr hO' => LinkC_spec (by simp) t1.rank t1.links (hO := hO')) ?_
    rintro _ _ w ⟨rfl, rfl⟩ hO
    simp only [List.cons_append, List.nil_append] at hO
    refine K2 (K3 (K0 (K1 ?_)))
    refine l_y rfl rfl (y_move rfl) ?_
    refine l_y rfl rfl (y_assign rfl) ?_
    refine l_y rfl rfl (y_assign rfl) ?_
    refine K2 (K3 (K6 ?_))
    exact fin2 rfl rfl rfl ⟨_, ⟨rfl, q1, d1, rfl⟩, hO.only [.o a]⟩
  · refine l_y rfl rfl (y_move rfl) ?_
    repeat refine M2 ?_
    refine l_y rfl rfl (y_pick_f rfl rfl) ?_
    refine l_y rfl rfl (y_assign rfl) ?_
    refine K2 (K3 (L9 (K5 (K8 (K3 (K0 (K1 ?_)))))))
    refine l_y rfl rfl (y_move rfl) ?_
    refine l_y rfl rfl (y_move rfl) ?_
    refine CK [] hO rfl (fun k' hx hr hO' => small_spec (by omega) (hO := hO')) ?_
    rintro _ _ w ⟨rfl, rfl⟩ hO
    simp only [List.cons_append, List.nil_append] at hO
    refine CK [.o a] hO rfl (fun k' hx hr hO' => Element_spec (xs := []) (by omega) (by omega) (Sli.nil rfl) (hO := hO')) ?_
    rintro _ _ w ⟨q1, d1, rfl, rfl⟩ hO
    simp only [List.cons_append, List.nil_append] at hO
    rw [el_new hT.plain (by omega) hl q1 d1] at hO ⊢
    have t1 := t.add (elementN q1 d1 0 (smallT s) []) (Nat.zero_le _)
    refine l_y rfl rfl (y_move rfl) ?_
    refine l_y rfl rfl (y_extract rfl rfl) ?_
    refine l_y rfl rfl (y_extract rfl rfl) ?_
    refine l_y rfl rfl (y_assign rfl) ?_
    refine l_y rfl rfl (y_assign rfl) ?_
    refine K2 (K3 (K0 (K0 (K1 ?_))))
    refine l_y rfl rfl (y_move rfl) ?_
    refine N4 (hp := rfl) ?_
    refine K2 (K3 (L9 (K5 (K3 (K0 (K1 ?_))))))
    refine l_y rfl rfl (y_move rfl) ?_
    refine l_y rfl rfl (y_move rfl) ?_
    refine l_y rfl rfl (y_move rfl) ?_
    refine CK [.o a] hO rfl (fun k' hx hr hO' => LinkC_spec (by simp) t1.rank t1.links (hO := hO')) ?_
    rintro _ _ w ⟨rfl, rfl⟩ hO
    simp only [List.cons_append, List.nil_append] at hO
    refine K2 (K3 (K0 (K1 ?_)))
    refine l_y rfl rfl (y_move rfl) ?_
    refine l_y rfl rfl (y_assign rfl) ?_
    refine l_y rfl rfl (y_assign rfl) ?_
    refine K2 (K3 (K6 ?_))
    exact fin2 rfl rfl rfl ⟨_, ⟨rfl, q1, d1, rfl⟩, hO.only [.o a]⟩
set_option maxHeartbeats 1000000 in
theorem AddText_spec (t : Tree A K) (hl : A.length ≤ 1000) (hu : InA A up) (hk : (nodeA A up).Kind = 1) (hs : s.size ≤ 100) (hO : Own k w [arenaL a A]) :
    Tri Try.prog 10 #[.pointer (some ⟨a, 0, none⟩), .string s, .int .i64 up] k w fun v m => v = .tuple #[.int .i64 (A.length : Int), .int .i64 0] ∧ m = [arenaL a (linkL (A ++ [blankN (textN s)]) up A.length (-1)).2] := by
  refine enter (args := [.pointer (some ⟨a, 0, none⟩), .string s, .int .i64 up]) Try.func10 rfl rfl ?_
  have hu0 := hu.1
  have hu1 := hu.2
  have eadd : addL A (textN s) [s] = ((A.length : Int), 0, A ++ [blankN (textN s)]) := by
    rw [addL, if_neg (by simp [longB]; omega), if_neg (by omega)]
  refine K0 (K1 ?_)
  refine l_y rfl rfl (y_assign rfl) ?_
  refine l_y rfl rfl (y_assign rfl) ?_
  refine K2 (K3 (K0 (K0 (K1 ?_))))
  refine l_y rfl rfl (y_move rfl) ?_
  refine l_y rfl rfl (y_move rfl) ?_
  refine CK [.o a] hO rfl (fun k' hx hr hO' => kind_spec hu t.attrs (hO := hO')) ?_
  rintro _ _ w ⟨rfl, rfl⟩ hO
  simp only [List.cons_append, List.nil_append] at hO
  refine l_y rfl rfl (y_assign rfl) ?_
  refine K2 (K3 (K4 (K0 (K1 ?_))))
  refine l_y rfl rfl (y_move rfl) ?_
  refine CK [.o a] hO rfl (fun k' hx hr hO' => LenC_spec (by omega) (hO := hO')) ?_
  rintro _ _ w ⟨rfl, rfl⟩ hO
  simp only [List.cons_append, List.nil_append] at hO
  refine N3 (hp := (by omega)) ?_
  refine l_y rfl rfl (y_assign rfl) ?_
  refine K2 (K3 (L9 (K0 (K1 ?_))))
  refine l_y rfl rfl (y_move rfl) ?_
  refine N3 (hp := (by omega)) ?_
  refine l_y rfl rfl (y_assign rfl) ?_
  refine K2 (K3 (L9 (K0 (K1 ?_))))
  refine l_y rfl rfl (y_move rfl) ?_
  refine l_y rfl rfl (y_lenS rfl) ?_
  refine N3 (hp := (by omega)) ?_
  refine l_y rfl rfl (y_assign rfl) ?_
  refine K2 (K3 (L9 (K0 (K1 ?_))))
  refine l_y rfl rfl (y_move rfl) ?_
  refine CK [.o a] hO rfl (fun k' hx hr hO' => LenC_spec (by omega) (hO := hO')) ?_
  rintro _ _ w ⟨rfl, rfl⟩ hO
  simp only [List.cons_append, List.nil_append] at hO
  refine N3 (hp := (by omega)) ?_
  refine l_y rfl rfl (y_assign rfl) ?_
  refine K2 (K3 (L9 (K0 (K1 ?_))))
  refine l_y rfl rfl (y_move rfl) ?_
  refine CK [] hO rfl (fun k' hx hr hO' => eparent_spec (hO := hO')) ?_
  rintro _ _ w ⟨rfl, rfl⟩ hO
  rw [show parB (nodeA A up).Kind = true by rw [hk]; rfl]
  refine l_y rfl rfl (y_not rfl rfl) ?_
  refine l_y rfl rfl (y_move rfl) ?_
  refine l_y rfl rfl (y_move rfl) ?_
  refine N3 (hp := (by omega)) ?_
  refine l_y rfl rfl (y_pick_f rfl rfl) ?_
  refine l_y rfl rfl (y_assign rfl) ?_
  refine K2 (K3 (L9 (K5 (K8 (K3 (K0 (K1 ?_)))))))
  refine l_y rfl rfl (y_move rfl) ?_
  refine l_y rfl rfl (y_move rfl) ?_
  refine CK [.o a] hO rfl (fun k' hx hr hO' => Text_spec (by omega) (by omega) (hO := hO')) ?_
  rintro _ _ w ⟨rfl, rfl⟩ hO
  simp only [List.cons_append, List.nil_append] at hO
  rw [eadd] at hO ⊢
  have t1 := t.add (textN s) (Nat.zero_le _)
  refine l_y rfl rfl (y_move rfl) ?_
  refine l_y rfl rfl (y_extract rfl rfl) ?_
  refine l_y rfl rfl (y_extract rfl rfl) ?_
  refine l_y rfl rfl (y_assign rfl) ?_
  refine l_y rfl rfl (y_assign rfl) ?_
  refine K2 (K3 (K0 (K1 ?_)))
  refine l_y rfl rfl (y_move rfl) ?_
  refine l_y rfl rfl (y_move rfl) ?_
  refine l_y rfl rfl (y_move rfl) ?_
  refine CK [.o a] hO rfl (fun k' hx hr hO' => LinkC_spec (by simp) t1.rank t1.links (hO := hO')) ?_
  rintro _ _ w ⟨rfl, rfl⟩ hO
  simp only [List.cons_append, List.nil_append] at hO
  refine K2 (K3 (K0 (K1 ?_)))
  refine l_y rfl rfl (y_move rfl) ?_
  refine l_y rfl rfl (y_assign rfl) ?_
  refine l_y rfl rfl (y_assign rfl) ?_
  refine K2 (K3 (K6 ?_))
  exact fin2 rfl rfl rfl ⟨_, ⟨rfl, rfl⟩, hO.only [.o a]⟩
end
end Go.Proofs.YtgglpocdelnfcaaRRRR
