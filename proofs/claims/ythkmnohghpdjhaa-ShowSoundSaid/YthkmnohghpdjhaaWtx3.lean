/- The walks of what is written of a tree: inner, outer. -/
import Derived.Test.YthkmnohghpdjhaaWtx2
set_option linter.unusedVariables false
set_option linter.unusedSimpArgs false
set_option maxRecDepth 100000
namespace Go.Proofs.Ythkmnohghpdjhaa
open Go Go.Hb Go.RowKit
section
variable {k : Ctx} {w : World}
/-- outer writes what outT says, of nodes of so many below -/
def OuterP (A : List Node_one) (K : Int → List Int) (a b : Nat) (sc : Bool) (f : Nat) : Prop := ∀ (k : Ctx) (w : World) (bs : List UInt8) (raw : Bool) (id : Int), InA A id → cnt A id ≤ f → bs.length + CT * cnt A id ≤ 17592186044416 → Own k w [wrtL b (some ⟨a, 0, none⟩) sc bs, arenaL a A] →
  Tri Try.prog 72 #[.pointer (some ⟨b, 0, none⟩), .int .i64 id, .bool raw] k w fun v m => m = [wrtL b (some ⟨a, 0, none⟩) sc (bs ++ outT A K sc f raw id), arenaL a A]
theorem flat_take {α β : Type} [Inhabited α] {l : List α} {g : α → List β} {i : Nat} (h : i < l.length) : (l.take (i + 1)).flatMap g = (l.take i).flatMap g ++ g (at_ l i) := by rw [take_succ_at h]; simp
theorem sum_take {l : List Int} {g : Int → Nat} {i : Nat} (h : i < l.length) : ((l.take i).map g).sum + g (at_ l i) ≤ (l.map g).sum := by
  have e : l = l.take i ++ at_ l i :: l.drop (i + 1) := by rw [← drop_at h, List.take_append_drop]
  have : (l.map g).sum = ((l.take i).map g).sum + (g (at_ l i) + ((l.drop (i + 1)).map g).sum) := by
    rw [show l.map g = (l.take i ++ at_ l i :: l.drop (i + 1)).map g from congrArg _ e]; simp
  omega
set_option maxHeartbeats 1000000 in
theorem winner_spec {A : List Node_one} {K : Int → List Int} {a b : Nat} {sc : Bool} {f : Nat} (t : TxOk A K) (hlen : A.length ≤ 32768) (ih : OuterP A K a b sc f) {bs : List UInt8} {id : Int} (hi : InA A id) (hf : cnt A id ≤ f + 1) (hb : bs.length + CT * cnt A id ≤ 17592186044416 + CT) (hO : Own k w [wrtL b (some ⟨a, 0, none⟩) sc bs, arenaL a A]) :
    Tri Try.prog 35 #[.pointer (some ⟨b, 0, none⟩), .int .i64 id] k w fun v m => m = [wrtL b (some ⟨a, 0, none⟩) sc (bs ++ innT A K sc (outT A K sc f) id), arenaL a A] := by
  refine enter (args := [.pointer (some ⟨b, 0, none⟩), .int .i64 id]) Try.func35 rfl rfl ?_
  obtain ⟨p, v, hp, hO⟩ := wrtO hO
  have hz := innerI_cnt t hi
  have hzi := innerI_in t hi
  have hkl := t.tree.len hzi
  refine K0 (K1 ?_)
  refine s_box (vs := [.pointer (some ⟨b, 0, none⟩)]) hO rfl rfl rfl (by rfl) fun b2 w hO => ?_
  refine K2 (K3 (K0 (K1 ?_)))
  refine l_y rfl rfl (D5 hO rfl) ?_
  refine l_y rfl rfl (y_nilCheck rfl rfl) ?_
  refine l_y rfl rfl (y_fldb (o' := 2) rfl) ?_
  refine l_y rfl rfl (D5 hO rfl) ?_
  refine l_y rfl rfl (y_move rfl) ?_
  refine CK [.o a] hO rfl (fun k' hx hr hO' => NodeI_spec hi t.tree.attrs (hO := hO')) ?_
  rintro _ _ w ⟨n, hn, rfl, rfl⟩ hO
  simp only [List.cons_append, List.nil_append] at hO
  refine l_y rfl rfl (y_move rfl) ?_
  refine l_y rfl rfl (y_extract rfl rfl) ?_
  refine l_y rfl rfl (y_extract rfl rfl) ?_
  refine s_alloc (vs := [.int .i64 0, .int .i64 0, .string ⟨#[]⟩, .slice none 0 0, .string ⟨#[]⟩, .string ⟨#[]⟩, .int .i64 0, .int .i64 0, .int .i64 0, .int .i64 0, .int .i64 0, .int .i64 0]) hO rfl rfl rfl fun b4 w hO => ?_
  refine Y3 hO rfl rfl (fun w hO => ?_)
  refine l_y rfl rfl (y_assign rfl) ?_
  refine K2 (K3 (K0 (K0 (K1 ?_))))
  refine l_y rfl rfl (D8 (cs := [.int .i64 n.Kind, .int .i64 n.Space, .string n.Name, .slice n.AttrsP n.Attrs.length n.AttrsC, .string n.Data, .string n.System, .int .i64 n.Parent, .int .i64 n.First, .int .i64 n.Last, .int .i64 n.Prev, .int .i64 n.Next, .int .i64 n.Inner]) hO rfl) ?_
  refine CK [] hO rfl (fun k' hx hr hO' => html0_spec (is := inL voidL) (fun k' w' hO' => wVoid_spec hO') (hO := hO')) ?_
  rintro _ _ w ⟨rfl, rfl⟩ hO
  simp only [List.cons_append, List.nil_append] at hO
  refine K2 (K3 ?_)
  refine c_split rfl (fun hc19 => ?_) (fun hc19 => ?_)
  · refine K6 (K9 ?_)
    refine fin_ret ?_
    have hO := wrtC hp (hO.ks [.b b, .o b])
    exact fin0 rfl ⟨_, by rw [innT, if_pos (by rw [voidN, ← hn.html]; exact hc19), List.append_nil], hO.only [.o b, .o a]⟩
  · refine K5 (K3 ?_)
    refine c_cut (X := Int × Api_node) (fun x => [(1, .int .i64 x.1), (2, .pointer (some ⟨b2, 0, none⟩)), (4, .pointer (some ⟨b4, 0, none⟩))]) (fun x w => Own k w [wrtB b p v (some ⟨a, 0, none⟩) sc, wrtS b v bs, arenaL a A, blk b2 73 [.pointer (some ⟨b, 0, none⟩)], blk b4 55 (Api_node.cells x.2)] ∧ (x.1 = innerI A id) ∧ (NI A x.1 x.2)) ?_ ?_
    · refine K0 (K1 ?_)
      refine l_y rfl rfl (y_fldb (o' := 11) rfl) ?_
      refine l_y rfl rfl (D5 hO rfl) ?_
      refine Z1 (fun h3_2 => ?_) (fun h3_2 => ?_)
      · have hj : n.Inner = innerI A id := by rw [innerI, if_neg (by rw [← hn.inner]; exact h3_2), hn.inner]
        refine K2 (K3 (L8 (K0 (K1 ?_))))
        refine l_y rfl rfl (y_fldb (o' := 11) rfl) ?_
        refine l_y rfl rfl (D5 hO rfl) ?_
        refine l_y rfl rfl (y_assign rfl) ?_
        refine K2 (K3 (K1 ?_))
        refine l_y rfl rfl (D5 hO rfl) ?_
        refine l_y rfl rfl (y_nilCheck rfl rfl) ?_
        refine l_y rfl rfl (y_fldb (o' := 2) rfl) ?_
        refine l_y rfl rfl (D5 hO rfl) ?_
        refine l_y rfl rfl (y_move rfl) ?_
        refine CK [.o a] hO rfl (fun k' hx hr hO' => NodeI_spec (by rw [hj]; exact hzi) t.tree.attrs (hO := hO')) ?_
        rintro _ _ w ⟨m, hm, rfl, rfl⟩ hO
        simp only [List.cons_append, List.nil_append] at hO
        refine l_y rfl rfl (y_move rfl) ?_
        refine l_y rfl rfl (y_extract rfl rfl) ?_
        refine l_y rfl rfl (y_extract rfl rfl) ?_
        refine Y3 hO rfl rfl (fun w hO => ?_)
        refine K2 ?_
        exact q_cut ((_, _)) ⟨rfl, rfl, rfl, trivial⟩ ⟨hO.only [.b b, .o b, .o a, .b b2, .b b4], hj, hm⟩
      · have hj : id = innerI A id := by rw [innerI, if_pos (by rw [← hn.inner]; exact h3_2)]
        have hm := hn
        refine K2 (K3 (L9 (K5 ?_)))
        exact q_cut ((_, _)) ⟨rfl, rfl, rfl, trivial⟩ ⟨hO.only [.b b, .o b, .o a, .b b2, .b b4], hj, hm⟩
    · rintro x w ⟨hO, hj, hm⟩
      refine K0 (K1 ?_)
      refine l_y rfl rfl (D8 (cs := [.int .i64 x.2.Kind, .int .i64 x.2.Space, .string x.2.Name, .slice x.2.AttrsP x.2.Attrs.length x.2.AttrsC, .string x.2.Data, .string x.2.System, .int .i64 x.2.Parent, .int .i64 x.2.First, .int .i64 x.2.Last, .int .i64 x.2.Prev, .int .i64 x.2.Next, .int .i64 x.2.Inner]) hO rfl) ?_
      refine l_y rfl rfl (y_makeFunc rfl rfl) ?_
      have hO := Own.shut (l := [_, _]) ((wrtC hp hO).ks [.b b2, .o b])
      refine CK [.s] hO rfl (fun k' hx hr hO' => html_spec (is := fun s => plainB s sc) (fun k' w' hO' => rawf_spec hO') (hO := hO')) ?_
      rintro _ _ w ⟨rfl, rfl⟩ hO
      simp only [List.cons_append, List.nil_append] at hO
      obtain ⟨p, v, hp, hO⟩ := wrtO (hO.open.ks [.o b, .b b2, .o a])
      refine l_y rfl rfl (y_assign rfl) ?_
      refine K2 (K3 (K0 ?_))
      have hj2 : InA A x.1 := by rw [hj]; exact hzi
      refine K1 ?_
      refine l_y rfl rfl (D5 hO rfl) ?_
      refine l_y rfl rfl (y_nilCheck rfl rfl) ?_
      refine l_y rfl rfl (y_fldb (o' := 2) rfl) ?_
      refine l_y rfl rfl (D5 hO rfl) ?_
      refine l_y rfl rfl (y_move rfl) ?_
      refine CK [.o a] hO rfl (fun k' hx hr hO' => KidsT_spec t.tree hj2 hlen (hO := hO')) ?_
      rintro _ _ w ⟨q, d, rfl, rfl⟩ hO
      simp only [List.cons_append, List.nil_append] at hO
      have hgq := (sls_fct (p := q) hO).2
      refine l_y rfl rfl (y_lenL rfl) ?_
      refine l_y rfl rfl (y_move rfl) ?_
      have hO := wrtC hp (hO.ks [.b b, .o b])
      rw [show bs = bs ++ ((K x.1).take 0).flatMap (outT A K sc f (rawN sc (nodeA A x.1))) by simp] at hO
      have hz' : ((K x.1).map (cnt A)).sum + 1 ≤ cnt A id := by rw [hj]; exact hz
      have hkl' : (K x.1).length ≤ A.length := t.tree.len hj2
      have hrw : htmlB x.2 (fun s => plainB s sc) = rawN sc (nodeA A x.1) := hm.html _
      refine K2 (K3 (K4 ?_))
      refine c_rounds (X := Nat) (fun i => [(2, .pointer (some ⟨b2, 0, none⟩)), (6, .bool (htmlB x.2 (fun s => plainB s sc))), (42, .slice q (K x.1).length d), (43, .int .i64 (((K x.1).length : Nat) : Int)), (44, .int .i64 (i : Int))]) (fun i w => Own k w [wrtL b (some ⟨a, 0, none⟩) sc (bs ++ ((K x.1).take i).flatMap (outT A K sc f (rawN sc (nodeA A x.1)))), arenaL a A, blk b2 73 [.pointer (some ⟨b, 0, none⟩)], sls q d 3 1 (eI .i64) (K x.1)] ∧ (i ≤ (K x.1).length)) (fun i => (K x.1).length - i) (0) ⟨rfl, rfl, rfl, rfl, rfl, trivial⟩ ⟨hO.only [.o b, .o a, .b b2, .p q], Nat.zero_le _⟩ ?_
      rintro i w m hm ⟨hO, hil⟩
      refine K0 (K1 ?_)
      refine Z0 (fun h8_0 => ?_) (fun h8_0 => ?_)
      · refine K2 (K3 (K0 (L8 (K5 (K3 (K0 (K4 (K0 (K1 ?_)))))))))
        refine l_y rfl rfl (y_idx rfl rfl) ?_
        refine l_y rfl rfl (y_e1 (x0 := 0) hO rfl) ?_
        refine l_y rfl rfl (y_assign rfl) ?_
        refine K2 (K3 ?_)
        have hci : InA A (at_ (K x.1) i) := (kid_up t.tree hj2 (at_mem (by omega))).1
        have h1 := sum_take (g := cnt A) (i := i) (l := K x.1) (by omega)
        have h2 := flat_len (g := outT A K sc f (rawN sc (nodeA A x.1))) (f := cnt A) (c := CT) (l := (K x.1).take i) fun y hy => outT_len t sc f _ y (kid_up t.tree hj2 (List.mem_of_mem_take hy)).1
        have h3 : CT * (((K x.1).take i).map (cnt A)).sum + CT * cnt A (at_ (K x.1) i) + CT ≤ CT * cnt A id := by
          rw [← Nat.mul_add]; have := Nat.mul_le_mul_left CT (show (((K x.1).take i).map (cnt A)).sum + cnt A (at_ (K x.1) i) + 1 ≤ cnt A id by omega); rw [Nat.mul_add] at this; omega
        refine K1 ?_
        refine l_y rfl rfl (D5 hO rfl) ?_
        refine l_y rfl rfl (y_move rfl) ?_
        refine l_y rfl rfl (y_move rfl) ?_
        rw [hrw]
        refine CK [.o b, .o a] hO rfl (fun k' hx hr hO' => ih k' _ _ _ (at_ (K x.1) i) hci (by omega) (by rw [List.length_append]; omega) hO') ?_
        rintro _ _ w rfl hO
        simp only [List.cons_append, List.nil_append] at hO
        rw [List.append_assoc, ← flat_take (show i < (K x.1).length by omega)] at hO
        refine K2 (K8 (K3 (K1 ?_)))
        refine l_y rfl rfl (D4) ?_
        refine l_y rfl rfl (y_move rfl) ?_
        refine K2 ?_
        exact q_next (i + 1) ⟨rfl, rfl, rfl, rfl, rfl, trivial⟩ ⟨hO.only [.o b, .o a, .b b2, .p q], by omega⟩ (by omega)
      · refine K2 (K3 (K0 (L9 (K7 (L1 (L1 (L2 ?_)))))))
        have e : i = (K x.1).length := by omega
        rw [e, List.take_length] at hO
        exact fin0 rfl ⟨_, by rw [innT, if_neg (by rw [voidN, ← hn.html, hc19]; simp), ← hj], hO.only [.o b, .o a]⟩
end
end Go.Proofs.Ythkmnohghpdjhaa
