/- The walks of what is written of a tree: outer. -/
import Derived.Test.YthkmnohghpdjhaaWtx3
set_option linter.unusedVariables false
set_option linter.unusedSimpArgs false
set_option maxRecDepth 100000
namespace Go.Proofs.Ythkmnohghpdjhaa
open Go Go.Hb Go.RowKit
theorem z1 (a : UInt8) : (⟨#[a]⟩ : ByteArray).size = 1 := rfl
theorem z2 (a b : UInt8) : (⟨#[a, b]⟩ : ByteArray).size = 2 := rfl
theorem z3 (a b c : UInt8) : (⟨#[a, b, c]⟩ : ByteArray).size = 3 := rfl
theorem z4 (a b c d : UInt8) : (⟨#[a, b, c, d]⟩ : ByteArray).size = 4 := rfl
theorem z10 (a b c d e f g h i j : UInt8) : (⟨#[a, b, c, d, e, f, g, h, i, j]⟩ : ByteArray).size = 10 := rfl
section
variable {k : Ctx} {w : World}
def escB (b : Bool) (s : ByteArray) : ByteArray := ⟨(esc b s.data.toList).toArray⟩
theorem EscB_spec {s : ByteArray} {attr : Bool} (hs : s.size ≤ 100000000) (hO : Own k w []) : Tri Try.prog 14 #[.string s, .bool attr] k w fun r m => r = .string (escB attr s) ∧ m = [] := Escape_spec k w s attr hs hO
theorem escB_size (b : Bool) (s : ByteArray) : (escB b s).size ≤ 6 * s.size := by
  have := esc_len b (tl s); rw [tl_len] at this
  rw [show (escB b s).size = (esc b (tl s)).length from ba_size _]; exact this
theorem tl_escB (b : Bool) (s : ByteArray) : tl (escB b s) = esc b (tl s) := tl_ba _
def preT (n : Api_node) (i : Nat) : List UInt8 := [60] ++ tl n.Name ++ attrsT (n.Attrs.take i)
theorem preT_0 (n : Api_node) : (⟨#[60]⟩ ++ n.Name : ByteArray).data.toList = preT n 0 := by
  rw [show (⟨#[60]⟩ ++ n.Name : ByteArray).data.toList = tl (⟨#[60]⟩ ++ n.Name) from rfl, tl_app]; simp [tl, attrsT, preT]
theorem preT_succ {n : Api_node} {i : Nat} (hi : i < n.Attrs.length) : preT n (i + 1) = preT n i ++ (⟨#[32]⟩ ++ shownS (at_ n.Attrs i) ++ ⟨#[61, 34]⟩ ++ escB true (at_ n.Attrs i).Value ++ ⟨#[34]⟩ : ByteArray).data.toList := by
  rw [preT, preT, attrsT, attrsT, flat_take hi, attrT, show (⟨#[32]⟩ ++ shownS (at_ n.Attrs i) ++ ⟨#[61, 34]⟩ ++ escB true (at_ n.Attrs i).Value ++ ⟨#[34]⟩ : ByteArray).data.toList = tl (⟨#[32]⟩ ++ shownS (at_ n.Attrs i) ++ ⟨#[61, 34]⟩ ++ escB true (at_ n.Attrs i).Value ++ ⟨#[34]⟩) from rfl, tl_app, tl_app, tl_app, tl_app, tl_escB]
  simp [tl]
theorem preT_all (n : Api_node) : preT n n.Attrs.length = openT n := by rw [preT, openT, List.take_length]
set_option maxHeartbeats 4000000 in
theorem wouter_spec {A : List Node_one} {K : Int → List Int} {a b : Nat} {sc : Bool} {f : Nat} (t : TxOk A K) (hlen : A.length ≤ 32768) (ih : OuterP A K a b sc f) {bs : List UInt8} {raw : Bool} {id : Int} (hi : InA A id) (hf : cnt A id ≤ f + 1) (hb : bs.length + CT * cnt A id ≤ 17592186044416) (hO : Own k w [wrtL b (some ⟨a, 0, none⟩) sc bs, arenaL a A]) :
    Tri Try.prog 72 #[.pointer (some ⟨b, 0, none⟩), .int .i64 id, .bool raw] k w fun v m => m = [wrtL b (some ⟨a, 0, none⟩) sc (bs ++ outT A K sc (f + 1) raw id), arenaL a A] := by
  refine enterD (args := [.pointer (some ⟨b, 0, none⟩), .int .i64 id, .bool raw]) Try.func72 rfl rfl ?_
  obtain ⟨p, v, hp, hO⟩ := wrtO hO
  have hx := t.text id hi
  have hla := t.tree.attrs id.toNat (by have := hi.1; have := hi.2; omega)
  have hc1 := cnt_pos hi
  have hm : CT * 1 ≤ CT * cnt A id := Nat.mul_le_mul_left _ hc1
  have hCT : CT = 8589934592 := rfl
  have ho1 := openT_len hx hla
  refine K0 (K1 ?_)
  refine l_y rfl rfl (y_move rfl) ?_
  refine l_y rfl rfl (y_nilCheck rfl rfl) ?_
  refine l_y rfl rfl (y_fldb (o' := 2) rfl) ?_
  refine l_y rfl rfl (D5 hO rfl) ?_
  refine l_y rfl rfl (y_move rfl) ?_
  refine CK [.o a] hO rfl (fun k' hx hr hO' => NodeI_spec hi t.tree.attrs (hO := hO')) ?_
  rintro _ _ w ⟨n, hn, rfl, rfl⟩ hO
  simp only [List.cons_append, List.nil_append] at hO
  have hO := wrtC hp (hO.ks [.b b, .o b])
  have hnd : n.Data.size ≤ 1048576 := by rw [hn.data]; exact hx.data
  have hnn : n.Name.size ≤ 1048576 := by rw [hn.name]; exact hx.name
  have hna : longB (attrTexts n.Attrs) = false := by rw [hn.attrs]; exact hx.attrs
  have hnl : n.Attrs.length ≤ 1024 := by rw [hn.attrs]; exact hla
  have hop : openT n = openT (nodeA A id) := by rw [openT, openT, hn.name, hn.attrs]
  have hen : endT n = endT (nodeA A id) := by rw [endT, endT, hn.name]
  have hgn := (sls_fct (p := n.AttrsP) hO).2
  refine l_y rfl rfl (y_move rfl) ?_
  refine l_y rfl rfl (y_extract rfl rfl) ?_
  refine l_y rfl rfl (y_extract rfl rfl) ?_
  refine s_alloc (vs := [.int .i64 0, .int .i64 0, .string ⟨#[]⟩, .slice none 0 0, .string ⟨#[]⟩, .string ⟨#[]⟩, .int .i64 0, .int .i64 0, .int .i64 0, .int .i64 0, .int .i64 0, .int .i64 0]) hO rfl rfl rfl fun b6 w hO => ?_
  refine Y3 hO rfl rfl (fun w hO => ?_)
  refine l_y rfl rfl (y_assign rfl) ?_
  refine K2 (K3 (K0 (K1 ?_)))
  refine l_y rfl rfl (y_fldb (o' := 0) rfl) ?_
  refine l_y rfl rfl (D5 hO rfl) ?_
  refine K2 (K3 (K4 (K0 (K1 ?_))))
  refine Z0 (fun h2_0 => ?_) (fun h2_0 => ?_)
  · refine l_y rfl rfl (y_assign rfl) ?_
    refine K2 (K3 (L8 (K0 (K0 (K1 ?_)))))
    refine l_y rfl rfl (y_move rfl) ?_
    refine l_y rfl rfl (y_not rfl rfl) ?_
    refine K2 (K3 ?_)
    refine c_split rfl (fun hc24 => ?_) (fun hc24 => ?_)
    · simp only [Bool.not_eq_true', Bool.not_eq_false'] at hc24
      refine K1 ?_
      refine l_y rfl rfl (y_fldb (o' := 4) rfl) ?_
      refine l_y rfl rfl (D5 hO rfl) ?_
      have hel := escB_size false n.Data
      refine CK [] hO rfl (fun k' hx hr hO' => EscB_spec (by omega) hO') ?_
      rintro _ _ w ⟨rfl, rfl⟩ hO
      simp only [List.cons_append, List.nil_append] at hO
      refine l_y rfl rfl (y_fldb (o' := 4) rfl) ?_
      refine Y1 hO rfl rfl (fun w hO => ?_)
      have hO : Own k w [blk b6 55 (Api_node.cells { n with Data := escB false n.Data }), wrtL b _ sc bs, arenaL a A, _] := hO
      refine K2 (K3 ?_)
      refine da_regM ?_
      have hO := hO.drew
      refine da_phase _ [5] (SO.ks [.b b6] hO) ?_
      refine dx_u 0 (by kernel_rfl) rfl rfl rfl (fun w => y_move rfl) ?_
      refine dx_u 1 (by kernel_rfl) rfl rfl rfl (fun w => y_nilCheck rfl rfl) ?_
      refine dx_u 2 (by kernel_rfl) rfl rfl rfl (fun w => y_fldb (o' := 0) rfl) ?_
      refine dx_u 3 (by kernel_rfl) rfl rfl rfl (fun w => y_fldb (o' := 4) rfl) ?_
      refine dx_y 4 (by kernel_rfl) rfl rfl rfl (fun w ⟨m, hw⟩ => D5 hw rfl) ?_
      refine dx_close 5 (by kernel_rfl) rfl rfl ?_
      refine CK [.o b] hO rfl (fun k' hx hr hO' => wWriteString_spec (by first | omega | (show bs.length + (escB false n.Data).size ≤ _; omega)) hO') ?_
      rintro _ _ w ⟨rfl, rfl⟩ hO
      simp only [List.cons_append, List.nil_append] at hO
      refine o_done ?_
      refine da_end (by kernel_rfl) (q_nopan ?_)
      refine K8 ?_
      refine finD_n ?_
      have e : outT A K sc (f + 1) raw id = (escB false n.Data).data.toList := by
        rw [outT, if_pos (by rw [← hn.kind]; exact h2_0), hc24, if_neg (by simp), ← hn.data]; exact (tl_escB _ _).symm
      exact finD0 (fin_ret (fin0 rfl ⟨_, by rw [e], hO.only [.o b, .o a]⟩))
    · simp only [Bool.not_eq_true', Bool.not_eq_false'] at hc24
      refine K5 (K3 ?_)
      refine da_regM ?_
      have hO := hO.drew
      refine da_phase _ [5] (SO.ks [.b b6] hO) ?_
      refine dx_u 0 (by kernel_rfl) rfl rfl rfl (fun w => y_move rfl) ?_
      refine dx_u 1 (by kernel_rfl) rfl rfl rfl (fun w => y_nilCheck rfl rfl) ?_
      refine dx_u 2 (by kernel_rfl) rfl rfl rfl (fun w => y_fldb (o' := 0) rfl) ?_
      refine dx_u 3 (by kernel_rfl) rfl rfl rfl (fun w => y_fldb (o' := 4) rfl) ?_
      refine dx_y 4 (by kernel_rfl) rfl rfl rfl (fun w ⟨m, hw⟩ => D5 hw rfl) ?_
      refine dx_close 5 (by kernel_rfl) rfl rfl ?_
      refine CK [.o b] hO rfl (fun k' hx hr hO' => wWriteString_spec (by first | omega | (show bs.length + (escB false n.Data).size ≤ _; omega)) hO') ?_
      rintro _ _ w ⟨rfl, rfl⟩ hO
      simp only [List.cons_append, List.nil_append] at hO
      refine o_done ?_
      refine da_end (by kernel_rfl) (q_nopan ?_)
      refine K8 ?_
      refine finD_n ?_
      have e : outT A K sc (f + 1) raw id = n.Data.data.toList := by
        rw [outT, if_pos (by rw [← hn.kind]; exact h2_0), hc24, if_pos rfl, ← hn.data]
      exact finD0 (fin_ret (fin0 rfl ⟨_, by rw [e], hO.only [.o b, .o a]⟩))
  · refine l_y rfl rfl (y_assign rfl) ?_
    refine K2 (K3 (L9 (K0 (K1 ?_))))
    refine Z0 (fun h6_0 => ?_) (fun h6_0 => ?_)
    · refine l_y rfl rfl (y_assign rfl) ?_
      refine K2 (K3 (L8 ?_))
      refine da_regM ?_
      have hO := hO.drew
      refine da_phase _ [7] (SO.ks [.b b6] hO) ?_
      refine dx_u 0 (by kernel_rfl) rfl rfl rfl (fun w => y_move rfl) ?_
      refine dx_u 1 (by kernel_rfl) rfl rfl rfl (fun w => y_nilCheck rfl rfl) ?_
      refine dx_u 2 (by kernel_rfl) rfl rfl rfl (fun w => y_fldb (o' := 0) rfl) ?_
      refine dx_u 3 (by kernel_rfl) rfl rfl rfl (fun w => y_fldb (o' := 4) rfl) ?_
      refine dx_y 4 (by kernel_rfl) rfl rfl rfl (fun w ⟨m, hw⟩ => D5 hw rfl) ?_
      refine dx_y 5 (by kernel_rfl) rfl rfl rfl (fun w ⟨m, hw⟩ => y_catS rfl rfl (by simp only [z4]; omega)) ?_
      refine dx_y 6 (by kernel_rfl) rfl rfl rfl (fun w ⟨m, hw⟩ => y_catS rfl rfl (by simp only [ByteArray.size_append, z4, z3]; omega)) ?_
      refine dx_close 7 (by kernel_rfl) rfl rfl ?_
      refine CK [.o b] hO rfl (fun k' hx hr hO' => wWriteString_spec (by simp only [ByteArray.size_append, z4, z3]; omega) hO') ?_
      rintro _ _ w ⟨rfl, rfl⟩ hO
      simp only [List.cons_append, List.nil_append] at hO
      refine o_done ?_
      refine da_end (by kernel_rfl) (q_nopan ?_)
      refine K8 ?_
      refine finD_n ?_
      have e : outT A K sc (f + 1) raw id = (⟨#[60, 33, 45, 45]⟩ ++ n.Data ++ ⟨#[45, 45, 62]⟩ : ByteArray).data.toList := by
        rw [outT, if_neg (by rw [← hn.kind]; exact h2_0), if_pos (by rw [← hn.kind]; exact h6_0), ← hn.data, show (⟨#[60, 33, 45, 45]⟩ ++ n.Data ++ ⟨#[45, 45, 62]⟩ : ByteArray).data.toList = tl (⟨#[60, 33, 45, 45]⟩ ++ n.Data ++ ⟨#[45, 45, 62]⟩) from rfl, tl_app, tl_app]
      exact finD0 (fin_ret (fin0 rfl ⟨_, by rw [e], hO.only [.o b, .o a]⟩))
    · refine l_y rfl rfl (y_assign rfl) ?_
      refine K2 (K3 (L9 (K0 (K1 ?_))))
      refine Z0 (fun h8_0 => ?_) (fun h8_0 => ?_)
      · refine l_y rfl rfl (y_assign rfl) ?_
        refine K2 (K3 (L8 ?_))
        refine da_regM ?_
        have hO := hO.drew
        refine da_phase _ [7] (SO.ks [.b b6] hO) ?_
        refine dx_u 0 (by kernel_rfl) rfl rfl rfl (fun w => y_move rfl) ?_
        refine dx_u 1 (by kernel_rfl) rfl rfl rfl (fun w => y_nilCheck rfl rfl) ?_
        refine dx_u 2 (by kernel_rfl) rfl rfl rfl (fun w => y_fldb (o' := 0) rfl) ?_
        refine dx_u 3 (by kernel_rfl) rfl rfl rfl (fun w => y_fldb (o' := 2) rfl) ?_
        refine dx_y 4 (by kernel_rfl) rfl rfl rfl (fun w ⟨m, hw⟩ => D5 hw rfl) ?_
        refine dx_y 5 (by kernel_rfl) rfl rfl rfl (fun w ⟨m, hw⟩ => y_catS rfl rfl (by simp only [z10]; omega)) ?_
        refine dx_y 6 (by kernel_rfl) rfl rfl rfl (fun w ⟨m, hw⟩ => y_catS rfl rfl (by simp only [ByteArray.size_append, z10, z1]; omega)) ?_
        refine dx_close 7 (by kernel_rfl) rfl rfl ?_
        refine CK [.o b] hO rfl (fun k' hx hr hO' => wWriteString_spec (by simp only [ByteArray.size_append, z10, z1]; omega) hO') ?_
        rintro _ _ w ⟨rfl, rfl⟩ hO
        simp only [List.cons_append, List.nil_append] at hO
        refine o_done ?_
        refine da_end (by kernel_rfl) (q_nopan ?_)
        refine K8 ?_
        refine finD_n ?_
        have e : outT A K sc (f + 1) raw id = (⟨#[60, 33, 68, 79, 67, 84, 89, 80, 69, 32]⟩ ++ n.Name ++ ⟨#[62]⟩ : ByteArray).data.toList := by
          rw [outT, if_neg (by rw [← hn.kind]; exact h2_0), if_neg (by rw [← hn.kind]; exact h6_0), if_pos (by rw [← hn.kind]; exact h8_0), ← hn.name, show (⟨#[60, 33, 68, 79, 67, 84, 89, 80, 69, 32]⟩ ++ n.Name ++ ⟨#[62]⟩ : ByteArray).data.toList = tl (⟨#[60, 33, 68, 79, 67, 84, 89, 80, 69, 32]⟩ ++ n.Name ++ ⟨#[62]⟩) from rfl, tl_app, tl_app]
        exact finD0 (fin_ret (fin0 rfl ⟨_, by rw [e], hO.only [.o b, .o a]⟩))
      · refine l_y rfl rfl (y_assign rfl) ?_
        refine K2 (K3 (L9 (K0 (K1 ?_))))
        refine Z0 (fun h10_0 => ?_) (fun h10_0 => ?_)
        · refine l_y rfl rfl (y_assign rfl) ?_
          refine K2 (K3 (L8 (K0 ?_)))
          refine da_regM ?_
          have hO := hO.drew
          refine da_phase _ [6] (SO.ks [.b b6] hO) ?_
          refine dx_u 0 (by kernel_rfl) rfl rfl rfl (fun w => y_move rfl) ?_
          refine dx_u 1 (by kernel_rfl) rfl rfl rfl (fun w => y_nilCheck rfl rfl) ?_
          refine dx_u 2 (by kernel_rfl) rfl rfl rfl (fun w => y_fldb (o' := 0) rfl) ?_
          refine dx_u 3 (by kernel_rfl) rfl rfl rfl (fun w => y_fldb (o' := 2) rfl) ?_
          refine dx_y 4 (by kernel_rfl) rfl rfl rfl (fun w ⟨m, hw⟩ => D5 hw rfl) ?_
          refine dx_y 5 (by kernel_rfl) rfl rfl rfl (fun w ⟨m, hw⟩ => y_catS rfl rfl (by simp only [z1]; omega)) ?_
          refine dx_close 6 (by kernel_rfl) rfl rfl ?_
          refine CK [.o b] hO rfl (fun k' hx hr hO' => wWriteString_spec (by simp only [ByteArray.size_append, z1]; omega) hO') ?_
          rintro _ _ w ⟨rfl, rfl⟩ hO
          simp only [List.cons_append, List.nil_append] at hO
          rw [preT_0] at hO
          refine o_done ?_
          refine da_end (by kernel_rfl) (q_nopan ?_)
          refine K3 (K0 (K0 (K1 ?_)))
          refine l_y rfl rfl (y_fldb (o' := 3) rfl) ?_
          refine l_y rfl rfl (D5 hO rfl) ?_
          refine l_y rfl rfl (y_lenL rfl) ?_
          refine l_y rfl rfl (y_move rfl) ?_
          refine K2 (K3 (K4 ?_))
          refine c_rounds (X := Nat) (fun i => [(0, .pointer (some ⟨b, 0, none⟩)), (1, .int .i64 id), (6, .pointer (some ⟨b6, 0, none⟩)), (65, .slice n.AttrsP n.Attrs.length n.AttrsC), (66, .int .i64 ((n.Attrs.length : Nat) : Int)), (67, .int .i64 (i : Int))]) (fun i w => Own k w [wrtL b (some ⟨a, 0, none⟩) sc (bs ++ preT n i), arenaL a A, blk b6 55 (Api_node.cells n), sls n.AttrsP n.AttrsC 63 4 Api_attr.cells n.Attrs] ∧ (i ≤ n.Attrs.length)) (fun i => n.Attrs.length - i) (0) ⟨rfl, rfl, rfl, rfl, rfl, rfl, trivial⟩ ⟨hO.only [.o b, .o a, .b b6, .p n.AttrsP], Nat.zero_le _⟩ ?_
          rintro i w m hm ⟨hO, hil⟩
          refine K0 (K1 ?_)
          refine Z0 (fun h13_0 => ?_) (fun h13_0 => ?_)
          · refine K2 (K3 (K0 (L8 (K5 (K3 (K0 (K4 (K0 ?_))))))))
            have hxa : longB [(at_ n.Attrs i).Prefix, (at_ n.Attrs i).Name, (at_ n.Attrs i).Value] = false := by
              have e : attrTexts n.Attrs = attrTexts (n.Attrs.take i) ++ ([(at_ n.Attrs i).Prefix, (at_ n.Attrs i).Name, (at_ n.Attrs i).Value] ++ attrTexts (n.Attrs.drop (i + 1))) := by
                have e2 : n.Attrs = n.Attrs.take i ++ at_ n.Attrs i :: n.Attrs.drop (i + 1) := by rw [← drop_at (by omega), List.take_append_drop]
                rw [show attrTexts n.Attrs = attrTexts (n.Attrs.take i ++ at_ n.Attrs i :: n.Attrs.drop (i + 1)) from congrArg _ e2]
                simp [attrTexts]
              rw [e, long_app, long_app, Bool.or_eq_false_iff, Bool.or_eq_false_iff] at hna
              exact hna.2.1
            have hxn := long_mem (s := (at_ n.Attrs i).Name) hxa (by simp)
            have hxv := long_mem (s := (at_ n.Attrs i).Value) hxa (by simp)
            have hxs := shownS_len (at_ n.Attrs i)
            have hxe := escB_size true (at_ n.Attrs i).Value
            have hpre : (attrsT (n.Attrs.take i)).length ≤ 7340042 * 1024 := by
              have h1 := attrsT_len (l := n.Attrs.take i) (by
                have e2 : n.Attrs = n.Attrs.take i ++ n.Attrs.drop i := by rw [List.take_append_drop]
                rw [show attrTexts n.Attrs = attrTexts (n.Attrs.take i ++ n.Attrs.drop i) from congrArg _ e2, attrTexts, List.flatMap_append, long_app, Bool.or_eq_false_iff] at hna
                exact hna.1)
              have h2 : (n.Attrs.take i).length ≤ 1024 := by rw [List.length_take]; omega
              have := Nat.mul_le_mul_left 7340042 h2
              omega
            have htn := tl_len n.Name
            have hprl : (preT n i).length = 1 + n.Name.size + (attrsT (n.Attrs.take i)).length := by simp only [preT, List.length_append, List.length_cons, List.length_nil]; omega
            refine K1 ?_
            refine l_y rfl rfl (y_idx rfl rfl) ?_
            refine l_y rfl rfl (y_eA (x0 := 0) (cs := [.int .i64 (at_ n.Attrs ((i : Int) : Int).toNat).Space, .string (at_ n.Attrs ((i : Int) : Int).toNat).Prefix, .string (at_ n.Attrs ((i : Int) : Int).toNat).Name, .string (at_ n.Attrs ((i : Int) : Int).toNat).Value]) hO rfl) ?_
            refine s_alloc (vs := [.int .i64 0, .string ⟨#[]⟩, .string ⟨#[]⟩, .string ⟨#[]⟩]) hO rfl rfl rfl fun b9 w hO => ?_
            refine Y3 hO rfl rfl (fun w hO => ?_)
            refine K2 (K3 ?_)
            refine da_regM ?_
            have hO := hO.drew
            refine da_phase _ [12] (SO.ks [.b b9] hO) ?_
            refine dx_u 0 (by kernel_rfl) rfl rfl rfl (fun w => y_move rfl) ?_
            refine dx_u 1 (by kernel_rfl) rfl rfl rfl (fun w => y_nilCheck rfl rfl) ?_
            refine dx_u 2 (by kernel_rfl) rfl rfl rfl (fun w => y_fldb (o' := 0) rfl) ?_
            refine dx_y 3 (by kernel_rfl) rfl rfl rfl (fun w ⟨m, hw⟩ => D8 (cs := [.int .i64 (at_ n.Attrs ((i : Int) : Int).toNat).Space, .string (at_ n.Attrs ((i : Int) : Int).toNat).Prefix, .string (at_ n.Attrs ((i : Int) : Int).toNat).Name, .string (at_ n.Attrs ((i : Int) : Int).toNat).Value]) hw rfl) ?_
            refine dx_u 7 (by kernel_rfl) rfl rfl rfl (fun w => y_fldb (o' := 3) rfl) ?_
            refine dx_y 8 (by kernel_rfl) rfl rfl rfl (fun w ⟨m, hw⟩ => D5 hw rfl) ?_
            refine dx_only 4 (by kernel_rfl) rfl rfl ?_
            refine CK [] hO rfl (fun k' hx hr hO' => shown_spec (x := at_ n.Attrs i) (by omega) (hO := hO')) ?_
            rintro _ _ w ⟨rfl, rfl⟩ hO
            simp only [List.cons_append, List.nil_append] at hO
            refine o_done ?_
            refine ⟨SO.ks [.b b9] hO, ?_⟩
            refine dx_y 5 (by kernel_rfl) rfl rfl rfl (fun w ⟨m, hw⟩ => y_catS rfl rfl (by simp only [z1]; omega)) ?_
            refine dx_y 6 (by kernel_rfl) rfl rfl rfl (fun w ⟨m, hw⟩ => y_catS rfl rfl (by simp only [ByteArray.size_append, z1, z2]; omega)) ?_
            refine dx_only 9 (by kernel_rfl) rfl rfl ?_
            refine CK [] hO rfl (fun k' hx hr hO' => EscB_spec (s := (at_ n.Attrs i).Value) (by omega) hO') ?_
            rintro _ _ w ⟨rfl, rfl⟩ hO
            simp only [List.cons_append, List.nil_append] at hO
            refine o_done ?_
            refine ⟨SO.ks [.b b9] hO, ?_⟩
            refine dx_y 10 (by kernel_rfl) rfl rfl rfl (fun w ⟨m, hw⟩ => y_catS rfl rfl (by simp only [ByteArray.size_append, z1, z2]; omega)) ?_
            refine dx_y 11 (by kernel_rfl) rfl rfl rfl (fun w ⟨m, hw⟩ => y_catS rfl rfl (by simp only [ByteArray.size_append, z1, z2]; omega)) ?_
            refine dx_close 12 (by kernel_rfl) rfl rfl ?_
            refine CK [.o b] hO rfl (fun k' hx hr hO' => wWriteString_spec (by simp only [ByteArray.size_append, z1, z2, List.length_append, List.length_cons, List.length_nil]; omega) hO') ?_
            rintro _ _ w ⟨rfl, rfl⟩ hO
            simp only [List.cons_append, List.nil_append] at hO
            rw [List.append_assoc, ← preT_succ (show i < n.Attrs.length by omega)] at hO
            refine o_done ?_
            refine da_end (by kernel_rfl) (q_nopan ?_)
            refine K8 (K3 (K1 ?_))
            refine l_y rfl rfl (D4) ?_
            refine l_y rfl rfl (y_move rfl) ?_
            refine K2 ?_
            exact q_next (i + 1) ⟨rfl, rfl, rfl, rfl, rfl, rfl, trivial⟩ ⟨hO.only [.o b, .o a, .b b6, .p n.AttrsP], by omega⟩ (by omega)
          · refine K2 (K3 (K0 (L9 (K7 (L1 (L1 (L2 (K3 (K0 ?_)))))))))
            have ei : i = n.Attrs.length := by omega
            rw [ei, preT_all, hop] at hO
            refine K1 ?_
            refine l_y rfl rfl (y_move rfl) ?_
            refine l_y rfl rfl (y_nilCheck rfl rfl) ?_
            refine l_y rfl rfl (y_fldb (o' := 0) rfl) ?_
            refine CK [.o b] hO rfl (fun k' hx hr hO' => wWriteString_spec (by simp only [z1, List.length_append]; omega) hO') ?_
            rintro _ _ w ⟨rfl, rfl⟩ hO
            simp only [List.cons_append, List.nil_append] at hO
            rw [show bs ++ openT (nodeA A id) ++ (⟨#[62]⟩ : ByteArray).data.toList = bs ++ (openT (nodeA A id) ++ [62]) by simp] at hO
            refine K2 (K3 (K0 (K0 (K1 ?_))))
            refine l_y rfl rfl (D8 (cs := [.int .i64 n.Kind, .int .i64 n.Space, .string n.Name, .slice n.AttrsP n.Attrs.length n.AttrsC, .string n.Data, .string n.System, .int .i64 n.Parent, .int .i64 n.First, .int .i64 n.Last, .int .i64 n.Prev, .int .i64 n.Next, .int .i64 n.Inner]) hO rfl) ?_
            refine CK [] hO rfl (fun k' hx hr hO' => html0_spec (is := inL voidL) (fun k' w' hO' => wVoid_spec hO') (hO := hO')) ?_
            rintro _ _ w ⟨rfl, rfl⟩ hO
            simp only [List.cons_append, List.nil_append] at hO
            refine K2 (K3 ?_)
            refine c_split rfl (fun hc90 => ?_) (fun hc90 => ?_)
            · refine K6 (K9 (L0 ?_))
              have e : outT A K sc (f + 1) raw id = openT (nodeA A id) ++ [62] := by
                rw [outT, if_neg (by rw [← hn.kind]; exact h2_0), if_neg (by rw [← hn.kind]; exact h6_0), if_neg (by rw [← hn.kind]; exact h8_0), if_pos (by rw [← hn.kind]; exact h10_0), if_pos (by rw [voidN, ← hn.html]; exact hc90), List.append_nil]
              exact finD0 (fin_ret (fin0 rfl ⟨_, by rw [e], hO.only [.o b, .o a]⟩))
            · refine K5 (K3 (K0 ?_))
              refine da_regM ?_
              have hO := hO.drew
              refine da_phase _ [7] (SO.ks [.b b6] hO) ?_
              refine dx_u 0 (by kernel_rfl) rfl rfl rfl (fun w => y_move rfl) ?_
              refine dx_u 1 (by kernel_rfl) rfl rfl rfl (fun w => y_nilCheck rfl rfl) ?_
              refine dx_u 2 (by kernel_rfl) rfl rfl rfl (fun w => y_fldb (o' := 0) rfl) ?_
              refine dx_u 3 (by kernel_rfl) rfl rfl rfl (fun w => y_fldb (o' := 2) rfl) ?_
              refine dx_y 4 (by kernel_rfl) rfl rfl rfl (fun w ⟨m, hw⟩ => D5 hw rfl) ?_
              refine dx_y 5 (by kernel_rfl) rfl rfl rfl (fun w ⟨m, hw⟩ => y_catS rfl rfl (by simp only [z2]; omega)) ?_
              refine dx_y 6 (by kernel_rfl) rfl rfl rfl (fun w ⟨m, hw⟩ => y_catS rfl rfl (by simp only [ByteArray.size_append, z2, z1]; omega)) ?_
              refine dx_defer 7 (by kernel_rfl) rfl rfl (by kernel_rfl) rfl rfl (x_defer rfl) (q_nopan ?_)
              refine K3 (K1 ?_)
              refine l_y rfl rfl (y_move rfl) ?_
              refine l_y rfl rfl (y_move rfl) ?_
              refine CK [.o b, .o a] hO rfl (fun k' hx hr hO' => winner_spec t hlen ih hi hf (by simp only [List.length_append, List.length_cons, List.length_nil]; omega) hO') ?_
              rintro _ _ w rfl hO
              simp only [List.cons_append, List.nil_append] at hO
              refine K2 (K8 ?_)
              refine finD_n ?_
              have e : outT A K sc (f + 1) raw id = openT (nodeA A id) ++ [62] ++ (innT A K sc (outT A K sc f) id ++ endT (nodeA A id)) := by
                rw [outT, if_neg (by rw [← hn.kind]; exact h2_0), if_neg (by rw [← hn.kind]; exact h6_0), if_neg (by rw [← hn.kind]; exact h8_0), if_pos (by rw [← hn.kind]; exact h10_0), if_neg (by rw [voidN, ← hn.html, hc90]; simp)]
              have hil2 := innT_len t sc f hi
              refine finDK [.o b] hO (fun k' hx hr hO' => (wWriteString_both (by simp only [ByteArray.size_append, z2, z1, List.length_append, List.length_cons, List.length_nil]; omega) hO').2) ?_
              rintro _ _ w ⟨rfl, rfl⟩ hO
              simp only [List.cons_append, List.nil_append] at hO
              refine fin_ret (fin0 rfl ⟨_, ?_, hO.only [.o b, .o a]⟩)
              rw [e, ← hen, endT, show (⟨#[60, 47]⟩ ++ n.Name ++ ⟨#[62]⟩ : ByteArray).data.toList = tl (⟨#[60, 47]⟩ ++ n.Name ++ ⟨#[62]⟩) from rfl, tl_app, tl_app]
              simp [tl]
        · refine l_y rfl rfl (y_assign rfl) ?_
          refine K2 (K3 (L9 (K5 (K8 ?_))))
          refine finD_n ?_
          have e : outT A K sc (f + 1) raw id = [] := by
            rw [outT, if_neg (by rw [← hn.kind]; exact h2_0), if_neg (by rw [← hn.kind]; exact h6_0), if_neg (by rw [← hn.kind]; exact h8_0), if_neg (by rw [← hn.kind]; exact h10_0)]
          exact finD0 (fin_ret (fin0 rfl ⟨_, by rw [e, List.append_nil], hO.only [.o b, .o a]⟩))
/-- every node, by how many are below it -/
theorem wouter_all {A : List Node_one} {K : Int → List Int} {a b : Nat} {sc : Bool} (t : TxOk A K) (hlen : A.length ≤ 32768) : ∀ f, OuterP A K a b sc f
  | 0 => fun k w bs raw id hi hf hb hO => absurd (cnt_pos hi) (by omega)
  | f + 1 => fun k w bs raw id hi hf hb hO => wouter_spec t hlen (wouter_all t hlen f) hi hf hb hO
end
end Go.Proofs.Ythkmnohghpdjhaa
