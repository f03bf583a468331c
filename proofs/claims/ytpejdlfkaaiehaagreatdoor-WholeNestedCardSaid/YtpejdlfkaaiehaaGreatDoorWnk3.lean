/- What the row of this folder leans on, part 3: the walks of the functions and the laws of what they compute; no condition. -/
import Derived.Test.YtpejdlfkaaiehaaGreatDoorWnk2
section
set_option linter.unusedVariables false
set_option linter.unusedSimpArgs false
set_option maxRecDepth 100000
namespace Go.Proofs.YtpejdlfkaaiehaaGreatDoor
open Go Go.Hb Go.RowKit
def bodyS : ByteArray := ⟨#[98, 111, 100, 121]⟩
def headS : ByteArray := ⟨#[104, 101, 97, 100]⟩
section
variable {k : Ctx} {w : World} {b a s l r : Nat} {q : BQ} {A : List Node_one} {K : Int → List Int} {st : List Int} {ns : List ByteArray} {nm : ByteArray}
theorem b_initial_spec (h9 : q.errs ≤ 1000000000) (h0 : 0 ≤ q.errs) (hO : Own k w [blk b 65 (bC a s l r q)]) :
    Tri Tryz.prog 42 #[.pointer (some ⟨b, 0, none⟩), .agg (Api_token.cells (tk 1 nm 0)).toArray] k w fun v m => v = .bool true ∧ m = [blk b 65 (bC a s l r { q with errs := q.errs + 1, quirk := 2, mode := 1 })] := by
  refine enter (args := [.pointer (some ⟨b, 0, none⟩), .agg (Api_token.cells (tk 1 nm 0)).toArray]) Tryz.func42 rfl rfl ?_
  refine K0 (K1 ?_)
  refine s_box (vs := [.int .i64 1, .string nm, .string ⟨#[]⟩, .string ⟨#[]⟩, .int .i64 0, .bool false, .int .i32 0, .bool false, .slice none 0 0]) hO rfl rfl rfl (by rfl) fun b3 w hO => ?_
  refine l_y rfl rfl (y_assign rfl) ?_
  refine K2 (K3 (K0 (K4 (K0 (K1 ?_)))))
  refine l_y rfl rfl (D8 (cs := [.int .i64 1, .string nm, .string ⟨#[]⟩, .string ⟨#[]⟩, .int .i64 0, .bool false, .int .i32 0, .bool false, .slice none 0 0]) hO rfl) ?_
  refine CK [] hO rfl (fun k' hx hr hO' => t_blank_spec (kd := 1) (nm := nm) (ch := 0) (b := false) (by kernel_rfl) (hO := hO')) ?_
  rintro _ _ w ⟨rfl, rfl⟩ hO
  simp only [List.cons_append, List.nil_append] at hO
  refine l_y rfl rfl (y_assign rfl) ?_
  refine K2 (K3 (L9 (K0 (K1 ?_))))
  refine l_y rfl rfl (D8 (cs := [.int .i64 1, .string nm, .string ⟨#[]⟩, .string ⟨#[]⟩, .int .i64 0, .bool false, .int .i32 0, .bool false, .slice none 0 0]) hO rfl) ?_
  refine CK [] hO rfl (fun k' hx hr hO' => t_is_spec (kd := 1) (nm := nm) (ch := 0) (b := false) (by kernel_rfl) (hO := hO')) ?_
  rintro _ _ w ⟨rfl, rfl⟩ hO
  simp only [List.cons_append, List.nil_append] at hO
  refine l_y rfl rfl (y_assign rfl) ?_
  refine K2 (K3 (L9 (K0 (K1 ?_))))
  refine l_y rfl rfl (D8 (cs := [.int .i64 1, .string nm, .string ⟨#[]⟩, .string ⟨#[]⟩, .int .i64 0, .bool false, .int .i32 0, .bool false, .slice none 0 0]) hO rfl) ?_
  refine CK [] hO rfl (fun k' hx hr hO' => t_is_spec (kd := 1) (nm := nm) (ch := 0) (b := false) (by kernel_rfl) (hO := hO')) ?_
  rintro _ _ w ⟨rfl, rfl⟩ hO
  simp only [List.cons_append, List.nil_append] at hO
  refine l_y rfl rfl (y_assign rfl) ?_
  refine K2 (K3 (L9 (K5 (K8 (K3 (K0 (K1 ?_)))))))
  refine l_y rfl rfl (y_move rfl) ?_
  refine CK [.b b] hO rfl (fun k' hx hr hO' => b_fault_spec h9 h0 hO') ?_
  rintro _ _ w ⟨rfl, rfl⟩ hO
  simp only [List.cons_append, List.nil_append] at hO
  refine K2 (K3 (K0 (K1 ?_)))
  refine l_y rfl rfl (y_move rfl) ?_
  refine l_y rfl rfl (y_nilCheck rfl rfl) ?_
  refine l_y rfl rfl (y_fldb (o' := 12) rfl) ?_
  refine Y1 hO rfl rfl (fun w hO => ?_)
  simp only [List.set_cons_zero, List.set_cons_succ] at hO
  refine K2 (K3 (K0 (K1 ?_)))
  refine l_y rfl rfl (y_move rfl) ?_
  refine CK [.b b] hO rfl (fun k' hx hr hO' => b_again_spec (q := { q with errs := q.errs + 1, quirk := 2 }) hO') ?_
  rintro _ _ w ⟨rfl, rfl⟩ hO
  simp only [List.cons_append, List.nil_append] at hO
  refine l_y rfl rfl (y_assign rfl) ?_
  refine K2 (K3 (K6 ?_))
  exact fin1 rfl rfl ⟨_, ⟨rfl, rfl⟩, hO.only [.b b]⟩
theorem b_beforeHTML_spec (hN : nm = pS ∨ nm = bodyS) (h : BI A K [] []) (hA : A.length ≤ 30000) (hO : Own k w [blk b 65 (bC a s l r q), arenaL a A, stkL s a []]) :
    Tri Tryz.prog 43 #[.pointer (some ⟨b, 0, none⟩), .agg (Api_token.cells (tk 1 nm 0)).toArray] k w fun v m => ∃ p d, v = .bool true ∧ m = [blk b 65 (bC a s l r { q with mode := 2 }), arenaL a (addA A (elementN p d 0 htmlS []) 0), stkL s a [(A.length : Int)]] := by
  refine enter (args := [.pointer (some ⟨b, 0, none⟩), .agg (Api_token.cells (tk 1 nm 0)).toArray]) Tryz.func43 rfl rfl ?_
  refine K0 (K1 ?_)
  refine s_box (vs := [.int .i64 1, .string nm, .string ⟨#[]⟩, .string ⟨#[]⟩, .int .i64 0, .bool false, .int .i32 0, .bool false, .slice none 0 0]) hO rfl rfl rfl (by rfl) fun b3 w hO => ?_
  refine l_y rfl rfl (y_assign rfl) ?_
  refine K2 (K3 (K0 (K4 (K0 (K1 ?_)))))
  refine l_y rfl rfl (D8 (cs := [.int .i64 1, .string nm, .string ⟨#[]⟩, .string ⟨#[]⟩, .int .i64 0, .bool false, .int .i32 0, .bool false, .slice none 0 0]) hO rfl) ?_
  refine CK [] hO rfl (fun k' hx hr hO' => t_blank_spec (kd := 1) (nm := nm) (ch := 0) (b := false) (by kernel_rfl) (hO := hO')) ?_
  rintro _ _ w ⟨rfl, rfl⟩ hO
  simp only [List.cons_append, List.nil_append] at hO
  refine l_y rfl rfl (y_assign rfl) ?_
  refine K2 (K3 (L9 (K0 (K1 ?_))))
  refine l_y rfl rfl (D8 (cs := [.int .i64 1, .string nm, .string ⟨#[]⟩, .string ⟨#[]⟩, .int .i64 0, .bool false, .int .i32 0, .bool false, .slice none 0 0]) hO rfl) ?_
  refine CK [] hO rfl (fun k' hx hr hO' => t_is_spec (kd := 1) (nm := nm) (ch := 0) (b := false) (by kernel_rfl) (hO := hO')) ?_
  rintro _ _ w ⟨rfl, rfl⟩ hO
  simp only [List.cons_append, List.nil_append] at hO
  refine l_y rfl rfl (y_assign rfl) ?_
  refine K2 (K3 (L9 (K0 (K0 (K1 ?_)))))
  refine l_y rfl rfl (D8 (cs := [.int .i64 1, .string nm, .string ⟨#[]⟩, .string ⟨#[]⟩, .int .i64 0, .bool false, .int .i32 0, .bool false, .slice none 0 0]) hO rfl) ?_
  refine CK [] hO rfl (fun k' hx hr hO' => t_is_spec (kd := 1) (nm := nm) (ch := 0) (b := false) (by kernel_rfl) (hO := hO')) ?_
  rintro _ _ w ⟨rfl, rfl⟩ hO
  simp only [List.cons_append, List.nil_append] at hO
  refine l_y rfl rfl (y_assign rfl) ?_
  refine K2 (K3 (L9 (K1 ?_)))
  refine l_y rfl rfl (D8 (cs := [.int .i64 1, .string nm, .string ⟨#[]⟩, .string ⟨#[]⟩, .int .i64 0, .bool false, .int .i32 0, .bool false, .slice none 0 0]) hO rfl) ?_
  refine CK [] hO rfl (fun k' hx hr hO' => t_ends_spec (kd := 1) (nm := nm) (ch := 0) (b := false) (by decide) (by kernel_rfl) (hO := hO')) ?_
  rintro _ _ w ⟨rfl, rfl⟩ hO
  simp only [List.cons_append, List.nil_append] at hO
  refine l_y rfl rfl (y_assign rfl) ?_
  refine K2 (K3 (L9 (K0 (K1 ?_))))
  refine l_y rfl rfl (D8 (cs := [.int .i64 1, .string nm, .string ⟨#[]⟩, .string ⟨#[]⟩, .int .i64 0, .bool false, .int .i32 0, .bool false, .slice none 0 0]) hO rfl) ?_
  refine CK [] hO rfl (fun k' hx hr hO' => t_start_spec (kd := 1) (nm := nm) (ch := 0) (b := false) (by decide) (by rcases hN with rfl | rfl <;> kernel_rfl) (hO := hO')) ?_
  rintro _ _ w ⟨rfl, rfl⟩ hO
  simp only [List.cons_append, List.nil_append] at hO
  refine l_y rfl rfl (y_assign rfl) ?_
  refine K2 (K3 (L9 (K5 (K8 (K3 (K0 (K1 ?_)))))))
  refine l_y rfl rfl (y_move rfl) ?_
  refine CK [] hO rfl (fun k' hx hr hO' => t_plain_spec (nm := htmlS) hO') ?_
  rintro _ _ w ⟨rfl, rfl⟩ hO
  simp only [List.cons_append, List.nil_append] at hO
  refine CK [.b b, .o a, .o s] hO rfl (fun k' hx hr hO' => b_root_spec h hA hO') ?_
  rintro _ _ w ⟨p1, d1, rfl⟩ hO
  simp only [List.cons_append, List.nil_append] at hO
  refine K2 (K3 (K0 (K1 ?_)))
  refine l_y rfl rfl (y_move rfl) ?_
  refine CK [.b b] hO rfl (fun k' hx hr hO' => b_again_spec hO') ?_
  rintro _ _ w ⟨rfl, rfl⟩ hO
  simp only [List.cons_append, List.nil_append] at hO
  refine l_y rfl rfl (y_assign rfl) ?_
  refine K2 (K3 (K6 ?_))
  exact fin1 rfl rfl ⟨_, ⟨p1, d1, rfl, rfl⟩, hO.only [.b b, .o a, .o s]⟩
theorem b_beforeHead_spec (hN : nm = pS ∨ nm = bodyS) (h : BI A K st ns) (hne : st ≠ []) (hA : A.length ≤ 30000) (hO : Own k w [blk b 65 (bC a s l r q), arenaL a A, stkL s a st]) :
    Tri Tryz.prog 44 #[.pointer (some ⟨b, 0, none⟩), .agg (Api_token.cells (tk 1 nm 0)).toArray] k w fun v m => ∃ p d, v = .bool true ∧ m = [blk b 65 (bC a s l r { q with head := (A.length : Int), mode := 3 }), arenaL a (addA A (elementN p d 0 headS []) (topI st)), stkL s a (st ++ [(A.length : Int)])] := by
  refine enter (args := [.pointer (some ⟨b, 0, none⟩), .agg (Api_token.cells (tk 1 nm 0)).toArray]) Tryz.func44 rfl rfl ?_
  refine K0 (K1 ?_)
  refine s_box (vs := [.int .i64 1, .string nm, .string ⟨#[]⟩, .string ⟨#[]⟩, .int .i64 0, .bool false, .int .i32 0, .bool false, .slice none 0 0]) hO rfl rfl rfl (by rfl) fun b3 w hO => ?_
  refine l_y rfl rfl (y_assign rfl) ?_
  refine K2 (K3 (K0 (K4 (K0 (K1 ?_)))))
  refine l_y rfl rfl (D8 (cs := [.int .i64 1, .string nm, .string ⟨#[]⟩, .string ⟨#[]⟩, .int .i64 0, .bool false, .int .i32 0, .bool false, .slice none 0 0]) hO rfl) ?_
  refine CK [] hO rfl (fun k' hx hr hO' => t_blank_spec (kd := 1) (nm := nm) (ch := 0) (b := false) (by kernel_rfl) (hO := hO')) ?_
  rintro _ _ w ⟨rfl, rfl⟩ hO
  simp only [List.cons_append, List.nil_append] at hO
  refine l_y rfl rfl (y_assign rfl) ?_
  refine K2 (K3 (L9 (K0 (K1 ?_))))
  refine l_y rfl rfl (D8 (cs := [.int .i64 1, .string nm, .string ⟨#[]⟩, .string ⟨#[]⟩, .int .i64 0, .bool false, .int .i32 0, .bool false, .slice none 0 0]) hO rfl) ?_
  refine CK [] hO rfl (fun k' hx hr hO' => t_is_spec (kd := 1) (nm := nm) (ch := 0) (b := false) (by kernel_rfl) (hO := hO')) ?_
  rintro _ _ w ⟨rfl, rfl⟩ hO
  simp only [List.cons_append, List.nil_append] at hO
  refine l_y rfl rfl (y_assign rfl) ?_
  refine K2 (K3 (L9 (K0 (K0 (K1 ?_)))))
  refine l_y rfl rfl (D8 (cs := [.int .i64 1, .string nm, .string ⟨#[]⟩, .string ⟨#[]⟩, .int .i64 0, .bool false, .int .i32 0, .bool false, .slice none 0 0]) hO rfl) ?_
  refine CK [] hO rfl (fun k' hx hr hO' => t_is_spec (kd := 1) (nm := nm) (ch := 0) (b := false) (by kernel_rfl) (hO := hO')) ?_
  rintro _ _ w ⟨rfl, rfl⟩ hO
  simp only [List.cons_append, List.nil_append] at hO
  refine l_y rfl rfl (y_assign rfl) ?_
  refine K2 (K3 (L9 (K1 ?_)))
  refine l_y rfl rfl (D8 (cs := [.int .i64 1, .string nm, .string ⟨#[]⟩, .string ⟨#[]⟩, .int .i64 0, .bool false, .int .i32 0, .bool false, .slice none 0 0]) hO rfl) ?_
  refine CK [] hO rfl (fun k' hx hr hO' => t_ends_spec (kd := 1) (nm := nm) (ch := 0) (b := false) (by decide) (by kernel_rfl) (hO := hO')) ?_
  rintro _ _ w ⟨rfl, rfl⟩ hO
  simp only [List.cons_append, List.nil_append] at hO
  refine l_y rfl rfl (y_assign rfl) ?_
  refine K2 (K3 (L9 (K0 (K1 ?_))))
  refine l_y rfl rfl (D8 (cs := [.int .i64 1, .string nm, .string ⟨#[]⟩, .string ⟨#[]⟩, .int .i64 0, .bool false, .int .i32 0, .bool false, .slice none 0 0]) hO rfl) ?_
  refine CK [] hO rfl (fun k' hx hr hO' => t_start_spec (kd := 1) (nm := nm) (ch := 0) (b := false) (by decide) (by rcases hN with rfl | rfl <;> kernel_rfl) (hO := hO')) ?_
  rintro _ _ w ⟨rfl, rfl⟩ hO
  simp only [List.cons_append, List.nil_append] at hO
  refine l_y rfl rfl (y_assign rfl) ?_
  refine K2 (K3 (L9 (K0 (K1 ?_))))
  refine l_y rfl rfl (D8 (cs := [.int .i64 1, .string nm, .string ⟨#[]⟩, .string ⟨#[]⟩, .int .i64 0, .bool false, .int .i32 0, .bool false, .slice none 0 0]) hO rfl) ?_
  refine CK [] hO rfl (fun k' hx hr hO' => t_start_spec (kd := 1) (nm := nm) (ch := 0) (b := false) (by decide) (by rcases hN with rfl | rfl <;> kernel_rfl) (hO := hO')) ?_
  rintro _ _ w ⟨rfl, rfl⟩ hO
  simp only [List.cons_append, List.nil_append] at hO
  refine l_y rfl rfl (y_assign rfl) ?_
  refine K2 (K3 (L9 (K5 (K8 (K3 (K0 (K1 ?_)))))))
  refine l_y rfl rfl (y_move rfl) ?_
  refine l_y rfl rfl (y_move rfl) ?_
  refine CK [] hO rfl (fun k' hx hr hO' => t_plain_spec (nm := headS) hO') ?_
  rintro _ _ w ⟨rfl, rfl⟩ hO
  simp only [List.cons_append, List.nil_append] at hO
  refine CK [.b b, .o a, .o s] hO rfl (fun k' hx hr hO' => b_put_spec (kd := 1) (nm := headS) (ch := 0) h hne (by decide) (by decide) hA hO') ?_
  rintro _ _ w ⟨p1, d1, rfl, rfl⟩ hO
  simp only [List.cons_append, List.nil_append] at hO
  refine l_y rfl rfl (y_nilCheck rfl rfl) ?_
  refine l_y rfl rfl (y_fldb (o' := 7) rfl) ?_
  refine Y1 hO rfl rfl (fun w hO => ?_)
  simp only [List.set_cons_zero, List.set_cons_succ] at hO
  refine K2 (K3 (K0 (K1 ?_)))
  refine l_y rfl rfl (y_move rfl) ?_
  refine CK [.b b] hO rfl (fun k' hx hr hO' => b_again_spec (q := { q with head := (A.length : Int) }) hO') ?_
  rintro _ _ w ⟨rfl, rfl⟩ hO
  simp only [List.cons_append, List.nil_append] at hO
  refine l_y rfl rfl (y_assign rfl) ?_
  refine K2 (K3 (K6 ?_))
  exact fin1 rfl rfl ⟨_, ⟨p1, d1, rfl, rfl⟩, hO.only [.b b, .o a, .o s]⟩
theorem b_inHead_spec (hN : nm = pS ∨ nm = bodyS) (hl : st.length ≤ 1000000) (hne : ∀ x ∈ st, x ≠ -1) (hO : Own k w [blk b 65 (bC a s l r q), stkL s a st]) :
    Tri Tryz.prog 45 #[.pointer (some ⟨b, 0, none⟩), .agg (Api_token.cells (tk 1 nm 0)).toArray] k w fun v m => v = .bool true ∧ m = [blk b 65 (bC a s l r { q with mode := 5 }), stkL s a (st.take (st.length - 1))] := by
  refine enter (args := [.pointer (some ⟨b, 0, none⟩), .agg (Api_token.cells (tk 1 nm 0)).toArray]) Tryz.func45 rfl rfl ?_
  refine K0 (K1 ?_)
  refine s_box (vs := [.int .i64 1, .string nm, .string ⟨#[]⟩, .string ⟨#[]⟩, .int .i64 0, .bool false, .int .i32 0, .bool false, .slice none 0 0]) hO rfl rfl rfl (by rfl) fun b3 w hO => ?_
  refine l_y rfl rfl (y_assign rfl) ?_
  refine K2 (K3 (K0 (K4 (K0 (K1 ?_)))))
  refine l_y rfl rfl (D8 (cs := [.int .i64 1, .string nm, .string ⟨#[]⟩, .string ⟨#[]⟩, .int .i64 0, .bool false, .int .i32 0, .bool false, .slice none 0 0]) hO rfl) ?_
  refine CK [] hO rfl (fun k' hx hr hO' => t_blank_spec (kd := 1) (nm := nm) (ch := 0) (b := false) (by kernel_rfl) (hO := hO')) ?_
  rintro _ _ w ⟨rfl, rfl⟩ hO
  simp only [List.cons_append, List.nil_append] at hO
  refine l_y rfl rfl (y_assign rfl) ?_
  refine K2 (K3 (L9 (K0 (K1 ?_))))
  refine l_y rfl rfl (D8 (cs := [.int .i64 1, .string nm, .string ⟨#[]⟩, .string ⟨#[]⟩, .int .i64 0, .bool false, .int .i32 0, .bool false, .slice none 0 0]) hO rfl) ?_
  refine CK [] hO rfl (fun k' hx hr hO' => t_is_spec (kd := 1) (nm := nm) (ch := 0) (b := false) (by kernel_rfl) (hO := hO')) ?_
  rintro _ _ w ⟨rfl, rfl⟩ hO
  simp only [List.cons_append, List.nil_append] at hO
  refine l_y rfl rfl (y_assign rfl) ?_
  refine K2 (K3 (L9 (K0 (K0 (K1 ?_)))))
  refine l_y rfl rfl (D8 (cs := [.int .i64 1, .string nm, .string ⟨#[]⟩, .string ⟨#[]⟩, .int .i64 0, .bool false, .int .i32 0, .bool false, .slice none 0 0]) hO rfl) ?_
  refine CK [] hO rfl (fun k' hx hr hO' => t_is_spec (kd := 1) (nm := nm) (ch := 0) (b := false) (by kernel_rfl) (hO := hO')) ?_
  rintro _ _ w ⟨rfl, rfl⟩ hO
  simp only [List.cons_append, List.nil_append] at hO
  refine l_y rfl rfl (y_assign rfl) ?_
  refine K2 (K3 (L9 (K1 ?_)))
  refine l_y rfl rfl (D8 (cs := [.int .i64 1, .string nm, .string ⟨#[]⟩, .string ⟨#[]⟩, .int .i64 0, .bool false, .int .i32 0, .bool false, .slice none 0 0]) hO rfl) ?_
  refine CK [] hO rfl (fun k' hx hr hO' => t_start_spec (kd := 1) (nm := nm) (ch := 0) (b := false) (by decide) (by rcases hN with rfl | rfl <;> kernel_rfl) (hO := hO')) ?_
  rintro _ _ w ⟨rfl, rfl⟩ hO
  simp only [List.cons_append, List.nil_append] at hO
  refine l_y rfl rfl (y_assign rfl) ?_
  refine K2 (K3 (L9 (K0 (K1 ?_))))
  refine l_y rfl rfl (D8 (cs := [.int .i64 1, .string nm, .string ⟨#[]⟩, .string ⟨#[]⟩, .int .i64 0, .bool false, .int .i32 0, .bool false, .slice none 0 0]) hO rfl) ?_
  refine CK [] hO rfl (fun k' hx hr hO' => t_start_spec (kd := 1) (nm := nm) (ch := 0) (b := false) (by decide) (by rcases hN with rfl | rfl <;> kernel_rfl) (hO := hO')) ?_
  rintro _ _ w ⟨rfl, rfl⟩ hO
  simp only [List.cons_append, List.nil_append] at hO
  refine l_y rfl rfl (y_assign rfl) ?_
  refine K2 (K3 (L9 (K0 (K1 ?_))))
  refine l_y rfl rfl (D8 (cs := [.int .i64 1, .string nm, .string ⟨#[]⟩, .string ⟨#[]⟩, .int .i64 0, .bool false, .int .i32 0, .bool false, .slice none 0 0]) hO rfl) ?_
  refine CK [] hO rfl (fun k' hx hr hO' => t_start_spec (kd := 1) (nm := nm) (ch := 0) (b := false) (by decide) (by rcases hN with rfl | rfl <;> kernel_rfl) (hO := hO')) ?_
  rintro _ _ w ⟨rfl, rfl⟩ hO
  simp only [List.cons_append, List.nil_append] at hO
  refine l_y rfl rfl (y_assign rfl) ?_
  refine K2 (K3 (L9 (K0 (K1 ?_))))
  refine l_y rfl rfl (D8 (cs := [.int .i64 1, .string nm, .string ⟨#[]⟩, .string ⟨#[]⟩, .int .i64 0, .bool false, .int .i32 0, .bool false, .slice none 0 0]) hO rfl) ?_
  refine CK [] hO rfl (fun k' hx hr hO' => t_start_spec (kd := 1) (nm := nm) (ch := 0) (b := false) (by decide) (by rcases hN with rfl | rfl <;> kernel_rfl) (hO := hO')) ?_
  rintro _ _ w ⟨rfl, rfl⟩ hO
  simp only [List.cons_append, List.nil_append] at hO
  refine l_y rfl rfl (y_move rfl) ?_
  repeat refine M2 ?_
  refine l_y rfl rfl (y_pick_f rfl rfl) ?_
  refine l_y rfl rfl (y_assign rfl) ?_
  refine K2 (K3 (L9 (K0 (K1 ?_))))
  refine l_y rfl rfl (D8 (cs := [.int .i64 1, .string nm, .string ⟨#[]⟩, .string ⟨#[]⟩, .int .i64 0, .bool false, .int .i32 0, .bool false, .slice none 0 0]) hO rfl) ?_
  refine CK [] hO rfl (fun k' hx hr hO' => t_start_spec (kd := 1) (nm := nm) (ch := 0) (b := false) (by decide) (by rcases hN with rfl | rfl <;> kernel_rfl) (hO := hO')) ?_
  rintro _ _ w ⟨rfl, rfl⟩ hO
  simp only [List.cons_append, List.nil_append] at hO
  refine l_y rfl rfl (y_assign rfl) ?_
  refine K2 (K3 (L9 (K0 (K1 ?_))))
  refine l_y rfl rfl (D8 (cs := [.int .i64 1, .string nm, .string ⟨#[]⟩, .string ⟨#[]⟩, .int .i64 0, .bool false, .int .i32 0, .bool false, .slice none 0 0]) hO rfl) ?_
  refine CK [] hO rfl (fun k' hx hr hO' => t_start_spec (kd := 1) (nm := nm) (ch := 0) (b := false) (by decide) (by rcases hN with rfl | rfl <;> kernel_rfl) (hO := hO')) ?_
  rintro _ _ w ⟨rfl, rfl⟩ hO
  simp only [List.cons_append, List.nil_append] at hO
  refine l_y rfl rfl (y_assign rfl) ?_
  refine K2 (K3 (L9 (K0 (K1 ?_))))
  refine l_y rfl rfl (D8 (cs := [.int .i64 1, .string nm, .string ⟨#[]⟩, .string ⟨#[]⟩, .int .i64 0, .bool false, .int .i32 0, .bool false, .slice none 0 0]) hO rfl) ?_
  refine CK [] hO rfl (fun k' hx hr hO' => t_end_spec (kd := 1) (nm := nm) (ch := 0) (b := false) (by decide) (by kernel_rfl) (hO := hO')) ?_
  rintro _ _ w ⟨rfl, rfl⟩ hO
  simp only [List.cons_append, List.nil_append] at hO
  refine l_y rfl rfl (y_assign rfl) ?_
  refine K2 (K3 (L9 (K0 (K1 ?_))))
  refine l_y rfl rfl (D8 (cs := [.int .i64 1, .string nm, .string ⟨#[]⟩, .string ⟨#[]⟩, .int .i64 0, .bool false, .int .i32 0, .bool false, .slice none 0 0]) hO rfl) ?_
  refine CK [] hO rfl (fun k' hx hr hO' => t_end_spec (kd := 1) (nm := nm) (ch := 0) (b := false) (by decide) (by kernel_rfl) (hO := hO')) ?_
  rintro _ _ w ⟨rfl, rfl⟩ hO
  simp only [List.cons_append, List.nil_append] at hO
  refine l_y rfl rfl (y_assign rfl) ?_
  refine K2 (K3 (L9 (K0 (K1 ?_))))
  refine l_y rfl rfl (D8 (cs := [.int .i64 1, .string nm, .string ⟨#[]⟩, .string ⟨#[]⟩, .int .i64 0, .bool false, .int .i32 0, .bool false, .slice none 0 0]) hO rfl) ?_
  refine CK [] hO rfl (fun k' hx hr hO' => t_ends_spec (kd := 1) (nm := nm) (ch := 0) (b := false) (by decide) (by kernel_rfl) (hO := hO')) ?_
  rintro _ _ w ⟨rfl, rfl⟩ hO
  simp only [List.cons_append, List.nil_append] at hO
  refine l_y rfl rfl (y_assign rfl) ?_
  refine K2 (K3 (L9 (K5 (K8 (K3 (K0 (K1 ?_)))))))
  refine l_y rfl rfl (y_move rfl) ?_
  refine l_y rfl rfl (y_nilCheck rfl rfl) ?_
  refine l_y rfl rfl (y_fldb (o' := 1) rfl) ?_
  refine l_y rfl rfl (D5 hO rfl) ?_
  refine CK [.o s] hO rfl (fun k' hx hr hO' => sPop_spec hl hne hO') ?_
  rintro _ _ w ⟨rfl, rfl⟩ hO
  simp only [List.cons_append, List.nil_append] at hO
  refine K2 (K3 (K0 (K1 ?_)))
  refine l_y rfl rfl (y_move rfl) ?_
  refine CK [.b b] hO rfl (fun k' hx hr hO' => b_again_spec hO') ?_
  rintro _ _ w ⟨rfl, rfl⟩ hO
  simp only [List.cons_append, List.nil_append] at hO
  refine l_y rfl rfl (y_assign rfl) ?_
  refine K2 (K3 (K6 ?_))
  exact fin1 rfl rfl ⟨_, ⟨rfl, rfl⟩, hO.only [.b b, .o s]⟩
end
end Go.Proofs.YtpejdlfkaaiehaaGreatDoor
end
section
set_option linter.unusedVariables false
set_option linter.unusedSimpArgs false
set_option maxRecDepth 100000
namespace Go.Proofs.YtpejdlfkaaiehaaGreatDoor
open Go Go.Hb Go.RowKit
/-- what a builder holds -/
structure TX where
  q : BQ
  A : List Node_one
  K : Int → List Int
  st : List Int
  ns : List ByteArray
  es : List Api_entry
section
variable {k : Ctx} {w : World} {b a s l r : Nat} {q : BQ} {A : List Node_one} {K : Int → List Int} {st : List Int} {ns : List ByteArray} {nm : ByteArray}
theorem b_afterHead1_spec (hN : nm = bodyS) (h : BI A K st ns) (hne : st ≠ []) (hA : A.length ≤ 30000) (hO : Own k w [blk b 65 (bC a s l r q), arenaL a A, stkL s a st]) :
    Tri Tryz.prog 47 #[.pointer (some ⟨b, 0, none⟩), .agg (Api_token.cells (tk 1 nm 0)).toArray] k w fun v m => ∃ p d, v = .bool false ∧ m = [blk b 65 (bC a s l r { q with framed := true, mode := 6 }), arenaL a (addA A (elementN p d 0 bodyS []) (topI st)), stkL s a (st ++ [(A.length : Int)])] := by
  subst hN
  refine enterD (args := [.pointer (some ⟨b, 0, none⟩), .agg (Api_token.cells (tk 1 bodyS 0)).toArray]) Tryz.func47 rfl rfl ?_
  obtain ⟨nm, hN⟩ : ∃ nm, nm = bodyS := ⟨_, rfl⟩
  rw [← hN]
  refine K0 (K1 ?_)
  refine s_box (vs := [.int .i64 1, .string nm, .string ⟨#[]⟩, .string ⟨#[]⟩, .int .i64 0, .bool false, .int .i32 0, .bool false, .slice none 0 0]) hO rfl rfl rfl (by rfl) fun b3 w hO => ?_
  refine l_y rfl rfl (y_assign rfl) ?_
  refine K2 (K3 (K0 (K4 (K0 (K1 ?_)))))
  refine l_y rfl rfl (D8 (cs := [.int .i64 1, .string nm, .string ⟨#[]⟩, .string ⟨#[]⟩, .int .i64 0, .bool false, .int .i32 0, .bool false, .slice none 0 0]) hO rfl) ?_
  refine CK [] hO rfl (fun k' hx hr hO' => t_blank_spec (kd := 1) (nm := nm) (ch := 0) (b := false) (by kernel_rfl) (hO := hO')) ?_
  rintro _ _ w ⟨rfl, rfl⟩ hO
  simp only [List.cons_append, List.nil_append] at hO
  refine l_y rfl rfl (y_assign rfl) ?_
  refine K2 (K3 (L9 (K0 (K1 ?_))))
  refine l_y rfl rfl (D8 (cs := [.int .i64 1, .string nm, .string ⟨#[]⟩, .string ⟨#[]⟩, .int .i64 0, .bool false, .int .i32 0, .bool false, .slice none 0 0]) hO rfl) ?_
  refine CK [] hO rfl (fun k' hx hr hO' => t_is_spec (kd := 1) (nm := nm) (ch := 0) (b := false) (by kernel_rfl) (hO := hO')) ?_
  rintro _ _ w ⟨rfl, rfl⟩ hO
  simp only [List.cons_append, List.nil_append] at hO
  refine l_y rfl rfl (y_assign rfl) ?_
  refine K2 (K3 (L9 (K0 (K0 (K1 ?_)))))
  refine l_y rfl rfl (D8 (cs := [.int .i64 1, .string nm, .string ⟨#[]⟩, .string ⟨#[]⟩, .int .i64 0, .bool false, .int .i32 0, .bool false, .slice none 0 0]) hO rfl) ?_
  refine CK [] hO rfl (fun k' hx hr hO' => t_is_spec (kd := 1) (nm := nm) (ch := 0) (b := false) (by kernel_rfl) (hO := hO')) ?_
  rintro _ _ w ⟨rfl, rfl⟩ hO
  simp only [List.cons_append, List.nil_append] at hO
  refine l_y rfl rfl (y_assign rfl) ?_
  refine K2 (K3 (L9 (K0 (K1 ?_))))
  refine l_y rfl rfl (D8 (cs := [.int .i64 1, .string nm, .string ⟨#[]⟩, .string ⟨#[]⟩, .int .i64 0, .bool false, .int .i32 0, .bool false, .slice none 0 0]) hO rfl) ?_
  refine CK [] hO rfl (fun k' hx hr hO' => t_start_spec (kd := 1) (nm := nm) (ch := 0) (b := false) (by decide) (by subst hN <;> kernel_rfl) (hO := hO')) ?_
  rintro _ _ w ⟨rfl, rfl⟩ hO
  simp only [List.cons_append, List.nil_append] at hO
  refine l_y rfl rfl (y_assign rfl) ?_
  refine K2 (K3 (L9 (K1 ?_)))
  refine l_y rfl rfl (D8 (cs := [.int .i64 1, .string nm, .string ⟨#[]⟩, .string ⟨#[]⟩, .int .i64 0, .bool false, .int .i32 0, .bool false, .slice none 0 0]) hO rfl) ?_
  refine CK [] hO rfl (fun k' hx hr hO' => t_ends_spec (kd := 1) (nm := nm) (ch := 0) (b := false) (by decide) (by kernel_rfl) (hO := hO')) ?_
  rintro _ _ w ⟨rfl, rfl⟩ hO
  simp only [List.cons_append, List.nil_append] at hO
  refine l_y rfl rfl (y_assign rfl) ?_
  refine K2 (K3 (L9 (K0 (K1 ?_))))
  refine l_y rfl rfl (D8 (cs := [.int .i64 1, .string nm, .string ⟨#[]⟩, .string ⟨#[]⟩, .int .i64 0, .bool false, .int .i32 0, .bool false, .slice none 0 0]) hO rfl) ?_
  refine CK [] hO rfl (fun k' hx hr hO' => t_start_spec (kd := 1) (nm := nm) (ch := 0) (b := false) (by decide) (by subst hN <;> kernel_rfl) (hO := hO')) ?_
  rintro _ _ w ⟨rfl, rfl⟩ hO
  simp only [List.cons_append, List.nil_append] at hO
  refine l_y rfl rfl (y_assign rfl) ?_
  refine K2 (K3 (L9 (K0 (K1 ?_))))
  refine l_y rfl rfl (D8 (cs := [.int .i64 1, .string nm, .string ⟨#[]⟩, .string ⟨#[]⟩, .int .i64 0, .bool false, .int .i32 0, .bool false, .slice none 0 0]) hO rfl) ?_
  refine CK [] hO rfl (fun k' hx hr hO' => t_end_spec (kd := 1) (nm := nm) (ch := 0) (b := false) (by decide) (by kernel_rfl) (hO := hO')) ?_
  rintro _ _ w ⟨rfl, rfl⟩ hO
  simp only [List.cons_append, List.nil_append] at hO
  refine l_y rfl rfl (y_assign rfl) ?_
  refine K2 (K3 (L9 (K0 (K1 ?_))))
  refine l_y rfl rfl (D8 (cs := [.int .i64 1, .string nm, .string ⟨#[]⟩, .string ⟨#[]⟩, .int .i64 0, .bool false, .int .i32 0, .bool false, .slice none 0 0]) hO rfl) ?_
  refine CK [] hO rfl (fun k' hx hr hO' => t_start_spec (kd := 1) (nm := nm) (ch := 0) (b := true) (by decide) (by subst hN <;> kernel_rfl) (hO := hO')) ?_
  rintro _ _ w ⟨rfl, rfl⟩ hO
  simp only [List.cons_append, List.nil_append] at hO
  refine l_y rfl rfl (y_assign rfl) ?_
  refine K2 (K3 (L8 (K0 (K1 ?_))))
  refine l_y rfl rfl (y_move rfl) ?_
  refine l_y rfl rfl (D8 (cs := [.int .i64 1, .string nm, .string ⟨#[]⟩, .string ⟨#[]⟩, .int .i64 0, .bool false, .int .i32 0, .bool false, .slice none 0 0]) hO rfl) ?_
  refine CK [.b b, .o a, .o s] hO rfl (fun k' hx hr hO' => b_put_spec (kd := 1) (nm := nm) (ch := 0) h hne (by rw [hN]; decide) (by rw [hN]; decide) hA hO') ?_
  rintro _ _ w ⟨p1, d1, rfl, rfl⟩ hO
  simp only [List.cons_append, List.nil_append] at hO
  refine K2 (K3 (K0 (K1 ?_)))
  refine l_y rfl rfl (y_move rfl) ?_
  refine l_y rfl rfl (y_nilCheck rfl rfl) ?_
  refine l_y rfl rfl (y_fldb (o' := 14) rfl) ?_
  refine Y1 hO rfl rfl (fun w hO => ?_)
  simp only [List.set_cons_zero, List.set_cons_succ] at hO
  refine K2 (K3 (K0 (K1 ?_)))
  refine l_y rfl rfl (y_move rfl) ?_
  refine CK [.b b] hO rfl (fun k' hx hr hO' => b_to_spec (q := { q with framed := true }) hO') ?_
  rintro _ _ w ⟨rfl, rfl⟩ hO
  simp only [List.cons_append, List.nil_append] at hO
  refine l_y rfl rfl (y_assign rfl) ?_
  refine K2 (K3 (K6 (L0 (K9 ?_))))
  refine finD0 ?_
  exact fin1 rfl rfl ⟨_, ⟨p1, d1, rfl, by rw [hN]⟩, hO.only [.b b, .o a, .o s]⟩
theorem b_New_spec (hn : 0 < A.length) (hO : Own k w [arenaL a A]) :
    Tri Tryz.prog 6 #[.pointer (some ⟨a, 0, none⟩), .bool false] k w fun v m => ∃ b s l r, v = .tuple #[.pointer (some ⟨b, 0, none⟩), .int .i64 0] ∧ m = [blk b 65 (bC a s l r ⟨0, -1, 0, 0, false, false⟩), mpV r .i64 rulesL, arenaL a A, stkL s a [], actL l a []] := by
  refine enter (args := [.pointer (some ⟨a, 0, none⟩), .bool false]) Tryz.func6 rfl rfl ?_
  refine K0 (K1 ?_)
  refine l_y rfl rfl (y_assign rfl) ?_
  refine l_y rfl rfl (y_assign rfl) ?_
  refine K2 (K3 (K0 (K1 ?_)))
  refine l_y rfl rfl (y_move rfl) ?_
  refine CK [.o a] hO rfl (fun k' hx hr hO' => sNew_spec hn hO') ?_
  rintro _ _ w ⟨s, rfl, rfl⟩ hO
  simp only [List.cons_append, List.nil_append] at hO
  refine l_y rfl rfl (y_move rfl) ?_
  refine l_y rfl rfl (y_extract rfl rfl) ?_
  refine l_y rfl rfl (y_extract rfl rfl) ?_
  refine l_y rfl rfl (y_assign rfl) ?_
  refine l_y rfl rfl (y_assign rfl) ?_
  refine K2 (K3 (K0 (K1 ?_)))
  refine l_y rfl rfl (y_move rfl) ?_
  refine CK [.o a] hO rfl (fun k' hx hr hO' => aNew_spec hn hO') ?_
  rintro _ _ w ⟨l, rfl, rfl⟩ hO
  simp only [List.cons_append, List.nil_append] at hO
  refine l_y rfl rfl (y_move rfl) ?_
  refine l_y rfl rfl (y_extract rfl rfl) ?_
  refine l_y rfl rfl (y_extract rfl rfl) ?_
  refine l_y rfl rfl (y_assign rfl) ?_
  refine l_y rfl rfl (y_assign rfl) ?_
  refine K2 (K3 (K0 (K0 (K1 ?_))))
  refine l_y rfl rfl (y_move rfl) ?_
  refine N4 ?_
  refine K2 (K3 (L9 (K5 (K3 (K0 (K1 ?_))))))
  refine l_y rfl rfl (y_move rfl) ?_
  refine l_y rfl rfl (y_move rfl) ?_
  refine l_y rfl rfl (y_move rfl) ?_
  refine CK [] hO rfl (fun k' hx hr hO' => rules_spec hO') ?_
  rintro _ _ w ⟨r, rfl, rfl⟩ hO
  simp only [List.cons_append, List.nil_append] at hO
  refine l_y rfl rfl (y_move rfl) ?_
  refine s_build (parts := [(0, .tmp 23), (1, .tmp 24), (2, .tmp 25), (3, .tmp 26), (7, .const (.int .i64 (-1))), (8, .const (.int .i64 (-1))), (9, .const (.int .i64 (-1))), (10, .const (.int .i64 (-1))), (11, .const (.int .i64 (-1))), (16, .tmp 27)]) (cs := [.pointer (some ⟨a, 0, none⟩), .pointer (some ⟨s, 0, none⟩), .pointer (some ⟨l, 0, none⟩), .map (some r), .int .i64 0, .int .i64 0, .slice none 0 0, .int .i64 (-1), .int .i64 (-1), .int .i64 (-1), .int .i64 (-1), .int .i64 (-1), .int .i64 0, .int .i64 0, .bool false, .bool false, .bool false, .bool false, .bool false, .bool false, .slice none 0 0]) rfl rfl (fun a ha => partsOf_sound ha _ _ rfl) (by kernel_rfl) ?_
  refine s_box (vs := [.pointer (some ⟨a, 0, none⟩), .pointer (some ⟨s, 0, none⟩), .pointer (some ⟨l, 0, none⟩), .map (some r), .int .i64 0, .int .i64 0, .slice none 0 0, .int .i64 (-1), .int .i64 (-1), .int .i64 (-1), .int .i64 (-1), .int .i64 (-1), .int .i64 0, .int .i64 0, .bool false, .bool false, .bool false, .bool false, .bool false, .bool false, .slice none 0 0]) hO rfl rfl rfl (by rfl) fun b29 w hO => ?_
  refine l_y rfl rfl (y_assign rfl) ?_
  refine l_y rfl rfl (y_assign rfl) ?_
  refine K2 (K3 (K6 ?_))
  exact fin2 rfl rfl rfl ⟨_, ⟨b29, s, l, r, rfl, rfl⟩, hO.only [.b b29, .o r, .o a, .o s, .o l]⟩
set_option maxHeartbeats 2000000 in
theorem b_Token_spec {kd ch : Int} {n0 : Nat} {x0 : TX} {I : Nat → TX → Prop} {D : TX → Prop} (hk0 : 0 ≤ kd) (hk1 : kd ≤ 5) (hns : nm.size ≤ 1000) (hover : x0.q.over = false) (hmx : x0.A.length + x0.es.length ≤ 30000) (hpos : 0 < x0.A.length) (h0 : I n0 x0)
    (hstep : ∀ n x, I n x → BI x.A x.K x.st x.ns ∧ x.st.length ≤ 1000000 ∧ ∃ f, ∃ _ : Fun Tryz.prog f, lookV rulesL x.q.mode = some (.func (.func f) #[] #[]) ∧ ∀ k' w', Own k' w' [blk b 65 (bC a s l r x.q), arenaL a x.A, stkL s a x.st, actL l a x.es] →
      Tri Tryz.prog f #[.pointer (some ⟨b, 0, none⟩), .agg (Api_token.cells (tk kd nm ch)).toArray] k' w' fun v m => ∃ x2 bb, v = .bool bb ∧ m = [blk b 65 (bC a s l r x2.q), arenaL a x2.A, stkL s a x2.st, actL l a x2.es] ∧ (if bb = true then ∃ n2, n2 < n ∧ I n2 x2 else D x2))
    (hO : Own k w [blk b 65 (bC a s l r x0.q), mpV r .i64 rulesL, arenaL a x0.A, stkL s a x0.st, actL l a x0.es]) :
    Tri Tryz.prog 7 #[.pointer (some ⟨b, 0, none⟩), .agg (Api_token.cells (tk kd nm ch)).toArray] k w fun v m => ∃ x2, D x2 ∧ v = .int .i64 0 ∧ m = [blk b 65 (bC a s l r x2.q), mpV r .i64 rulesL, arenaL a x2.A, stkL s a x2.st, actL l a x2.es] := by
  refine enter (args := [.pointer (some ⟨b, 0, none⟩), .agg (Api_token.cells (tk kd nm ch)).toArray]) Tryz.func7 rfl rfl ?_
  refine K0 (K1 ?_)
  refine s_box (vs := [.int .i64 kd, .string nm, .string ⟨#[]⟩, .string ⟨#[]⟩, .int .i64 0, .bool false, .int .i32 ch, .bool false, .slice none 0 0]) hO rfl rfl rfl (by rfl) fun b3 w hO => ?_
  refine l_y rfl rfl (y_assign rfl) ?_
  refine K2 (K3 (L6 (K0 (K1 ?_))))
  refine l_y rfl rfl (D8 (cs := [.int .i64 kd, .string nm, .string ⟨#[]⟩, .string ⟨#[]⟩, .int .i64 0, .bool false, .int .i32 ch, .bool false, .slice none 0 0]) hO rfl) ?_
  refine s_build (parts := [(0, .tmp 8)]) (cs := [.int .i64 kd, .string nm, .string ⟨#[]⟩, .string ⟨#[]⟩, .int .i64 0, .bool false, .int .i32 ch, .bool false, .slice none 0 0]) rfl rfl (fun a ha => partsOf_sound ha _ _ rfl) (by kernel_rfl) ?_
  refine s_alloc (vs := [.int .i64 0, .string ⟨#[]⟩, .string ⟨#[]⟩, .string ⟨#[]⟩, .int .i64 0, .bool false, .int .i32 0, .bool false, .slice none 0 0]) hO rfl rfl rfl fun b5 w hO => ?_
  refine Y3 hO rfl rfl (fun w hO => ?_)
  refine K2 (K3 (K0 (K4 (K0 (K1 ?_)))))
  refine l_y rfl rfl (y_move rfl) ?_
  refine CK [.b b] hO rfl (fun k' hx hr hO' => b_none_spec hO') ?_
  rintro _ _ w ⟨rfl, rfl⟩ hO
  simp only [List.cons_append, List.nil_append] at hO
  refine l_y rfl rfl (y_assign rfl) ?_
  refine K2 (K3 (L9 (K0 (K1 ?_))))
  refine l_y rfl rfl (y_move rfl) ?_
  refine l_y rfl rfl (y_nilCheck rfl rfl) ?_
  refine l_y rfl rfl (y_fldb (o' := 19) rfl) ?_
  refine l_y rfl rfl (D5 hO rfl (by show some (Value.bool x0.q.over) = _; rw [hover])) ?_
  refine l_y rfl rfl (y_assign rfl) ?_
  refine K2 (K3 (L9 (K0 (K1 ?_))))
  refine l_y rfl rfl (y_fldb (o' := 0) rfl) ?_
  refine l_y rfl rfl (D5 hO rfl) ?_
  refine N3 (hp := (by show ¬ (kd < 0); omega)) ?_
  refine l_y rfl rfl (y_move rfl) ?_
  refine l_y rfl rfl (y_fldb (o' := 0) rfl) ?_
  refine l_y rfl rfl (D5 hO rfl) ?_
  refine N3 (hp := (by show ¬ (kd > 5); omega)) ?_
  refine l_y rfl rfl (y_pick_f rfl rfl) ?_
  refine l_y rfl rfl (y_assign rfl) ?_
  refine K2 (K3 (L9 (K0 (K1 ?_))))
  refine l_y rfl rfl (D8 (cs := [.int .i64 kd, .string nm, .string ⟨#[]⟩, .string ⟨#[]⟩, .int .i64 0, .bool false, .int .i32 ch, .bool false, .slice none 0 0]) hO rfl) ?_
  refine CK [] hO rfl (fun k' hx hr hO' => t_long_spec (kd := kd) (nm := nm) (ch := ch) (by omega) hO') ?_
  rintro _ _ w ⟨rfl, rfl⟩ hO
  simp only [List.cons_append, List.nil_append] at hO
  refine l_y rfl rfl (y_assign rfl) ?_
  refine K2 (K3 (L9 (K0 ?_)))
  refine da_region (by intro c a d v w h; cases d <;> exact h) ?_
  have hO := hO.drew
  refine da_phase _ [9] (SO.ks [.b b] hO) ?_
  refine dx_u 0 (by kernel_rfl) rfl rfl rfl (fun w => y_move rfl) ?_
  refine dx_u 1 (by kernel_rfl) rfl rfl rfl (fun w => y_nilCheck rfl rfl) ?_
  refine dx_u 2 (by kernel_rfl) rfl rfl rfl (fun w => y_fldb (o' := 0) rfl) ?_
  refine dx_y 3 (by kernel_rfl) rfl rfl rfl (fun w ⟨m, hw⟩ => D5 hw rfl) ?_
  refine dx_u 5 (by kernel_rfl) rfl rfl rfl (fun w => y_move rfl) ?_
  refine dx_u 6 (by kernel_rfl) rfl rfl rfl (fun w => y_nilCheck rfl rfl) ?_
  refine dx_u 7 (by kernel_rfl) rfl rfl rfl (fun w => y_fldb (o' := 2) rfl) ?_
  refine dx_y 8 (by kernel_rfl) rfl rfl rfl (fun w ⟨m, hw⟩ => D5 hw rfl) ?_
  refine dx_only 4 (by kernel_rfl) rfl rfl ?_
  refine CK [.o a] hO rfl (fun k' hx hr hO' => LenC_spec hpos (hO := hO')) ?_
  rintro _ _ w ⟨rfl, rfl⟩ hO
  simp only [List.cons_append, List.nil_append] at hO
  refine o_done ?_
  refine ⟨SO.ks [.b b] hO, ?_⟩
  refine dx_close 9 (by kernel_rfl) rfl rfl ?_
  refine CK [.o l] hO rfl (fun k' hx hr hO' => aLen_spec (hO := hO')) ?_
  rintro _ _ w ⟨rfl, rfl⟩ hO
  simp only [List.cons_append, List.nil_append] at hO
  refine o_done ?_
  refine da_phase _ [] (SO.ks [] hO) ?_
  refine dx_u 10 (by kernel_rfl) rfl rfl rfl (fun w => D4) ?_
  refine dx_y 11 (by kernel_rfl) rfl rfl rfl (fun w ⟨m, hw⟩ => D1) ?_
  refine dx_u 12 (by kernel_rfl) rfl rfl rfl (fun w => y_assign rfl) ?_
  refine dx_end (by kernel_rfl) ?_
  refine K3 (L9 (K5 (K8 (K3 (K0 (K1 ?_))))))
  refine l_y rfl rfl (y_move rfl) ?_
  refine l_y rfl rfl (y_nilCheck rfl rfl) ?_
  refine l_y rfl rfl (y_fldb (o' := 17) rfl) ?_
  refine l_y rfl rfl (D5 hO rfl) ?_
  refine l_y rfl rfl (y_move rfl) ?_
  repeat refine M2 ?_
  refine l_y rfl rfl (y_pick_f rfl rfl) ?_
  refine l_y rfl rfl (y_move rfl) ?_
  repeat refine M2 ?_
  refine l_y rfl rfl (y_pick_f rfl rfl) ?_
  refine l_y rfl rfl (y_assign rfl) ?_
  refine K2 (K3 (K0 (K1 ?_)))
  refine l_y rfl rfl (y_move rfl) ?_
  refine l_y rfl rfl (y_move rfl) ?_
  refine l_y rfl rfl (y_nilCheck rfl rfl) ?_
  refine l_y rfl rfl (y_fldb (o' := 17) rfl) ?_
  refine Y1 hO rfl rfl (fun w hO => ?_)
  simp only [List.set_cons_zero, List.set_cons_succ] at hO
  refine l_y rfl rfl (y_nilCheck rfl rfl) ?_
  refine l_y rfl rfl (y_fldb (o' := 18) rfl) ?_
  refine Y1 hO rfl rfl (fun w hO => ?_)
  simp only [List.set_cons_zero, List.set_cons_succ] at hO
  refine K2 (K3 (K0 (K0 (K1 ?_))))
  refine l_y rfl rfl (y_move rfl) ?_
  refine K2 (K3 (L9 (K5 (K3 (K0 (L5 (K3 (K0 (K4 ?_)))))))))
  refine c_rounds (X := Nat × TX) (fun x => [(0, .pointer (some ⟨b, 0, none⟩)), (4, .int .i64 0), (5, .pointer (some ⟨b5, 0, none⟩))]) (fun x w => Own k w [blk b 65 (bC a s l r x.2.q), mpV r .i64 rulesL, arenaL a x.2.A, stkL s a x.2.st, actL l a x.2.es, blk b5 67 (Api_token.cells (tk kd nm ch))] ∧ (I x.1 x.2)) (fun x => x.1) ((n0, x0)) ⟨rfl, rfl, rfl, trivial⟩ ⟨hO.only [.b b, .o r, .o a, .o s, .o l, .b b5], h0⟩ ?_
  rintro x w m hm ⟨hO, hI⟩
  obtain ⟨hbi, hl, f, hF, hlook, hcall⟩ := hstep _ _ hI
  refine K4 (K0 (K1 ?_))
  refine l_y rfl rfl (y_assign rfl) ?_
  refine K2 (K3 (K0 (K0 (K1 ?_))))
  refine l_y rfl rfl (y_move rfl) ?_
  refine l_y rfl rfl (D8 (cs := [.int .i64 kd, .string nm, .string ⟨#[]⟩, .string ⟨#[]⟩, .int .i64 0, .bool false, .int .i32 ch, .bool false, .slice none 0 0]) hO rfl) ?_
  refine CK [.b b, .o a, .o s] hO rfl (fun k' hx hr hO' => b_native_spec (kd := kd) (nm := nm) (ch := ch) hbi hl hO') ?_
  rintro _ _ w ⟨rfl, rfl⟩ hO
  simp only [List.cons_append, List.nil_append] at hO
  refine K2 (K3 (L8 ?_))
  refine da_region (by intro c a d v w h; cases d <;> exact h) ?_
  have hO := hO.drew
  refine da_phase _ [] (SO.ks [.b b, .o r] hO) ?_
  refine dx_u 0 (by kernel_rfl) rfl rfl rfl (fun w => y_move rfl) ?_
  refine dx_u 1 (by kernel_rfl) rfl rfl rfl (fun w => y_nilCheck rfl rfl) ?_
  refine dx_u 2 (by kernel_rfl) rfl rfl rfl (fun w => y_fldb (o' := 3) rfl) ?_
  refine dx_y 3 (by kernel_rfl) rfl rfl rfl (fun w ⟨m, hw⟩ => D5 hw rfl) ?_
  refine dx_u 4 (by kernel_rfl) rfl rfl rfl (fun w => y_move rfl) ?_
  refine dx_u 5 (by kernel_rfl) rfl rfl rfl (fun w => y_nilCheck rfl rfl) ?_
  refine dx_u 6 (by kernel_rfl) rfl rfl rfl (fun w => y_fldb (o' := 4) rfl) ?_
  refine dx_y 7 (by kernel_rfl) rfl rfl rfl (fun w ⟨m, hw⟩ => D5 hw rfl) ?_
  refine dx_y 8 (by kernel_rfl) rfl rfl rfl (fun w ⟨m, hw⟩ => y_lookV hw rfl rfl hlook) ?_
  refine dx_u 9 (by kernel_rfl) rfl rfl rfl (fun w => y_assign rfl) ?_
  refine dx_end (by kernel_rfl) ?_
  refine K3 (K0 (K1 ?_))
  refine l_y rfl rfl (y_move rfl) ?_
  refine l_y rfl rfl (y_move rfl) ?_
  refine l_y rfl rfl (D8 (cs := [.int .i64 kd, .string nm, .string ⟨#[]⟩, .string ⟨#[]⟩, .int .i64 0, .bool false, .int .i32 ch, .bool false, .slice none 0 0]) hO rfl) ?_
  refine CKv [.b b, .o a, .o s, .o l] hO rfl rfl (fun k' hx hr hO' => hcall k' _ hO') ?_
  rintro _ _ w ⟨x2, bb, rfl, rfl, hor⟩ hO
  simp only [List.cons_append, List.nil_append] at hO
  refine l_y rfl rfl (y_not rfl rfl) ?_
  refine K2 (K3 ?_)
  refine c_split rfl (fun hc80 => ?_) (fun hc80 => ?_)
  · simp only [Bool.not_eq_true', Bool.not_eq_false'] at hc80
    refine K7 (L7 (L1 (L2 (K3 (K0 (K0 (K1 ?_)))))))
    refine l_y rfl rfl (y_fldb (o' := 0) rfl) ?_
    refine l_y rfl rfl (y_fldb (o' := 7) rfl) ?_
    refine l_y rfl rfl (D5 hO rfl) ?_
    refine l_y rfl rfl (y_move rfl) ?_
    repeat refine M2 ?_
    refine l_y rfl rfl (y_pick_f rfl rfl) ?_
    refine l_y rfl rfl (y_move rfl) ?_
    repeat refine M2 ?_
    refine l_y rfl rfl (y_pick_f rfl rfl) ?_
    refine K2 (K3 (L9 (K5 (K3 (K0 (K1 ?_))))))
    refine l_y rfl rfl (y_assign rfl) ?_
    refine K2 (K3 (K6 (L4 ?_)))
    rw [if_neg (by rw [hc80]; simp)] at hor
    exact fin1 rfl rfl ⟨_, ⟨x2, hor, rfl, rfl⟩, hO.only [.b b, .o r, .o a, .o s, .o l]⟩
  · simp only [Bool.not_eq_true', Bool.not_eq_false'] at hc80
    refine K5 (K8 ?_)
    rw [if_pos hc80] at hor
    obtain ⟨n2, hn2, hI2⟩ := hor
    exact q_next ((n2, x2)) ⟨rfl, rfl, rfl, trivial⟩ ⟨hO.only [.b b, .o r, .o a, .o s, .o l, .b b5], hI2⟩ (by dsimp only; omega)
end
end Go.Proofs.YtpejdlfkaaiehaaGreatDoor
end
section
set_option linter.unusedVariables false
set_option linter.unusedSimpArgs false
set_option maxRecDepth 100000
namespace Go.Proofs.YtpejdlfkaaiehaaGreatDoor
open Go Go.Hb Go.RowKit
theorem fr {P : Program} {k : Ctx} {w : World} {l As rl m0 : List HP} (qs : List Key) [hp : AtKs l qs As rl m0] {f : FuncId} {vs : Array Value} {R : Value → List HP → Prop} (hO : Own k w l) (hc : ∀ k', Own k' w As → Tri P f vs k' w R) : Ret P f vs w fun v w' => ∃ m, R v m ∧ Own k w' (m ++ rl) := Ret.framed hO hp.pulls fun k' _ _ h => hc k' h
/-- what is known of a builder's counts -/
structure QOk (x : TX) (n : Nat) : Prop where
  over : x.q.over = false
  e0 : 0 ≤ x.q.errs
  e9 : x.q.errs ≤ n
  len : x.A.length ≤ n
theorem BI.init : BI [docD] (fun _ => []) [] [] := ⟨Tree.new, by decide, by decide, StkI.nil, rfl, fun i hi => by simp at hi, fun n hn => by simp at hn⟩
/-- n steps are still to come of the first token -/
def Stg (n : Nat) (x : TX) : Prop := BI x.A x.K x.st x.ns ∧ QOk x 20 ∧ x.es = [] ∧
  ((n = 6 ∧ x.q.mode = 0 ∧ x.q.errs = 0 ∧ x.A = [docD] ∧ x.K = (fun _ => []) ∧ x.st = [] ∧ x.ns = []) ∨
   (n = 5 ∧ x.q.mode = 1 ∧ x.A = [docD] ∧ x.K = (fun _ => []) ∧ x.st = [] ∧ x.ns = []) ∨
   (n = 4 ∧ x.q.mode = 2 ∧ (∃ p d, x.A = addA [docD] (elementN p d 0 htmlS []) 0) ∧ x.K = addKK [docD] (fun _ => []) 0 ∧ x.st = [1] ∧ x.ns = [htmlS]) ∨
   (n = 3 ∧ x.q.mode = 3 ∧ (∃ p d p2 d2, x.A = addA (addA [docD] (elementN p d 0 htmlS []) 0) (elementN p2 d2 0 headS []) 1 ∧ x.K = addKK (addA [docD] (elementN p d 0 htmlS []) 0) (addKK [docD] (fun _ => []) 0) 1) ∧ x.st = [1, 2] ∧ x.ns = [htmlS, headS]) ∨
   (n = 2 ∧ x.q.mode = 5 ∧ (∃ p d p2 d2, x.A = addA (addA [docD] (elementN p d 0 htmlS []) 0) (elementN p2 d2 0 headS []) 1 ∧ x.K = addKK (addA [docD] (elementN p d 0 htmlS []) 0) (addKK [docD] (fun _ => []) 0) 1) ∧ x.st = [1] ∧ x.ns = [htmlS]))
/-- html, head and body are there -/
def Bod (x : TX) : Prop := BI x.A x.K x.st x.ns ∧ QOk x 20 ∧ x.es = [] ∧ x.q.mode = 6 ∧
  (∃ p d p2 d2 p3 d3, x.A = addA (addA (addA [docD] (elementN p d 0 htmlS []) 0) (elementN p2 d2 0 headS []) 1) (elementN p3 d3 0 bodyS []) 1 ∧ x.K = addKK (addA (addA [docD] (elementN p d 0 htmlS []) 0) (elementN p2 d2 0 headS []) 1) (addKK (addA [docD] (elementN p d 0 htmlS []) 0) (addKK [docD] (fun _ => []) 0) 1) 1) ∧ x.st = [1, 3] ∧ x.ns = [htmlS, bodyS]
section
variable {k : Ctx} {w : World} {b a s l r : Nat} {nm : ByteArray}
theorem el_kid (q : Option Addr) (d : Nat) (nm : ByteArray) : (elementN q d 0 nm []).Kind ≠ 0 ∧ (elementN q d 0 nm []).Kind ≠ 5 := ⟨show (1 : Int) ≠ 0 by decide, show (1 : Int) ≠ 5 by decide⟩
/-- a step of the first token; what comes behind the head is told for each name -/
theorem stg_step {R P : TX → Prop} {n : Nat} {x : TX} (hN : nm = pS ∨ nm = bodyS) (hI : Stg n x)
    (hlast : n = 2 → ∃ f, ∃ _ : Fun Tryz.prog f, lookV rulesL x.q.mode = some (.func (.func f) #[] #[]) ∧ ∀ k' w', Own k' w' [blk b 65 (bC a s l r x.q), arenaL a x.A, stkL s a x.st, actL l a x.es] →
      Tri Tryz.prog f #[.pointer (some ⟨b, 0, none⟩), .agg (Api_token.cells (tk 1 nm 0)).toArray] k' w' fun v m => ∃ x2 bb, v = .bool bb ∧ m = [blk b 65 (bC a s l r x2.q), arenaL a x2.A, stkL s a x2.st, actL l a x2.es] ∧ (if bb = true then P x2 else R x2)) :
    BI x.A x.K x.st x.ns ∧ x.st.length ≤ 1000000 ∧ ∃ f, ∃ _ : Fun Tryz.prog f, lookV rulesL x.q.mode = some (.func (.func f) #[] #[]) ∧ ∀ k' w', Own k' w' [blk b 65 (bC a s l r x.q), arenaL a x.A, stkL s a x.st, actL l a x.es] →
      Tri Tryz.prog f #[.pointer (some ⟨b, 0, none⟩), .agg (Api_token.cells (tk 1 nm 0)).toArray] k' w' fun v m => ∃ x2 bb, v = .bool bb ∧ m = [blk b 65 (bC a s l r x2.q), arenaL a x2.A, stkL s a x2.st, actL l a x2.es] ∧ (if bb = true then (∃ n2, n2 < n ∧ Stg n2 x2) ∨ P x2 else R x2) := by
  obtain ⟨hbi, hq, hes, hc⟩ := hI
  have hlen := hbi.len_st
  refine ⟨hbi, by have := hq.len; omega, ?_⟩
  obtain ⟨q, A, K, st, ns, es⟩ := x
  dsimp only at *
  rcases hc with ⟨rfl, hm, he0, rfl, rfl, rfl, rfl⟩ | ⟨rfl, hm, rfl, rfl, rfl, rfl⟩ | ⟨rfl, hm, ⟨p1, d1, hA⟩, hK, rfl, rfl⟩ | ⟨rfl, hm, ⟨p1, d1, p2, d2, hA, hK⟩, rfl, rfl⟩ | ⟨rfl, hm, _, rfl, rfl⟩
  · refine ⟨42, inferInstance, by rw [hm]; rfl, fun k' w' hO => ?_⟩
    refine Ret.mono (fr [.b b] hO fun k2 hO2 => b_initial_spec (Int.le_trans (show q.errs ≤ (20 : Nat) from hq.e9) (by decide)) hq.e0 hO2) ?_
    rintro v w2 ⟨m, ⟨rfl, rfl⟩, hO⟩
    refine ⟨_, ⟨⟨{ q with errs := q.errs + 1, quirk := 2, mode := 1 }, [docD], fun _ => [], [], [], es⟩, true, rfl, rfl, ?_⟩, hO⟩
    rw [if_pos rfl]
    exact .inl ⟨5, by omega, hbi, ⟨hq.over, by dsimp only; omega, by dsimp only; omega, hq.len⟩, hes, .inr (.inl ⟨rfl, rfl, rfl, rfl, rfl, rfl⟩)⟩
  · refine ⟨43, inferInstance, by rw [hm]; rfl, fun k' w' hO => ?_⟩
    refine Ret.mono (fr [.b b, .o a, .o s] hO fun k2 hO2 => b_beforeHTML_spec hN hbi (by decide) hO2) ?_
    rintro v w2 ⟨m, ⟨p1, d1, rfl, rfl⟩, hO⟩
    have g : AddOk [docD] (fun _ => []) (elementN p1 d1 0 htmlS []) 0 := addA_ok hbi.tree hbi.in0 hbi.doc (el_kid p1 d1 htmlS) (Nat.zero_le _)
    have h2 := (hbi.push g (by decide)).1
    refine ⟨_, ⟨⟨{ q with mode := 2 }, addA [docD] (elementN p1 d1 0 htmlS []) 0, addKK [docD] (fun _ => []) 0, [1], [htmlS], es⟩, true, rfl, rfl, ?_⟩, hO⟩
    rw [if_pos rfl]
    exact .inl ⟨4, by omega, h2, ⟨hq.over, hq.e0, hq.e9, by dsimp only; rw [addA_len]; decide⟩, hes, .inr (.inr (.inl ⟨rfl, rfl, ⟨p1, d1, rfl⟩, rfl, rfl, rfl⟩))⟩
  · refine ⟨44, inferInstance, by rw [hm]; rfl, fun k' w' hO => ?_⟩
    have hl : A.length = 2 := by rw [hA, addA_len]; rfl
    refine Ret.mono (fr [.b b, .o a, .o s] hO fun k2 hO2 => b_beforeHead_spec hN hbi (by simp) (by omega) hO2) ?_
    rintro v w2 ⟨m, ⟨p2, d2, rfl, rfl⟩, hO⟩
    have h2 := (hbi.push (hbi.addOk (by simp) (el_kid p2 d2 headS) (Nat.zero_le _)) (by decide)).1
    rw [hl] at h2 hO
    refine ⟨_, ⟨⟨{ q with head := ((2 : Nat) : Int), mode := 3 }, addA A (elementN p2 d2 0 headS []) 1, addKK A K 1, [1, 2], [htmlS, headS], es⟩, true, rfl, rfl, ?_⟩, hO⟩
    rw [if_pos rfl]
    exact .inl ⟨3, by omega, h2, ⟨hq.over, hq.e0, hq.e9, by dsimp only; rw [addA_len]; omega⟩, hes, .inr (.inr (.inr (.inl ⟨rfl, rfl, ⟨p1, d1, p2, d2, by dsimp only; rw [hA], by dsimp only; rw [hA, hK]⟩, rfl, rfl⟩)))⟩
  · refine ⟨45, inferInstance, by rw [hm]; rfl, fun k' w' hO => ?_⟩
    refine Ret.mono (fr [.b b, .o s] hO fun k2 hO2 => b_inHead_spec hN (by decide) hbi.ne hO2) ?_
    rintro v w2 ⟨m, ⟨rfl, rfl⟩, hO⟩
    simp only [List.cons_append, List.nil_append] at hO
    refine ⟨_, ⟨⟨{ q with mode := 5 }, A, K, [1], [htmlS], es⟩, true, rfl, rfl, ?_⟩, hO.ks [.b b, .o a, .o s, .o l]⟩
    rw [if_pos rfl]
    exact .inl ⟨2, by omega, hbi.take 1, ⟨hq.over, hq.e0, hq.e9, hq.len⟩, hes, .inr (.inr (.inr (.inr ⟨rfl, rfl, ⟨p1, d1, p2, d2, hA, hK⟩, rfl, rfl⟩)))⟩
  · obtain ⟨f, hF, hlk, hc⟩ := hlast rfl
    refine ⟨f, hF, hlk, fun k' w' hO => (hc k' w' hO).mono ?_⟩
    rintro v m ⟨x2, bb, h1, h2, h3⟩
    refine ⟨x2, bb, h1, h2, ?_⟩
    cases bb with
    | true => exact .inr h3
    | false => exact h3
theorem Stg.last {x : TX} (h : Stg 2 x) : BI x.A x.K [1] [htmlS] ∧ QOk x 20 ∧ x.es = [] ∧ x.q.mode = 5 ∧ (∃ p d p2 d2, x.A = addA (addA [docD] (elementN p d 0 htmlS []) 0) (elementN p2 d2 0 headS []) 1 ∧ x.K = addKK (addA [docD] (elementN p d 0 htmlS []) 0) (addKK [docD] (fun _ => []) 0) 1) ∧ x.st = [1] ∧ x.ns = [htmlS] := by
  obtain ⟨h1, h2, h3, h4⟩ := h
  rcases h4 with ⟨h, _⟩ | ⟨h, _⟩ | ⟨h, _⟩ | ⟨h, _⟩ | ⟨_, hm, ha, hs, hn⟩
  · omega
  · omega
  · omega
  · omega
  · rw [hs, hn] at h1; exact ⟨h1, h2, h3, hm, ha, hs, hn⟩
abbrev q1Q (q : BQ) : BQ := { q with framed := true, mode := 6 }
theorem stg_last1 {x : TX} (hN : nm = bodyS) (h : Stg 2 x) : ∃ f, ∃ _ : Fun Tryz.prog f, lookV rulesL x.q.mode = some (.func (.func f) #[] #[]) ∧ ∀ k' w', Own k' w' [blk b 65 (bC a s l r x.q), arenaL a x.A, stkL s a x.st, actL l a x.es] →
      Tri Tryz.prog f #[.pointer (some ⟨b, 0, none⟩), .agg (Api_token.cells (tk 1 nm 0)).toArray] k' w' fun v m => ∃ x2, v = .bool false ∧ m = [blk b 65 (bC a s l r x2.q), arenaL a x2.A, stkL s a x2.st, actL l a x2.es] ∧ Bod x2 := by
  obtain ⟨hbi, hq, hes, hm, ⟨p1, d1, p2, d2, hA, hK⟩, hst, hns⟩ := h.last
  refine ⟨47, inferInstance, by rw [hm]; rfl, fun k' w' hO => ?_⟩
  have hl : x.A.length = 3 := by rw [hA, addA_len, addA_len]; rfl
  rw [hst] at hO
  refine Ret.mono (fr [.b b, .o a, .o s] hO fun k2 hO2 => b_afterHead1_spec hN hbi (by simp) (by omega) hO2) ?_
  rintro v w2 ⟨m, ⟨p3, d3, rfl, rfl⟩, hO⟩
  have h2 := (hbi.push (hbi.addOk (by simp) (el_kid p3 d3 bodyS) (Nat.zero_le _)) (by decide)).1
  rw [hl] at h2 hO
  exact ⟨_, ⟨⟨q1Q x.q, addA x.A (elementN p3 d3 0 bodyS []) 1, addKK x.A x.K 1, [1, 3], [htmlS, bodyS], x.es⟩, rfl, rfl, h2, ⟨hq.over, hq.e0, hq.e9, by dsimp only; rw [addA_len]; omega⟩, hes, rfl, ⟨p1, d1, p2, d2, p3, d3, by dsimp only; rw [hA], by dsimp only; rw [hA, hK]⟩, rfl, rfl⟩, hO⟩
end
end Go.Proofs.YtpejdlfkaaiehaaGreatDoor
end
section
set_option linter.unusedVariables false
set_option linter.unusedSimpArgs false
namespace Go.Proofs.YtpejdlfkaaiehaaGreatDoor
open Go Go.Hb Go.RowKit
structure Loc (A : List Node_one) (K : Int → List Int) (B : List Node_one) (L : Int → List Int) (x y : Int) : Prop where
  ha : hasB A x = true
  hb : hasB B y = true
  kind : (nodeA A x).Kind = (nodeA B y).Kind
  space : (nodeA A x).Space = (nodeA B y).Space
  name : (nodeA A x).Name = (nodeA B y).Name
  data : (nodeA A x).Data = (nodeA B y).Data
  system : (nodeA A x).System = (nodeA B y).System
  attrs : (nodeA A x).Attrs = (nodeA B y).Attrs
  kids : (K x).length = (L y).length
  inner : (nodeA A x).Inner = -1 ↔ (nodeA B y).Inner = -1
noncomputable def locB (A : List Node_one) (K : Int → List Int) (B : List Node_one) (L : Int → List Int) (x y : Int) : Bool := @decide (Loc A K B L x y) (Classical.propDecidable _)
theorem locB_iff {A : List Node_one} {K : Int → List Int} {B : List Node_one} {L : Int → List Int} {x y : Int} : locB A K B L x y = true ↔ Loc A K B L x y := by simp [locB]
theorem locB_not {A : List Node_one} {K : Int → List Int} {B : List Node_one} {L : Int → List Int} {x y : Int} (h : ¬ Loc A K B L x y) : locB A K B L x y = false := by
  cases e : locB A K B L x y with
  | false => rfl
  | true => exact absurd (locB_iff.1 e) h
/-- the pairs right below a pair -/
def belowP (A : List Node_one) (K : Int → List Int) (B : List Node_one) (L : Int → List Int) (x y : Int) : List (Int × Int) := (if (nodeA A x).Inner = -1 then [] else [((nodeA A x).Inner, (nodeA B y).Inner)]) ++ (K x).zip (L y)
noncomputable def sameF (A : List Node_one) (K : Int → List Int) (B : List Node_one) (L : Int → List Int) : Nat → Int → Int → Bool
  | 0, _, _ => false
  | f + 1, x, y => locB A K B L x y && (belowP A K B L x y).all fun p => sameF A K B L f p.1 p.2
theorem below_cnt {A : List Node_one} {K : Int → List Int} (t : Tree A K) (g : InnOk A) {B : List Node_one} {L : Int → List Int} {x y : Int} (hx : InA A x) : ((belowP A K B L x y).map fun p => cnt A p.1).sum + 1 ≤ cnt A x := by
  have hz : (((K x).zip (L y)).map fun p => cnt A p.1).sum ≤ ((K x).map (cnt A)).sum := by
    generalize L y = m
    generalize K x = l
    induction l generalizing m with
    | nil => simp
    | cons a l ih =>
      cases m with
      | nil => simp
      | cons b m => have := ih m; simp only [List.zip_cons_cons, List.map_cons, List.sum_cons]; omega
  unfold belowP
  by_cases h : (nodeA A x).Inner = -1
  · rw [if_pos h, List.nil_append]
    have := kids_cnt t hx
    omega
  · rw [if_neg h]
    have := inner_cnt t g hx h
    simp only [List.cons_append, List.nil_append, List.map_cons, List.sum_cons]
    omega
theorem sum_memP {l : List (Int × Int)} {f : Int × Int → Nat} {c : Int × Int} (h : c ∈ l) : f c ≤ (l.map f).sum := by
  induction l with
  | nil => simp at h
  | cons y l ih =>
    simp only [List.map_cons, List.sum_cons]
    rcases List.mem_cons.1 h with rfl | h
    · omega
    · have := ih h; omega
theorem all_congr {α : Type} {l : List α} {f g : α → Bool} (h : ∀ x ∈ l, f x = g x) : l.all f = l.all g := by
  induction l with
  | nil => rfl
  | cons y l ih => simp only [List.all_cons, h y (by simp), ih fun x hx => h x (by simp [hx])]
theorem loc_out {A : List Node_one} {K : Int → List Int} {B : List Node_one} {L : Int → List Int} {x y : Int} (h : cnt A x = 0) : locB A K B L x y = false := locB_not fun g => by
  have := cnt_pos (inA_iff.1 g.ha); omega
theorem sameF_fuel {A : List Node_one} {K : Int → List Int} (t : Tree A K) (g : InnOk A) {B : List Node_one} {L : Int → List Int} : ∀ (f f' : Nat) (x y : Int), cnt A x ≤ f → cnt A x ≤ f' → sameF A K B L f x y = sameF A K B L f' x y
  | 0, 0, _, _, _, _ => rfl
  | 0, f' + 1, x, y, h, _ => by
    show false = (_ && _)
    rw [loc_out (by omega)]; rfl
  | f + 1, 0, x, y, _, h => by
    show (_ && _) = false
    rw [loc_out (by omega)]; rfl
  | f + 1, f' + 1, x, y, h, h' => by
    show (_ && _) = (_ && _)
    by_cases hx : hasB A x = true
    · have hb := below_cnt t g (B := B) (L := L) (y := y) (inA_iff.1 hx)
      congr 1
      refine all_congr fun p hp => ?_
      have := sum_memP (f := fun p => cnt A p.1) hp
      exact sameF_fuel t g f f' p.1 p.2 (by omega) (by omega)
    · rw [locB_not fun h => hx h.ha]; rfl
noncomputable def sameN (A : List Node_one) (K : Int → List Int) (B : List Node_one) (L : Int → List Int) (x y : Int) : Bool := sameF A K B L A.length x y
theorem sameN_step {A : List Node_one} {K : Int → List Int} (t : Tree A K) (g : InnOk A) {B : List Node_one} {L : Int → List Int} {x y : Int} : sameN A K B L x y = (locB A K B L x y && (belowP A K B L x y).all fun p => sameN A K B L p.1 p.2) := by
  have e : sameN A K B L x y = sameF A K B L (A.length + 1) x y := sameF_fuel t g _ _ _ _ cnt_le (Nat.le_succ_of_le cnt_le)
  rw [e]; rfl
theorem sameN_no {A : List Node_one} {K : Int → List Int} (t : Tree A K) (g : InnOk A) {B : List Node_one} {L : Int → List Int} {x y : Int} (h : ¬ Loc A K B L x y) : sameN A K B L x y = false := by
  rw [sameN_step t g, locB_not h]; rfl
theorem sameN_yes {A : List Node_one} {K : Int → List Int} (t : Tree A K) (g : InnOk A) {B : List Node_one} {L : Int → List Int} {x y : Int} (h : Loc A K B L x y) : sameN A K B L x y = (belowP A K B L x y).all fun p => sameN A K B L p.1 p.2 := by
  rw [sameN_step t g, locB_iff.2 h, Bool.true_and]
def errM (A : List Node_one) (id : Int) : Int := if hasB A id = true then 0 else 6
/-- what Node tells -/
def NX (A : List Node_one) (id : Int) (n : Api_node) : Prop := hasB A id = true → ∃ q d, n = ownN (nodeA A id) q d
theorem NX.kind {A : List Node_one} {id : Int} {n : Api_node} (h : NX A id n) (hb : hasB A id = true) : n.Kind = (nodeA A id).Kind := by obtain ⟨q, d, rfl⟩ := h hb; rfl
theorem NX.space {A : List Node_one} {id : Int} {n : Api_node} (h : NX A id n) (hb : hasB A id = true) : n.Space = (nodeA A id).Space := by obtain ⟨q, d, rfl⟩ := h hb; rfl
theorem NX.name {A : List Node_one} {id : Int} {n : Api_node} (h : NX A id n) (hb : hasB A id = true) : n.Name = (nodeA A id).Name := by obtain ⟨q, d, rfl⟩ := h hb; rfl
theorem NX.data {A : List Node_one} {id : Int} {n : Api_node} (h : NX A id n) (hb : hasB A id = true) : n.Data = (nodeA A id).Data := by obtain ⟨q, d, rfl⟩ := h hb; rfl
theorem NX.system {A : List Node_one} {id : Int} {n : Api_node} (h : NX A id n) (hb : hasB A id = true) : n.System = (nodeA A id).System := by obtain ⟨q, d, rfl⟩ := h hb; rfl
theorem NX.inner {A : List Node_one} {id : Int} {n : Api_node} (h : NX A id n) (hb : hasB A id = true) : n.Inner = (nodeA A id).Inner := by obtain ⟨q, d, rfl⟩ := h hb; rfl
theorem NX.attrs {A : List Node_one} {id : Int} {n : Api_node} (h : NX A id n) (hb : hasB A id = true) : n.Attrs = (nodeA A id).Attrs := by obtain ⟨q, d, rfl⟩ := h hb; rfl
section
variable {k : Ctx} {w : World}
theorem NodeX_spec {a : Nat} {A : List Node_one} {id : Int} (hn : 0 < A.length) (ha : AttrsOk A) (hO : Own k w [arenaL a A]) :
    Tri Tryz.prog 10 #[.pointer (some ⟨a, 0, none⟩), .int .i64 id] k w fun v m => ∃ n, NX A id n ∧ v = .tuple #[.agg (Api_node.cells n).toArray, .int .i64 (errM A id)] ∧ m = [arenaL a A, sls n.AttrsP n.AttrsC 81 4 Api_attr.cells n.Attrs] := by
  refine Ret.mono (Node_spec hn ha hO) ?_
  rintro v w' ⟨m, (⟨h, rfl, rfl⟩ | ⟨h, q, d, rfl, rfl⟩), hO⟩
  · refine ⟨_, ⟨default, (fun e => by rw [h] at e; cases e), by rw [errM, h]; rfl, rfl⟩, ?_⟩
    exact (sl_nil 81 4 hO).swap
  · exact ⟨_, ⟨_, fun _ => ⟨q, d, rfl⟩, by rw [errM, h]; rfl, rfl⟩, hO⟩
def kidsX (A : List Node_one) (K : Int → List Int) (id : Int) : List Int := if hasB A id = true then K id else []
theorem KidsX_spec {a : Nat} {A : List Node_one} {K : Int → List Int} {id : Int} (h : Tree A K) (h0 : 0 < A.length) (hl : A.length ≤ 32768) (hO : Own k w [arenaL a A]) :
    Tri Tryz.prog 40 #[.pointer (some ⟨a, 0, none⟩), .int .i64 id] k w fun v m => ∃ q d, v = .slice q (kidsX A K id).length d ∧ m = [arenaL a A, sls q d 3 1 (eI .i64) (kidsX A K id)] := by
  refine Ret.mono (Kids_spec (xs := kidsX A K id) h0 (by
    unfold kidsX
    split
    · next e => have := h.len (inA_iff.1 e); omega
    · exact Nat.zero_le _) (fun e => by rw [kidsX, if_pos e]; exact (h.lnk id (inA_iff.1 e)).chain) hO) ?_
  rintro v w' ⟨m, (⟨e, rfl, rfl⟩ | ⟨e, q, d, rfl, rfl⟩), hO⟩
  · have e2 : kidsX A K id = [] := by rw [kidsX, e, if_neg (by simp)]
    rw [e2]
    exact ⟨_, ⟨none, 0, rfl, rfl⟩, (sl_nil 3 1 hO).swap⟩
  · exact ⟨_, ⟨q, d, rfl, rfl⟩, hO⟩
/-- slices.Equal -/
theorem Equal_spec {xs ys : List Api_attr} {p q : Option Addr} {c d : Nat} (h1 : Sli (Ro k) (.slice p xs.length c) (xs.map Api_attr.cells)) (h2 : Sli (Ro k) (.slice q ys.length d) (ys.map Api_attr.cells)) (hl : xs.length ≤ 1000000) (hO : Own k w []) :
    Tri Tryz.prog 41 #[.slice p xs.length c, .slice q ys.length d] k w fun v m => v = .bool (decide (xs = ys)) ∧ m = [] := by
  refine enter (args := [.slice p xs.length c, .slice q ys.length d]) Tryz.func41 rfl rfl ?_
  have hgp := sli_gs h1
  have hgq := sli_gs h2
  refine K0 (K1 ?_)
  refine l_y rfl rfl (y_assign rfl) ?_
  refine K2 (K3 (K0 (K0 (K1 ?_))))
  refine l_y rfl rfl (y_move rfl) ?_
  refine l_y rfl rfl (y_lenL rfl) ?_
  refine l_y rfl rfl (y_move rfl) ?_
  refine l_y rfl rfl (y_lenL rfl) ?_
  refine Z1 (fun h1_4 => ?_) (fun h1_4 => ?_)
  · refine K2 (K3 (L8 (K0 (K1 ?_))))
    refine l_y rfl rfl (y_assign rfl) ?_
    refine K2 (K3 (K6 (K9 ?_)))
    exact fin1 rfl rfl ⟨_, ⟨by rw [decide_eq_false fun e => h1_4 (by rw [e])], rfl⟩, hO⟩
  · refine K2 (K3 (L9 (K5 (K3 (K0 (K0 (K1 ?_)))))))
    refine l_y rfl rfl (y_move rfl) ?_
    refine l_y rfl rfl (y_lenL rfl) ?_
    refine l_y rfl rfl (y_move rfl) ?_
    refine K2 (K3 (K4 ?_))
    refine c_rounds (X := Nat) (fun i => [(0, .slice p xs.length c), (1, .slice q ys.length d), (4, .bool false), (12, .int .i64 ((xs.length : Nat) : Int)), (13, .int .i64 (i : Int))]) (fun i w => Own k w [] ∧ (i ≤ xs.length ∧ ∀ j, j < i → at_ xs j = at_ ys j)) (fun i => xs.length - i) (0) ⟨rfl, rfl, rfl, rfl, rfl, trivial⟩ ⟨hO.only [], ⟨Nat.zero_le _, fun j h => absurd h (Nat.not_lt_zero _)⟩⟩ ?_
    rintro i w m hm ⟨hO, hi⟩
    refine K0 (K1 ?_)
    refine Z0 (fun h4_0 => ?_) (fun h4_0 => ?_)
    · refine K2 (K3 (K0 (L8 (K5 (K3 (K0 (K4 (K0 (K1 ?_)))))))))
      refine l_y rfl rfl (y_move rfl) ?_
      refine l_y rfl rfl (y_assign rfl) ?_
      refine K2 (K3 (K0 ?_))
      refine da_region (by intro c a d v w h; cases d <;> exact h) ?_
      have hO := hO.drew
      refine da_phase _ [] (SO.ks [] hO) ?_
      refine dx_u 0 (by kernel_rfl) rfl rfl rfl (fun w => y_move rfl) ?_
      refine dx_u 1 (by kernel_rfl) rfl rfl rfl (fun w => y_move rfl) ?_
      refine dx_u 2 (by kernel_rfl) rfl rfl rfl (fun w => y_idx rfl rfl) ?_
      refine dx_y 3 (by kernel_rfl) rfl rfl rfl (fun w ⟨m, hw⟩ => y_rA (x0 := 0) (enc := Api_attr.cells) (xs := xs) (cs := [.int .i64 (at_ xs ((i : Int) : Int).toNat).Space, .string (at_ xs ((i : Int) : Int).toNat).Prefix, .string (at_ xs ((i : Int) : Int).toNat).Name, .string (at_ xs ((i : Int) : Int).toNat).Value]) hw rfl) ?_
      refine dx_u 4 (by kernel_rfl) rfl rfl rfl (fun w => y_move rfl) ?_
      refine dx_u 5 (by kernel_rfl) rfl rfl rfl (fun w => y_move rfl) ?_
      refine dx_u 6 (by kernel_rfl) rfl rfl rfl (fun w => y_idx rfl rfl) ?_
      refine dx_y 7 (by kernel_rfl) rfl rfl rfl (fun w ⟨m, hw⟩ => y_rA (x0 := 0) (enc := Api_attr.cells) (xs := ys) (cs := [.int .i64 (at_ ys ((i : Int) : Int).toNat).Space, .string (at_ ys ((i : Int) : Int).toNat).Prefix, .string (at_ ys ((i : Int) : Int).toNat).Name, .string (at_ ys ((i : Int) : Int).toNat).Value]) hw rfl) ?_
      refine dx_y 8 (by kernel_rfl) rfl rfl rfl (fun w ⟨m, hw⟩ => y_neA (enc := Api_attr.cells) (a := at_ xs i) (b := at_ ys i) rfl rfl rfl) ?_
      refine dx_end (by kernel_rfl) ?_
      refine K3 ?_
      refine c_split rfl (fun hc24 => ?_) (fun hc24 => ?_)
      · simp only [Bool.not_eq_true', Bool.not_eq_false'] at hc24
        refine K0 ?_
        have hne : ¬ at_ xs i = at_ ys i := by simpa using hc24
        refine K1 ?_
        refine l_y rfl rfl (y_assign rfl) ?_
        refine K2 (K3 (K6 (L0 (K9 (K9 (L0 (K9 ?_)))))))
        exact fin1 rfl rfl ⟨_, ⟨by rw [decide_eq_false fun e => hne (by rw [e])], rfl⟩, hO⟩
      · simp only [Bool.not_eq_true', Bool.not_eq_false'] at hc24
        refine K5 (K8 (K3 ?_))
        have heq : at_ xs i = at_ ys i := by simpa using hc24
        refine K1 ?_
        refine l_y rfl rfl (D4) ?_
        refine l_y rfl rfl (y_move rfl) ?_
        refine K2 ?_
        exact q_next (i + 1) ⟨rfl, rfl, rfl, rfl, rfl, trivial⟩ ⟨hO.only [], ⟨by omega, fun j hj => if e : j = i then (by rw [e]; exact heq) else hi.2 j (by omega)⟩⟩ (by omega)
    · refine K2 (K3 (K0 (L9 (K7 (L1 (L1 (L2 (K3 (K0 (K1 ?_))))))))))
      refine l_y rfl rfl (y_assign rfl) ?_
      refine K2 (K3 (K6 ?_))
      have e : xs = ys := at_ext (by omega) fun j hj => hi.2 j (by omega)
      exact fin1 rfl rfl ⟨_, ⟨by rw [decide_eq_true e], rfl⟩, hO⟩
end
end Go.Proofs.YtpejdlfkaaiehaaGreatDoor
end
section
set_option linter.unusedVariables false
set_option linter.unusedSimpArgs false
set_option maxRecDepth 100000
namespace Go.Proofs.YtpejdlfkaaiehaaGreatDoor
open Go Go.Hb Go.RowKit
section
variable {k : Ctx} {w : World}
/-- a pile in memory -/
def piletwin (b : Nat) (xs : List Show_twin) : HP := fun h => ∃ x : Option Addr × Nat, sep [blk b 89 [.slice x.1 xs.length x.2], sls x.1 x.2 92 2 Show_twin.cells xs] h
theorem piletwin_open {l : List HP} {b : Nat} {xs : List Show_twin} (hO : Own k w (piletwin b xs :: l)) : ∃ p c, Gs p xs.length ∧ xs.length ≤ c ∧ Own k w (blk b 89 [.slice p xs.length c] :: sls p c 92 2 Show_twin.cells xs :: l) := by
  obtain ⟨⟨p, c⟩, hO⟩ := Own.ex (A := fun x : Option Addr × Nat => sep [blk b 89 [.slice x.1 xs.length x.2], sls x.1 x.2 92 2 Show_twin.cells xs]) hO
  have hO := Own.open hO
  simp only [List.cons_append, List.nil_append] at hO
  exact ⟨p, c, (sls_fct (p := p) hO).2, (sls_fct (p := p) hO).1, hO⟩
theorem piletwin_shut {l : List HP} {b n : Nat} {xs : List Show_twin} {p : Option Addr} {c : Nat} (hO : Own k w (blk b 89 [.slice p n c] :: sls p c 92 2 Show_twin.cells xs :: l)) (hn : n = xs.length := by first | rfl | simp) : Own k w (piletwin b xs :: l) := by
  subst hn
  exact (Own.shut (l := [blk b 89 [.slice p xs.length c], sls p c 92 2 Show_twin.cells xs]) hO).tell fun h hA => ⟨(p, c), hA⟩
instance (priority := high) AtK.hpiletwin (b : Nat) (xs : List Show_twin) (l : List HP) : AtK (piletwin b xs :: l) (.o b) (piletwin b xs) l := ⟨.hd _ l⟩
theorem pushtwin_spec {b : Nat} {xs ys : List Show_twin} {q : Option Addr} {d : Nat} (hs : Sli (Ro k) (.slice q ys.length d) (ys.map Show_twin.cells)) (hl : xs.length + ys.length ≤ 1000000000) (hO : Own k w [piletwin b xs]) :
    Tri Tryz.prog 38 #[.pointer (some ⟨b, 0, none⟩), .slice q ys.length d] k w fun v m => m = [piletwin b (xs ++ ys)] := by
  refine enter (args := [.pointer (some ⟨b, 0, none⟩), .slice q ys.length d]) Tryz.func38 rfl rfl ?_
  obtain ⟨p, c, hg, hc, hO⟩ := piletwin_open hO
  have hgq := sli_gs hs
  refine K1 ?_
  refine l_y rfl rfl (y_move rfl) ?_
  refine l_y rfl rfl (y_move rfl) ?_
  refine l_y rfl rfl (y_nilCheck rfl rfl) ?_
  refine l_y rfl rfl (y_fldb (o' := 0) rfl) ?_
  refine l_y rfl rfl (D5 hO rfl) ?_
  refine l_y rfl rfl (y_move rfl) ?_
  refine s_app hO rfl rfl (src_ro hO (by assumption)) (fun p10 c10 w hO gs10 => ?_) (h63 := by omega) (hb := by omega)
  refine l_y rfl rfl (y_nilCheck rfl rfl) ?_
  refine l_y rfl rfl (y_fldb (o' := 0) rfl) ?_
  refine Y1 hO rfl rfl (fun w hO => ?_)
  simp only [List.set_cons_zero, List.set_cons_succ] at hO
  refine K2 ?_
  exact fin0 rfl ⟨_, rfl, (piletwin_shut (hO.ks [.b b, .p p10])).one⟩
theorem popNtwin_spec {b : Nat} (hO : Own k w [piletwin b []]) :
    Tri Tryz.prog 39 #[.pointer (some ⟨b, 0, none⟩)] k w fun v m => v = .tuple #[.agg (Show_twin.cells default).toArray, .bool false] ∧ m = [piletwin b []] := by
  refine enter (args := [.pointer (some ⟨b, 0, none⟩)]) Tryz.func39 rfl rfl ?_
  obtain ⟨p, c, hg, hc, hO⟩ := piletwin_open hO
  refine K0 (K1 ?_)
  refine s_alloc (vs := [.int .i64 0, .int .i64 0]) hO rfl rfl rfl fun b2 w hO => ?_
  refine l_y rfl rfl (y_assign rfl) ?_
  refine K2 (K3 (K0 (K1 ?_)))
  refine s_alloc (vs := [.int .i64 0, .int .i64 0]) hO rfl rfl rfl fun b4 w hO => ?_
  refine K2 (K3 (K0 (K1 ?_)))
  refine l_y rfl rfl (y_move rfl) ?_
  refine l_y rfl rfl (y_nilCheck rfl rfl) ?_
  refine l_y rfl rfl (y_fldb (o' := 0) rfl) ?_
  refine l_y rfl rfl (D5 hO rfl) ?_
  refine l_y rfl rfl (y_lenL rfl) ?_
  refine l_y rfl rfl (y_assign rfl) ?_
  refine K2 (K3 (K0 (K0 (K1 ?_))))
  refine l_y rfl rfl (y_move rfl) ?_
  refine N2 (hp := rfl) ?_
  refine K2 (K3 (L8 (K0 (K1 ?_))))
  refine l_y rfl rfl (D8 (cs := [.int .i64 0, .int .i64 0]) hO rfl) ?_
  refine Y3 hO rfl rfl (fun w hO => ?_)
  refine l_y rfl rfl (y_assign rfl) ?_
  refine K2 (K3 (K6 (K9 ?_)))
  exact finC1 hO rfl rfl rfl ⟨_, ⟨rfl, rfl⟩, (piletwin_shut (hO.ks [.b b, .p p])).one⟩
theorem poptwin_spec {b : Nat} {xs : List Show_twin} {x : Show_twin} (hl : xs.length ≤ 1000000000) (hO : Own k w [piletwin b (xs ++ [x])]) :
    Tri Tryz.prog 39 #[.pointer (some ⟨b, 0, none⟩)] k w fun v m => v = .tuple #[.agg (Show_twin.cells x).toArray, .bool true] ∧ m = [piletwin b xs] := by
  refine enter (args := [.pointer (some ⟨b, 0, none⟩)]) Tryz.func39 rfl rfl ?_
  obtain ⟨p, c, hg, hc, hO⟩ := piletwin_open hO
  obtain ⟨ys, hy⟩ : ∃ ys, ys = xs ++ [x] := ⟨_, rfl⟩
  have hyl : ys.length = xs.length + 1 := by rw [hy]; simp
  have hya : at_ ys xs.length = x := by rw [hy, at_app_new]
  rw [← hy] at hO hg hc
  refine K0 (K1 ?_)
  refine s_alloc (vs := [.int .i64 0, .int .i64 0]) hO rfl rfl rfl fun b2 w hO => ?_
  refine l_y rfl rfl (y_assign rfl) ?_
  refine K2 (K3 (K0 (K1 ?_)))
  refine s_alloc (vs := [.int .i64 0, .int .i64 0]) hO rfl rfl rfl fun b4 w hO => ?_
  refine K2 (K3 (K0 (K1 ?_)))
  refine l_y rfl rfl (y_move rfl) ?_
  refine l_y rfl rfl (y_nilCheck rfl rfl) ?_
  refine l_y rfl rfl (y_fldb (o' := 0) rfl) ?_
  refine l_y rfl rfl (D5 hO rfl) ?_
  refine l_y rfl rfl (y_lenL rfl) ?_
  refine l_y rfl rfl (y_assign rfl) ?_
  refine K2 (K3 (K0 (K0 (K1 ?_))))
  refine l_y rfl rfl (y_move rfl) ?_
  refine N3 ?_
  refine K2 (K3 (L9 (K5 (K3 (K0 ?_)))))
  refine da_region (by intro c a d v w h; cases d <;> exact h) ?_
  have hO := hO.drew
  refine da_phase _ [19] (SO.ks [.b b, .p p] hO) ?_
  refine dx_u 0 (by kernel_rfl) rfl rfl rfl (fun w => y_move rfl) ?_
  refine dx_u 1 (by kernel_rfl) rfl rfl rfl (fun w => y_move rfl) ?_
  refine dx_u 2 (by kernel_rfl) rfl rfl rfl (fun w => y_nilCheck rfl rfl) ?_
  refine dx_u 3 (by kernel_rfl) rfl rfl rfl (fun w => y_fldb (o' := 0) rfl) ?_
  refine dx_y 4 (by kernel_rfl) rfl rfl rfl (fun w ⟨m, hw⟩ => D5 hw rfl) ?_
  refine dx_u 5 (by kernel_rfl) rfl rfl rfl (fun w => y_move rfl) ?_
  refine dx_u 6 (by kernel_rfl) rfl rfl rfl (fun w => D4) ?_
  refine dx_u 7 (by kernel_rfl) rfl rfl rfl (fun w => y_idx rfl rfl) ?_
  refine dx_y 8 (by kernel_rfl) rfl rfl rfl (fun w ⟨m, hw⟩ => y_eA (x0 := 0) (cs := [.int .i64 (at_ ys ((((ys.length : Nat) : Int) - 1) : Int).toNat).x, .int .i64 (at_ ys ((((ys.length : Nat) : Int) - 1) : Int).toNat).y]) hw rfl) ?_
  refine dx_u 9 (by kernel_rfl) rfl rfl rfl (fun w => y_move rfl) ?_
  refine dx_u 10 (by kernel_rfl) rfl rfl rfl (fun w => y_nilCheck rfl rfl) ?_
  refine dx_u 11 (by kernel_rfl) rfl rfl rfl (fun w => y_fldb (o' := 0) rfl) ?_
  refine dx_y 12 (by kernel_rfl) rfl rfl rfl (fun w ⟨m, hw⟩ => D5 hw rfl) ?_
  refine dx_u 13 (by kernel_rfl) rfl rfl rfl (fun w => y_move rfl) ?_
  refine dx_u 14 (by kernel_rfl) rfl rfl rfl (fun w => D4) ?_
  refine dx_u 15 (by kernel_rfl) rfl rfl rfl (fun w => y_hd ((((ys.length : Nat) : Int) - 1) : Int).toNat rfl rfl) ?_
  refine dx_only 16 (by kernel_rfl) rfl rfl ?_
  refine Y3 hO rfl rfl (fun w hO => ?_)
  refine o_done ?_
  refine ⟨SO.ks [.b b, .p p] hO, ?_⟩
  refine dx_u 17 (by kernel_rfl) rfl rfl rfl (fun w => y_nilCheck rfl rfl) ?_
  refine dx_u 18 (by kernel_rfl) rfl rfl rfl (fun w => y_fldb (o' := 0) rfl) ?_
  refine dx_close 19 (by kernel_rfl) rfl rfl ?_
  refine Y1 hO rfl rfl (fun w hO => ?_)
  simp only [List.set_cons_zero, List.set_cons_succ] at hO
  refine o_done ?_
  refine da_end (by kernel_rfl) ?_
  refine K3 (K0 (K1 ?_))
  refine l_y rfl rfl (D8 (cs := [.int .i64 (at_ ys ((((ys.length : Nat) : Int) - 1) : Int).toNat).x, .int .i64 (at_ ys ((((ys.length : Nat) : Int) - 1) : Int).toNat).y]) hO rfl) ?_
  refine Y3 hO rfl rfl (fun w hO => ?_)
  refine l_y rfl rfl (y_assign rfl) ?_
  refine K2 (K3 (K6 ?_))
  have e1 : ((ys.length : Int) - 1).toNat = xs.length := by omega
  simp only [e1, hya] at hO
  have hO := sls_cut (hO.ks [.p p]) xs.length c (by omega) (by omega) (Nat.le_refl _)
  rw [show ys.take xs.length = xs by rw [hy]; simp] at hO
  exact finC1 hO rfl rfl rfl ⟨_, ⟨rfl, rfl⟩, (piletwin_shut (hO.ks [.b b, .p p])).one⟩
end
end Go.Proofs.YtpejdlfkaaiehaaGreatDoor
end
section
set_option linter.unusedVariables false
set_option linter.unusedSimpArgs false
set_option maxRecDepth 100000
namespace Go.Proofs.YtpejdlfkaaiehaaGreatDoor
open Go Go.Hb Go.RowKit
theorem errM_zero {A : List Node_one} {id : Int} (h : errM A id = 0) : hasB A id = true := by
  unfold errM at h
  split at h
  · assumption
  · cases h
def toT (p : Int × Int) : Show_twin := ⟨p.1, p.2⟩
def innT1 (A BB : List Node_one) (x y : Int) : List Show_twin := if (nodeA A x).Inner = -1 then [] else [⟨(nodeA A x).Inner, (nodeA BB y).Inner⟩]
theorem belowT {A : List Node_one} {K : Int → List Int} {BB : List Node_one} {LL : Int → List Int} {x y : Int} : (belowP A K BB LL x y).map toT = innT1 A BB x y ++ ((K x).zip (LL y)).map toT := by
  unfold belowP innT1
  split <;> simp [toT]
theorem zip_at {l m : List Int} {i : Nat} (h1 : i < l.length) (h2 : l.length = m.length) : ((l.zip m).map toT).take (i + 1) = ((l.zip m).map toT).take i ++ [⟨at_ l i, at_ m i⟩] := by
  rw [take_succ_at (by rw [List.length_map, List.length_zip]; omega)]
  congr 2
  refine at_eq ?_
  simp [List.getElem?_zip_eq_some, at_get h1, at_get (show i < m.length by omega), toT]
noncomputable def sumT (A : List Node_one) (l : List Show_twin) : Nat := (l.map fun p => cnt A p.x).sum
theorem sumT_app {A : List Node_one} {l m : List Show_twin} : sumT A (l ++ m) = sumT A l + sumT A m := by simp [sumT]
theorem sumT_one {A : List Node_one} {c : Show_twin} : sumT A [c] = cnt A c.x := by simp only [sumT, List.map_cons, List.map_nil, List.sum_cons, List.sum_nil]; omega
theorem sumT_below {A : List Node_one} {l : List (Int × Int)} : sumT A (l.map toT) = (l.map fun p => cnt A p.1).sum := by simp [sumT, toT, Function.comp_def]
theorem sumT_len {A : List Node_one} {l : List Show_twin} (h : ∀ p ∈ l, InA A p.x) : l.length ≤ sumT A l := by
  induction l with
  | nil => exact Nat.le_refl _
  | cons p l ih =>
    have h1 := cnt_pos (h p (by simp))
    have h2 := ih fun q hq => h q (by simp [hq])
    show l.length + 1 ≤ cnt A p.x + sumT A l
    omega
theorem below_in {A : List Node_one} {K : Int → List Int} (t : Tree A K) (g : InnOk A) {BB : List Node_one} {LL : Int → List Int} {x y : Int} (hx : InA A x) : ∀ p ∈ (belowP A K BB LL x y).map toT, InA A p.x := by
  rw [belowT]
  intro p hp
  rcases List.mem_append.1 hp with hp | hp
  · unfold innT1 at hp
    split at hp
    · simp at hp
    · next h => rw [List.mem_singleton.1 hp]; exact (inner_up t g hx h).1
  · obtain ⟨q, hq, rfl⟩ := List.mem_map.1 hp
    exact (kid_up t hx (List.of_mem_zip hq).1).1
section
variable {k : Ctx} {w : World}
/-- pop, both ways -/
theorem popT_spec {b : Nat} {xs : List Show_twin} (hl : xs.length ≤ 1000000000) (hO : Own k w [piletwin b xs]) :
    Tri Tryz.prog 39 #[.pointer (some ⟨b, 0, none⟩)] k w fun v m => ∃ t ok rest, (ok = true ∧ xs = rest ++ [t] ∨ ok = false ∧ xs = [] ∧ rest = []) ∧ v = .tuple #[.agg (Show_twin.cells t).toArray, .bool ok] ∧ m = [piletwin b rest] := by
  rcases List.eq_nil_or_concat xs with rfl | ⟨ys, z, rfl⟩
  · refine (popNtwin_spec hO).mono ?_
    rintro v m ⟨rfl, rfl⟩
    exact ⟨default, false, [], .inr ⟨rfl, rfl, rfl⟩, rfl, rfl⟩
  · rw [List.concat_eq_append] at hO hl
    simp only [List.length_append, List.length_cons, List.length_nil] at hl
    refine (poptwin_spec (by omega) hO).mono ?_
    rintro v m ⟨rfl, rfl⟩
    exact ⟨z, true, ys, .inl ⟨rfl, List.concat_eq_append⟩, rfl, rfl⟩
/-- what is known of the loop -/
structure SmI (A : List Node_one) (K : Int → List Int) (BB : List Node_one) (LL : Int → List Int) (x y : Int) (ok : Bool) (c : Show_twin) (l : List Show_twin) : Prop where
  res : sameN A K BB LL x y = ((!ok || sameN A K BB LL c.x c.y) && l.all fun p => sameN A K BB LL p.x p.y)
  off : ok = false → l = []
  sum : (if ok = true then cnt A c.x else 0) + sumT A l ≤ A.length
  all : ∀ p ∈ l, InA A p.x
theorem SmI.start {A : List Node_one} {K : Int → List Int} {BB : List Node_one} {LL : Int → List Int} {x y : Int} : SmI A K BB LL x y true ⟨x, y⟩ [] :=
  ⟨by simp, fun h => (by cases h), by rw [if_pos rfl]; exact cnt_le, fun p hp => by simp at hp⟩
theorem SmI.next {A : List Node_one} {K : Int → List Int} {BB : List Node_one} {LL : Int → List Int} {x y : Int} (t : Tree A K) (g : InnOk A) {c : Show_twin} {l : List Show_twin} (s : SmI A K BB LL x y true c l) (h : Loc A K BB LL c.x c.y) {ok : Bool} {c' : Show_twin} {l' : List Show_twin}
    (hp : ok = true ∧ l ++ (belowP A K BB LL c.x c.y).map toT = l' ++ [c'] ∨ ok = false ∧ l ++ (belowP A K BB LL c.x c.y).map toT = [] ∧ l' = []) :
    SmI A K BB LL x y ok c' l' ∧ (if ok = true then cnt A c'.x else 0) + sumT A l' < cnt A c.x + sumT A l := by
  have hx := inA_iff.1 h.ha
  have hb := below_cnt t g (B := BB) (L := LL) (y := c.y) hx
  have hi := below_in t g (BB := BB) (LL := LL) (y := c.y) hx
  have e1 : sumT A (l ++ (belowP A K BB LL c.x c.y).map toT) + 1 ≤ cnt A c.x + sumT A l := by rw [sumT_app, sumT_below]; omega
  have e2 : sameN A K BB LL x y = (l ++ (belowP A K BB LL c.x c.y).map toT).all fun p => sameN A K BB LL p.x p.y := by
    rw [s.res, sameN_yes t g h, List.all_append, List.all_map, Bool.and_comm]
    simp [toT, Function.comp_def]
  have e3 : ∀ p ∈ l ++ (belowP A K BB LL c.x c.y).map toT, InA A p.x := fun p hp => by
    rcases List.mem_append.1 hp with hp | hp
    · exact s.all p hp
    · exact hi p hp
  have e4 := s.sum
  rw [if_pos rfl] at e4
  rcases hp with ⟨rfl, e⟩ | ⟨rfl, e, rfl⟩
  · rw [e] at e1 e2 e3
    have e5 : sumT A (l' ++ [c']) = sumT A l' + cnt A c'.x := by rw [sumT_app, sumT_one]
    refine ⟨⟨?_, fun h => (by cases h), by rw [if_pos rfl]; omega, fun p hp => e3 p (by simp [hp])⟩, by rw [if_pos rfl]; omega⟩
    rw [e2, List.all_append, Bool.and_comm]; simp
  · rw [e] at e1 e2
    refine ⟨⟨by rw [e2]; rfl, fun _ => rfl, by rw [if_neg (by simp)]; show 0 + 0 ≤ _; omega, fun p hp => by simp at hp⟩, by rw [if_neg (by simp)]; show 0 + 0 < _; have := cnt_pos hx; omega⟩
set_option maxHeartbeats 4000000 in
theorem Same2_spec {a bb : Nat} {A BB : List Node_one} {K LL : Int → List Int} {x y : Int} (t : Tree A K) (g : InnOk A) (t2 : Tree BB LL) (h0 : 0 < A.length) (h02 : 0 < BB.length) (hl : A.length ≤ 1000) (hl2 : BB.length ≤ 1000) (hO : Own k w [arenaL a A, arenaL bb BB]) :
    Tri Tryz.prog 14 #[.pointer (some ⟨a, 0, none⟩), .int .i64 x, .pointer (some ⟨bb, 0, none⟩), .int .i64 y] k w fun v m => v = .bool (sameN A K BB LL x y) ∧ m = [arenaL a A, arenaL bb BB] := by
  refine enter (args := [.pointer (some ⟨a, 0, none⟩), .int .i64 x, .pointer (some ⟨bb, 0, none⟩), .int .i64 y]) Tryz.func14 rfl rfl ?_
  refine K0 (K1 ?_)
  refine l_y rfl rfl (y_assign rfl) ?_
  refine K2 (K3 (K0 (K1 ?_)))
  refine s_alloc (vs := [.slice none 0 0]) hO rfl rfl rfl fun b9 w hO => ?_
  refine K2 (K3 (K0 ?_))
  have hO := piletwin_shut (xs := []) (hO.ks [.b b9] |> sl_nil 92 2 |> Own.swap)
  refine K1 ?_
  refine l_y rfl rfl (y_move rfl) ?_
  refine l_y rfl rfl (y_move rfl) ?_
  refine s_build (parts := [(0, .tmp 19), (1, .tmp 20)]) (cs := [.int .i64 x, .int .i64 y]) rfl rfl (fun a ha => partsOf_sound ha _ _ rfl) (by kernel_rfl) ?_
  refine s_lit (parts := [(0, .tmp 21)]) (enc := Show_twin.cells) [⟨x, y⟩] [.agg [.int .i64 x, .int .i64 y].toArray] hO rfl (fun b22 w hO => ?_)
  refine CK [.o b9] hO rfl (fun k' hx hr hO' => pushtwin_spec (ys := [⟨x, y⟩]) (sls_roK (p := some ⟨b22, 0, none⟩) hr (sls_fct hO)) (by simp) (hO := hO')) ?_
  rintro _ _ w rfl hO
  simp only [List.cons_append, List.nil_append] at hO
  refine K2 (K3 (K0 (K0 (K1 ?_))))
  refine CK [.o b9] hO rfl (fun k' hx hr hO' => poptwin_spec (xs := []) (x := ⟨x, y⟩) (by simp) (hO := hO')) ?_
  rintro _ _ w ⟨rfl, rfl⟩ hO
  simp only [List.cons_append, List.nil_append] at hO
  refine l_y rfl rfl (y_move rfl) ?_
  refine l_y rfl rfl (y_extract rfl rfl) ?_
  refine l_y rfl rfl (y_extract rfl rfl) ?_
  refine s_alloc (vs := [.int .i64 0, .int .i64 0]) hO rfl rfl rfl fun b10 w hO => ?_
  refine Y3 hO rfl rfl (fun w hO => ?_)
  refine l_y rfl rfl (y_assign rfl) ?_
  refine K2 (K3 (K4 ?_))
  refine c_rounds (X := Nat × Bool × Show_twin × List Show_twin) (fun s => [(0, .pointer (some ⟨a, 0, none⟩)), (2, .pointer (some ⟨bb, 0, none⟩)), (8, .bool false), (9, .pointer (some ⟨b9, 0, none⟩)), (10, .pointer (some ⟨s.1, 0, none⟩)), (11, .bool s.2.1)]) (fun s w => Own k w [arenaL a A, arenaL bb BB, piletwin b9 s.2.2.2, blk s.1 92 (Show_twin.cells s.2.2.1)] ∧ (SmI A K BB LL x y s.2.1 s.2.2.1 s.2.2.2)) (fun s => (if s.2.1 = true then cnt A s.2.2.1.x else 0) + sumT A s.2.2.2) ((b10, true, ⟨x, y⟩, [])) ⟨rfl, rfl, rfl, rfl, rfl, rfl, trivial⟩ ⟨hO.only [.o a, .o bb, .o b9, .b b10], SmI.start⟩ ?_
  rintro s w m hm ⟨hO, hI⟩
  refine K0 (K0 (K1 ?_))
  refine l_y rfl rfl (y_move rfl) ?_
  refine K2 (K3 ?_)
  refine c_split rfl (fun hc28 => ?_) (fun hc28 => ?_)
  · refine K5 (K3 (K0 (K4 (K0 ?_))))
    have hI := hI
    have hm0 := hm
    rw [hc28, if_pos rfl] at hm0
    rw [hc28] at hI
    have hsl := hI.sum
    rw [if_pos rfl] at hsl
    have hstk := sumT_len hI.all
    refine K1 ?_
    refine l_y rfl rfl (y_move rfl) ?_
    refine l_y rfl rfl (y_fldb (o' := 0) rfl) ?_
    refine l_y rfl rfl (D5 hO rfl) ?_
    refine CK [.o a] hO rfl (fun k' hx hr hO' => NodeX_spec h0 t.attrs hO') ?_
    rintro _ _ w ⟨n, hn, rfl, rfl⟩ hO
    simp only [List.cons_append, List.nil_append] at hO
    refine l_y rfl rfl (y_move rfl) ?_
    refine l_y rfl rfl (y_extract rfl rfl) ?_
    refine l_y rfl rfl (y_extract rfl rfl) ?_
    refine s_alloc (vs := [.int .i64 0, .int .i64 0, .string ⟨#[]⟩, .slice none 0 0, .string ⟨#[]⟩, .string ⟨#[]⟩, .int .i64 0, .int .i64 0, .int .i64 0, .int .i64 0, .int .i64 0, .int .i64 0]) hO rfl rfl rfl fun b12 w hO => ?_
    refine Y3 hO rfl rfl (fun w hO => ?_)
    refine l_y rfl rfl (y_assign rfl) ?_
    refine K2 (K3 (K0 (K1 ?_)))
    refine l_y rfl rfl (y_move rfl) ?_
    refine l_y rfl rfl (y_fldb (o' := 1) rfl) ?_
    refine l_y rfl rfl (D5 hO rfl) ?_
    refine CK [.o bb] hO rfl (fun k' hx hr hO' => NodeX_spec h02 t2.attrs hO') ?_
    rintro _ _ w ⟨n2, hn2, rfl, rfl⟩ hO
    simp only [List.cons_append, List.nil_append] at hO
    refine l_y rfl rfl (y_move rfl) ?_
    refine l_y rfl rfl (y_extract rfl rfl) ?_
    refine l_y rfl rfl (y_extract rfl rfl) ?_
    refine s_alloc (vs := [.int .i64 0, .int .i64 0, .string ⟨#[]⟩, .slice none 0 0, .string ⟨#[]⟩, .string ⟨#[]⟩, .int .i64 0, .int .i64 0, .int .i64 0, .int .i64 0, .int .i64 0, .int .i64 0]) hO rfl rfl rfl fun b14 w hO => ?_
    refine Y3 hO rfl rfl (fun w hO => ?_)
    refine l_y rfl rfl (y_assign rfl) ?_
    refine K2 (K3 (K0 ?_))
    refine da_region (by intro c a d v w h; cases d <;> exact h) ?_
    have hO := hO.drew
    refine da_phase _ [7] (SO.ks [.b s.1] hO) ?_
    refine dx_u 0 (by kernel_rfl) rfl rfl rfl (fun w => y_move rfl) ?_
    refine dx_u 1 (by kernel_rfl) rfl rfl rfl (fun w => y_fldb (o' := 0) rfl) ?_
    refine dx_y 2 (by kernel_rfl) rfl rfl rfl (fun w ⟨m, hw⟩ => D5 hw rfl) ?_
    refine dx_u 4 (by kernel_rfl) rfl rfl rfl (fun w => y_move rfl) ?_
    refine dx_u 5 (by kernel_rfl) rfl rfl rfl (fun w => y_fldb (o' := 1) rfl) ?_
    refine dx_y 6 (by kernel_rfl) rfl rfl rfl (fun w ⟨m, hw⟩ => D5 hw rfl) ?_
    refine dx_only 3 (by kernel_rfl) rfl rfl ?_
    refine CK [.o a] hO rfl (fun k' hx hr hO' => KidsX_spec t h0 (by omega) hO') ?_
    rintro _ _ w ⟨q1, d1, rfl, rfl⟩ hO
    simp only [List.cons_append, List.nil_append] at hO
    refine o_done ?_
    refine ⟨SO.ks [.b s.1] hO, ?_⟩
    refine dx_close 7 (by kernel_rfl) rfl rfl ?_
    refine CK [.o bb] hO rfl (fun k' hx hr hO' => KidsX_spec t2 h02 (by omega) hO') ?_
    rintro _ _ w ⟨q2, d2, rfl, rfl⟩ hO
    simp only [List.cons_append, List.nil_append] at hO
    refine o_done ?_
    refine da_phase _ [] (SO.ks [] hO) ?_
    refine dx_u 8 (by kernel_rfl) rfl rfl rfl (fun w => y_assign rfl) ?_
    refine dx_u 9 (by kernel_rfl) rfl rfl rfl (fun w => y_assign rfl) ?_
    refine dx_end (by kernel_rfl) ?_
    refine K3 ?_
    refine c_cut (X := List Show_twin) (fun l1 => [(0, .pointer (some ⟨a, 0, none⟩)), (2, .pointer (some ⟨bb, 0, none⟩)), (8, .bool false), (9, .pointer (some ⟨b9, 0, none⟩)), (10, .pointer (some ⟨s.1, 0, none⟩)), (16, .slice q1 (kidsX A K s.2.2.1.x).length d1), (17, .slice q2 (kidsX BB LL s.2.2.1.y).length d2)]) (fun l1 w => Own k w [arenaL a A, arenaL bb BB, piletwin b9 l1, blk s.1 92 (Show_twin.cells s.2.2.1), sls q1 d1 3 1 (eI .i64) (kidsX A K s.2.2.1.x), sls q2 d2 3 1 (eI .i64) (kidsX BB LL s.2.2.1.y)] ∧ (Loc A K BB LL s.2.2.1.x s.2.2.1.y) ∧ (l1 = s.2.2.2 ++ innT1 A BB s.2.2.1.x s.2.2.1.y)) ?_ ?_
    · refine K4 (K0 (K1 ?_))
      refine l_y rfl rfl (y_move rfl) ?_
      refine Z1 (fun h9_1 => ?_) (fun h9_1 => ?_)
      · refine l_y rfl rfl (y_move rfl) ?_
        repeat refine M2 ?_
        refine l_y rfl rfl (y_pick_t rfl rfl) ?_
        refine l_y rfl rfl (y_move rfl) ?_
        repeat refine M2 ?_
        refine l_y rfl rfl (y_pick_t rfl rfl) ?_
        refine l_y rfl rfl (y_move rfl) ?_
        repeat refine M2 ?_
        refine l_y rfl rfl (y_pick_t rfl rfl) ?_
        refine l_y rfl rfl (y_move rfl) ?_
        repeat refine M2 ?_
        refine l_y rfl rfl (y_pick_t rfl rfl) ?_
        refine l_y rfl rfl (y_move rfl) ?_
        repeat refine M2 ?_
        refine l_y rfl rfl (y_pick_t rfl rfl) ?_
        refine l_y rfl rfl (y_move rfl) ?_
        repeat refine M2 ?_
        refine l_y rfl rfl (y_pick_t rfl rfl) ?_
        refine l_y rfl rfl (y_assign rfl) ?_
        refine K2 (K3 (L8 (K0 (K1 ?_))))
        refine l_y rfl rfl (y_assign rfl) ?_
        refine K2 (K3 (K6 (L0 (K9 (L0 (K9 (K9 (L0 (K9 ?_)))))))))
        have hno : ¬ Loc A K BB LL s.2.2.1.x s.2.2.1.y := by
          intro hl
          first | exact h9_1 (by rw [errM, if_pos hl.ha]) | exact h9_4 (by rw [errM, if_pos hl.hb]) | exact h9_11 (by rw [hn.kind hl.ha, hn2.kind hl.hb]; exact hl.kind) | exact h9_18 (by rw [hn.space hl.ha, hn2.space hl.hb]; exact hl.space) | exact h9_25 (by rw [hn.name hl.ha, hn2.name hl.hb]; exact hl.name) | exact h9_32 (by rw [hn.data hl.ha, hn2.data hl.hb]; exact hl.data) | exact h9_39 (by rw [hn.system hl.ha, hn2.system hl.hb]; exact hl.system)
        exact fin1 rfl rfl ⟨_, ⟨by rw [hI.res, sameN_no t g hno]; simp, rfl⟩, hO.only [.o a, .o bb]⟩
      · refine l_y rfl rfl (y_move rfl) ?_
        refine l_y rfl rfl (y_move rfl) ?_
        refine Z1 (fun h9_4 => ?_) (fun h9_4 => ?_)
        · refine l_y rfl rfl (y_pick_f rfl rfl) ?_
          refine l_y rfl rfl (y_move rfl) ?_
          repeat refine M2 ?_
          refine l_y rfl rfl (y_pick_t rfl rfl) ?_
          refine l_y rfl rfl (y_move rfl) ?_
          repeat refine M2 ?_
          refine l_y rfl rfl (y_pick_t rfl rfl) ?_
          refine l_y rfl rfl (y_move rfl) ?_
          repeat refine M2 ?_
          refine l_y rfl rfl (y_pick_t rfl rfl) ?_
          refine l_y rfl rfl (y_move rfl) ?_
          repeat refine M2 ?_
          refine l_y rfl rfl (y_pick_t rfl rfl) ?_
          refine l_y rfl rfl (y_move rfl) ?_
          repeat refine M2 ?_
          refine l_y rfl rfl (y_pick_t rfl rfl) ?_
          refine l_y rfl rfl (y_assign rfl) ?_
          refine K2 (K3 (L8 (K0 (K1 ?_))))
          refine l_y rfl rfl (y_assign rfl) ?_
          refine K2 (K3 (K6 (L0 (K9 (L0 (K9 (K9 (L0 (K9 ?_)))))))))
          have hno : ¬ Loc A K BB LL s.2.2.1.x s.2.2.1.y := by
            intro hl
            first | exact h9_1 (by rw [errM, if_pos hl.ha]) | exact h9_4 (by rw [errM, if_pos hl.hb]) | exact h9_11 (by rw [hn.kind hl.ha, hn2.kind hl.hb]; exact hl.kind) | exact h9_18 (by rw [hn.space hl.ha, hn2.space hl.hb]; exact hl.space) | exact h9_25 (by rw [hn.name hl.ha, hn2.name hl.hb]; exact hl.name) | exact h9_32 (by rw [hn.data hl.ha, hn2.data hl.hb]; exact hl.data) | exact h9_39 (by rw [hn.system hl.ha, hn2.system hl.hb]; exact hl.system)
          exact fin1 rfl rfl ⟨_, ⟨by rw [hI.res, sameN_no t g hno]; simp, rfl⟩, hO.only [.o a, .o bb]⟩
        · refine l_y rfl rfl (y_pick_f rfl rfl) ?_
          refine l_y rfl rfl (y_move rfl) ?_
          have hax := errM_zero h9_1
          have hbx := errM_zero h9_4
          refine l_y rfl rfl (y_fldb (o' := 0) rfl) ?_
          refine l_y rfl rfl (D5 hO rfl) ?_
          refine l_y rfl rfl (y_fldb (o' := 0) rfl) ?_
          refine l_y rfl rfl (D5 hO rfl) ?_
          refine Z1 (fun h9_11 => ?_) (fun h9_11 => ?_)
          · refine l_y rfl rfl (y_pick_f rfl rfl) ?_
            refine l_y rfl rfl (y_move rfl) ?_
            repeat refine M2 ?_
            refine l_y rfl rfl (y_pick_t rfl rfl) ?_
            refine l_y rfl rfl (y_move rfl) ?_
            repeat refine M2 ?_
            refine l_y rfl rfl (y_pick_t rfl rfl) ?_
            refine l_y rfl rfl (y_move rfl) ?_
            repeat refine M2 ?_
            refine l_y rfl rfl (y_pick_t rfl rfl) ?_
            refine l_y rfl rfl (y_move rfl) ?_
            repeat refine M2 ?_
            refine l_y rfl rfl (y_pick_t rfl rfl) ?_
            refine l_y rfl rfl (y_assign rfl) ?_
            refine K2 (K3 (L8 (K0 (K1 ?_))))
            refine l_y rfl rfl (y_assign rfl) ?_
            refine K2 (K3 (K6 (L0 (K9 (L0 (K9 (K9 (L0 (K9 ?_)))))))))
            have hno : ¬ Loc A K BB LL s.2.2.1.x s.2.2.1.y := by
              intro hl
              first | exact h9_1 (by rw [errM, if_pos hl.ha]) | exact h9_4 (by rw [errM, if_pos hl.hb]) | exact h9_11 (by rw [hn.kind hl.ha, hn2.kind hl.hb]; exact hl.kind) | exact h9_18 (by rw [hn.space hl.ha, hn2.space hl.hb]; exact hl.space) | exact h9_25 (by rw [hn.name hl.ha, hn2.name hl.hb]; exact hl.name) | exact h9_32 (by rw [hn.data hl.ha, hn2.data hl.hb]; exact hl.data) | exact h9_39 (by rw [hn.system hl.ha, hn2.system hl.hb]; exact hl.system)
            exact fin1 rfl rfl ⟨_, ⟨by rw [hI.res, sameN_no t g hno]; simp, rfl⟩, hO.only [.o a, .o bb]⟩
          · refine l_y rfl rfl (y_pick_f rfl rfl) ?_
            refine l_y rfl rfl (y_move rfl) ?_
            refine l_y rfl rfl (y_fldb (o' := 1) rfl) ?_
            refine l_y rfl rfl (D5 hO rfl) ?_
            refine l_y rfl rfl (y_fldb (o' := 1) rfl) ?_
            refine l_y rfl rfl (D5 hO rfl) ?_
            refine Z1 (fun h9_18 => ?_) (fun h9_18 => ?_)
            · refine l_y rfl rfl (y_pick_f rfl rfl) ?_
              refine l_y rfl rfl (y_move rfl) ?_
              repeat refine M2 ?_
              refine l_y rfl rfl (y_pick_t rfl rfl) ?_
              refine l_y rfl rfl (y_move rfl) ?_
              repeat refine M2 ?_
              refine l_y rfl rfl (y_pick_t rfl rfl) ?_
              refine l_y rfl rfl (y_move rfl) ?_
              repeat refine M2 ?_
              refine l_y rfl rfl (y_pick_t rfl rfl) ?_
              refine l_y rfl rfl (y_assign rfl) ?_
              refine K2 (K3 (L8 (K0 (K1 ?_))))
              refine l_y rfl rfl (y_assign rfl) ?_
              refine K2 (K3 (K6 (L0 (K9 (L0 (K9 (K9 (L0 (K9 ?_)))))))))
              have hno : ¬ Loc A K BB LL s.2.2.1.x s.2.2.1.y := by
                intro hl
                first | exact h9_1 (by rw [errM, if_pos hl.ha]) | exact h9_4 (by rw [errM, if_pos hl.hb]) | exact h9_11 (by rw [hn.kind hl.ha, hn2.kind hl.hb]; exact hl.kind) | exact h9_18 (by rw [hn.space hl.ha, hn2.space hl.hb]; exact hl.space) | exact h9_25 (by rw [hn.name hl.ha, hn2.name hl.hb]; exact hl.name) | exact h9_32 (by rw [hn.data hl.ha, hn2.data hl.hb]; exact hl.data) | exact h9_39 (by rw [hn.system hl.ha, hn2.system hl.hb]; exact hl.system)
              exact fin1 rfl rfl ⟨_, ⟨by rw [hI.res, sameN_no t g hno]; simp, rfl⟩, hO.only [.o a, .o bb]⟩
            · refine l_y rfl rfl (y_pick_f rfl rfl) ?_
              refine l_y rfl rfl (y_move rfl) ?_
              refine l_y rfl rfl (y_fldb (o' := 2) rfl) ?_
              refine l_y rfl rfl (D5 hO rfl) ?_
              refine l_y rfl rfl (y_fldb (o' := 2) rfl) ?_
              refine l_y rfl rfl (D5 hO rfl) ?_
              refine Z3 (fun h9_25 => ?_) (fun h9_25 => ?_)
              · refine l_y rfl rfl (y_pick_f rfl rfl) ?_
                refine l_y rfl rfl (y_move rfl) ?_
                repeat refine M2 ?_
                refine l_y rfl rfl (y_pick_t rfl rfl) ?_
                refine l_y rfl rfl (y_move rfl) ?_
                repeat refine M2 ?_
                refine l_y rfl rfl (y_pick_t rfl rfl) ?_
                refine l_y rfl rfl (y_assign rfl) ?_
                refine K2 (K3 (L8 (K0 (K1 ?_))))
                refine l_y rfl rfl (y_assign rfl) ?_
                refine K2 (K3 (K6 (L0 (K9 (L0 (K9 (K9 (L0 (K9 ?_)))))))))
                have hno : ¬ Loc A K BB LL s.2.2.1.x s.2.2.1.y := by
                  intro hl
                  first | exact h9_1 (by rw [errM, if_pos hl.ha]) | exact h9_4 (by rw [errM, if_pos hl.hb]) | exact h9_11 (by rw [hn.kind hl.ha, hn2.kind hl.hb]; exact hl.kind) | exact h9_18 (by rw [hn.space hl.ha, hn2.space hl.hb]; exact hl.space) | exact h9_25 (by rw [hn.name hl.ha, hn2.name hl.hb]; exact hl.name) | exact h9_32 (by rw [hn.data hl.ha, hn2.data hl.hb]; exact hl.data) | exact h9_39 (by rw [hn.system hl.ha, hn2.system hl.hb]; exact hl.system)
                exact fin1 rfl rfl ⟨_, ⟨by rw [hI.res, sameN_no t g hno]; simp, rfl⟩, hO.only [.o a, .o bb]⟩
              · refine l_y rfl rfl (y_pick_f rfl rfl) ?_
                refine l_y rfl rfl (y_move rfl) ?_
                refine l_y rfl rfl (y_fldb (o' := 4) rfl) ?_
                refine l_y rfl rfl (D5 hO rfl) ?_
                refine l_y rfl rfl (y_fldb (o' := 4) rfl) ?_
                refine l_y rfl rfl (D5 hO rfl) ?_
                refine Z3 (fun h9_32 => ?_) (fun h9_32 => ?_)
                · refine l_y rfl rfl (y_pick_f rfl rfl) ?_
                  refine l_y rfl rfl (y_move rfl) ?_
                  repeat refine M2 ?_
                  refine l_y rfl rfl (y_pick_t rfl rfl) ?_
                  refine l_y rfl rfl (y_assign rfl) ?_
                  refine K2 (K3 (L8 (K0 (K1 ?_))))
                  refine l_y rfl rfl (y_assign rfl) ?_
                  refine K2 (K3 (K6 (L0 (K9 (L0 (K9 (K9 (L0 (K9 ?_)))))))))
                  have hno : ¬ Loc A K BB LL s.2.2.1.x s.2.2.1.y := by
                    intro hl
                    first | exact h9_1 (by rw [errM, if_pos hl.ha]) | exact h9_4 (by rw [errM, if_pos hl.hb]) | exact h9_11 (by rw [hn.kind hl.ha, hn2.kind hl.hb]; exact hl.kind) | exact h9_18 (by rw [hn.space hl.ha, hn2.space hl.hb]; exact hl.space) | exact h9_25 (by rw [hn.name hl.ha, hn2.name hl.hb]; exact hl.name) | exact h9_32 (by rw [hn.data hl.ha, hn2.data hl.hb]; exact hl.data) | exact h9_39 (by rw [hn.system hl.ha, hn2.system hl.hb]; exact hl.system)
                  exact fin1 rfl rfl ⟨_, ⟨by rw [hI.res, sameN_no t g hno]; simp, rfl⟩, hO.only [.o a, .o bb]⟩
                · refine l_y rfl rfl (y_pick_f rfl rfl) ?_
                  refine l_y rfl rfl (y_move rfl) ?_
                  refine l_y rfl rfl (y_fldb (o' := 5) rfl) ?_
                  refine l_y rfl rfl (D5 hO rfl) ?_
                  refine l_y rfl rfl (y_fldb (o' := 5) rfl) ?_
                  refine l_y rfl rfl (D5 hO rfl) ?_
                  refine Z3 (fun h9_39 => ?_) (fun h9_39 => ?_)
                  · refine l_y rfl rfl (y_pick_f rfl rfl) ?_
                    refine l_y rfl rfl (y_assign rfl) ?_
                    refine K2 (K3 (L8 (K0 (K1 ?_))))
                    refine l_y rfl rfl (y_assign rfl) ?_
                    refine K2 (K3 (K6 (L0 (K9 (L0 (K9 (K9 (L0 (K9 ?_)))))))))
                    have hno : ¬ Loc A K BB LL s.2.2.1.x s.2.2.1.y := by
                      intro hl
                      first | exact h9_1 (by rw [errM, if_pos hl.ha]) | exact h9_4 (by rw [errM, if_pos hl.hb]) | exact h9_11 (by rw [hn.kind hl.ha, hn2.kind hl.hb]; exact hl.kind) | exact h9_18 (by rw [hn.space hl.ha, hn2.space hl.hb]; exact hl.space) | exact h9_25 (by rw [hn.name hl.ha, hn2.name hl.hb]; exact hl.name) | exact h9_32 (by rw [hn.data hl.ha, hn2.data hl.hb]; exact hl.data) | exact h9_39 (by rw [hn.system hl.ha, hn2.system hl.hb]; exact hl.system)
                    exact fin1 rfl rfl ⟨_, ⟨by rw [hI.res, sameN_no t g hno]; simp, rfl⟩, hO.only [.o a, .o bb]⟩
                  · refine l_y rfl rfl (y_pick_f rfl rfl) ?_
                    refine l_y rfl rfl (y_assign rfl) ?_
                    refine K2 (K3 (L9 (K0 ?_)))
                    have hna : n.Attrs.length ≤ 1024 := by rw [hn.attrs hax]; have h := inA_iff.1 hax; exact t.attrs _ (by have := h.1; have := h.2; omega)
                    have hkx : kidsX A K s.2.2.1.x = K s.2.2.1.x := by rw [kidsX, if_pos hax]
                    have hky : kidsX BB LL s.2.2.1.y = LL s.2.2.1.y := by rw [kidsX, if_pos hbx]
                    have hinn : Loc A K BB LL s.2.2.1.x s.2.2.1.y → (n.Inner = -1 ↔ n2.Inner = -1) := fun h => by rw [hn.inner hax, hn2.inner hbx]; exact h.inner
                    refine K1 ?_
                    refine l_y rfl rfl (y_fldb (o' := 3) rfl) ?_
                    refine l_y rfl rfl (D5 hO rfl) ?_
                    refine l_y rfl rfl (y_fldb (o' := 3) rfl) ?_
                    refine l_y rfl rfl (D5 hO rfl) ?_
                    refine CK [] hO rfl (fun k' hx hr hO' => Equal_spec (sls_roK (p := n.AttrsP) hr (sls_fct hO)) (sls_roK (p := n2.AttrsP) hr (sls_fct hO)) (by omega) hO') ?_
                    rintro _ _ w ⟨rfl, rfl⟩ hO
                    simp only [List.cons_append, List.nil_append] at hO
                    refine l_y rfl rfl (y_not rfl rfl) ?_
                    refine l_y rfl rfl (y_move rfl) ?_
                    refine l_split 104 rfl (fun hg104 => ?_) (fun hg104 => ?_)
                    · simp only [Bool.not_eq_true', Bool.not_eq_false'] at hg104
                      repeat refine M2 ?_
                      refine l_y rfl rfl (y_pick_t rfl rfl) ?_
                      refine l_y rfl rfl (y_move rfl) ?_
                      repeat refine M2 ?_
                      refine l_y rfl rfl (y_pick_t rfl rfl) ?_
                      refine l_y rfl rfl (y_assign rfl) ?_
                      refine K2 (K3 (L8 (K0 (K1 ?_))))
                      refine l_y rfl rfl (y_assign rfl) ?_
                      refine K2 (K3 (K6 (L0 (K9 (L0 (K9 (K9 (L0 (K9 ?_)))))))))
                      have hno : ¬ Loc A K BB LL s.2.2.1.x s.2.2.1.y := by
                        intro hl
                        first | exact (of_decide_eq_false hg104) (by rw [hn.attrs hax, hn2.attrs hbx]; exact hl.attrs) | exact h11_11 (by rw [hkx, hky]; exact congrArg _ hl.kids) | exact h11_19 ((hinn hl).1 h11_16) | exact h11_16 ((hinn hl).2 h11_19)
                      exact fin1 rfl rfl ⟨_, ⟨by rw [hI.res, sameN_no t g hno]; simp, rfl⟩, hO.only [.o a, .o bb]⟩
                    · simp only [Bool.not_eq_true', Bool.not_eq_false'] at hg104
                      refine l_y rfl rfl (y_move rfl) ?_
                      refine l_y rfl rfl (y_lenL rfl) ?_
                      refine l_y rfl rfl (y_move rfl) ?_
                      refine l_y rfl rfl (y_lenL rfl) ?_
                      refine Z1 (fun h11_11 => ?_) (fun h11_11 => ?_)
                      · refine l_y rfl rfl (y_pick_f rfl rfl) ?_
                        refine l_y rfl rfl (y_move rfl) ?_
                        repeat refine M2 ?_
                        refine l_y rfl rfl (y_pick_t rfl rfl) ?_
                        refine l_y rfl rfl (y_assign rfl) ?_
                        refine K2 (K3 (L8 (K0 (K1 ?_))))
                        refine l_y rfl rfl (y_assign rfl) ?_
                        refine K2 (K3 (K6 (L0 (K9 (L0 (K9 (K9 (L0 (K9 ?_)))))))))
                        have hno : ¬ Loc A K BB LL s.2.2.1.x s.2.2.1.y := by
                          intro hl
                          first | exact (of_decide_eq_false hg104) (by rw [hn.attrs hax, hn2.attrs hbx]; exact hl.attrs) | exact h11_11 (by rw [hkx, hky]; exact congrArg _ hl.kids) | exact h11_19 ((hinn hl).1 h11_16) | exact h11_16 ((hinn hl).2 h11_19)
                        exact fin1 rfl rfl ⟨_, ⟨by rw [hI.res, sameN_no t g hno]; simp, rfl⟩, hO.only [.o a, .o bb]⟩
                      · refine l_y rfl rfl (y_pick_f rfl rfl) ?_
                        refine l_y rfl rfl (y_move rfl) ?_
                        refine l_y rfl rfl (y_fldb (o' := 11) rfl) ?_
                        refine l_y rfl rfl (D5 hO rfl) ?_
                        refine Z0 (fun h11_16 => ?_) (fun h11_16 => ?_)
                        · refine l_y rfl rfl (y_fldb (o' := 11) rfl) ?_
                          refine l_y rfl rfl (D5 hO rfl) ?_
                          refine Z0 (fun h11_19 => ?_) (fun h11_19 => ?_)
                          · refine l_y rfl rfl (y_neB rfl rfl rfl) ?_
                            refine l_y rfl rfl (y_pick_f rfl rfl) ?_
                            refine l_y rfl rfl (y_assign rfl) ?_
                            refine K2 (K3 (L9 (K0 ?_)))
                            have hloc : Loc A K BB LL s.2.2.1.x s.2.2.1.y := ⟨hax, hbx, by rw [← hn.kind hax, ← hn2.kind hbx]; exact h9_11, by rw [← hn.space hax, ← hn2.space hbx]; exact h9_18, by rw [← hn.name hax, ← hn2.name hbx]; exact h9_25, by rw [← hn.data hax, ← hn2.data hbx]; exact h9_32, by rw [← hn.system hax, ← hn2.system hbx]; exact h9_39, by rw [← hn.attrs hax, ← hn2.attrs hbx]; exact of_decide_eq_true hg104, by rw [← hkx, ← hky]; omega, by rw [← hn.inner hax, ← hn2.inner hbx]; omega⟩
                            refine K1 ?_
                            refine l_y rfl rfl (y_fldb (o' := 11) rfl) ?_
                            refine l_y rfl rfl (D5 hO rfl) ?_
                            refine Z1 (fun h13_2 => ?_) (fun h13_2 => ?_)
                            · first
                              | (exfalso; omega)
                              | skip
                                refine l_y rfl rfl (y_assign rfl) ?_
                                refine K2 (K3 (L8 (K1 ?_)))
                                refine l_y rfl rfl (y_fldb (o' := 11) rfl) ?_
                                refine l_y rfl rfl (D5 hO rfl) ?_
                                refine l_y rfl rfl (y_fldb (o' := 11) rfl) ?_
                                refine l_y rfl rfl (D5 hO rfl) ?_
                                refine s_build (parts := [(0, .tmp 125), (1, .tmp 127)]) (cs := [.int .i64 n.Inner, .int .i64 n2.Inner]) rfl rfl (fun a ha => partsOf_sound ha _ _ rfl) (by kernel_rfl) ?_
                                refine s_lit (parts := [(0, .tmp 128)]) (enc := Show_twin.cells) [⟨n.Inner, n2.Inner⟩] [.agg [.int .i64 n.Inner, .int .i64 n2.Inner].toArray] hO rfl (fun b129 w hO => ?_)
                                refine CK [.o b9] hO rfl (fun k' hx hr hO' => pushtwin_spec (ys := [⟨n.Inner, n2.Inner⟩]) (sls_roK (p := some ⟨b129, 0, none⟩) hr (sls_fct hO)) (by simp only [List.length_cons, List.length_nil]; omega) (hO := hO')) ?_
                                rintro _ _ w rfl hO
                                simp only [List.cons_append, List.nil_append] at hO
                                have hl1 : s.2.2.2 ++ [⟨n.Inner, n2.Inner⟩] = s.2.2.2 ++ innT1 A BB s.2.2.1.x s.2.2.1.y := by rw [innT1, if_neg (by rw [← hn.inner hax]; omega), hn.inner hax, hn2.inner hbx]
                                refine K2 (K8 ?_)
                                exact q_cut (_) ⟨rfl, rfl, rfl, rfl, rfl, rfl, rfl, trivial⟩ ⟨hO.only [.o a, .o bb, .o b9, .b s.1, .p q1, .p q2], hloc, hl1⟩
                            · first
                              | (exfalso; omega)
                              | skip
                                have hl1 : s.2.2.2 = s.2.2.2 ++ innT1 A BB s.2.2.1.x s.2.2.1.y := by rw [innT1, if_pos (by rw [← hn.inner hax]; omega), List.append_nil]
                                refine l_y rfl rfl (y_assign rfl) ?_
                                refine K2 (K3 (L9 (K5 (K8 ?_))))
                                exact q_cut (_) ⟨rfl, rfl, rfl, rfl, rfl, rfl, rfl, trivial⟩ ⟨hO.only [.o a, .o bb, .o b9, .b s.1, .p q1, .p q2], hloc, hl1⟩
                          · refine l_y rfl rfl (y_neB rfl rfl rfl) ?_
                            refine l_y rfl rfl (y_pick_f rfl rfl) ?_
                            refine l_y rfl rfl (y_assign rfl) ?_
                            refine K2 (K3 (L8 (K0 (K1 ?_))))
                            refine l_y rfl rfl (y_assign rfl) ?_
                            refine K2 (K3 (K6 (L0 (K9 (L0 (K9 (K9 (L0 (K9 ?_)))))))))
                            have hno : ¬ Loc A K BB LL s.2.2.1.x s.2.2.1.y := by
                              intro hl
                              first | exact (of_decide_eq_false hg104) (by rw [hn.attrs hax, hn2.attrs hbx]; exact hl.attrs) | exact h11_11 (by rw [hkx, hky]; exact congrArg _ hl.kids) | exact h11_19 ((hinn hl).1 h11_16) | exact h11_16 ((hinn hl).2 h11_19)
                            exact fin1 rfl rfl ⟨_, ⟨by rw [hI.res, sameN_no t g hno]; simp, rfl⟩, hO.only [.o a, .o bb]⟩
                        · refine l_y rfl rfl (y_fldb (o' := 11) rfl) ?_
                          refine l_y rfl rfl (D5 hO rfl) ?_
                          refine Z0 (fun h11_19 => ?_) (fun h11_19 => ?_)
                          · refine l_y rfl rfl (y_neB rfl rfl rfl) ?_
                            refine l_y rfl rfl (y_pick_f rfl rfl) ?_
                            refine l_y rfl rfl (y_assign rfl) ?_
                            refine K2 (K3 (L8 (K0 (K1 ?_))))
                            refine l_y rfl rfl (y_assign rfl) ?_
                            refine K2 (K3 (K6 (L0 (K9 (L0 (K9 (K9 (L0 (K9 ?_)))))))))
                            have hno : ¬ Loc A K BB LL s.2.2.1.x s.2.2.1.y := by
                              intro hl
                              first | exact (of_decide_eq_false hg104) (by rw [hn.attrs hax, hn2.attrs hbx]; exact hl.attrs) | exact h11_11 (by rw [hkx, hky]; exact congrArg _ hl.kids) | exact h11_19 ((hinn hl).1 h11_16) | exact h11_16 ((hinn hl).2 h11_19)
                            exact fin1 rfl rfl ⟨_, ⟨by rw [hI.res, sameN_no t g hno]; simp, rfl⟩, hO.only [.o a, .o bb]⟩
                          · refine l_y rfl rfl (y_neB rfl rfl rfl) ?_
                            refine l_y rfl rfl (y_pick_f rfl rfl) ?_
                            refine l_y rfl rfl (y_assign rfl) ?_
                            refine K2 (K3 (L9 (K0 ?_)))
                            have hloc : Loc A K BB LL s.2.2.1.x s.2.2.1.y := ⟨hax, hbx, by rw [← hn.kind hax, ← hn2.kind hbx]; exact h9_11, by rw [← hn.space hax, ← hn2.space hbx]; exact h9_18, by rw [← hn.name hax, ← hn2.name hbx]; exact h9_25, by rw [← hn.data hax, ← hn2.data hbx]; exact h9_32, by rw [← hn.system hax, ← hn2.system hbx]; exact h9_39, by rw [← hn.attrs hax, ← hn2.attrs hbx]; exact of_decide_eq_true hg104, by rw [← hkx, ← hky]; omega, by rw [← hn.inner hax, ← hn2.inner hbx]; omega⟩
                            refine K1 ?_
                            refine l_y rfl rfl (y_fldb (o' := 11) rfl) ?_
                            refine l_y rfl rfl (D5 hO rfl) ?_
                            refine Z1 (fun h13_2 => ?_) (fun h13_2 => ?_)
                            · first
                              | (exfalso; omega)
                              | skip
                                refine l_y rfl rfl (y_assign rfl) ?_
                                refine K2 (K3 (L8 (K1 ?_)))
                                refine l_y rfl rfl (y_fldb (o' := 11) rfl) ?_
                                refine l_y rfl rfl (D5 hO rfl) ?_
                                refine l_y rfl rfl (y_fldb (o' := 11) rfl) ?_
                                refine l_y rfl rfl (D5 hO rfl) ?_
                                refine s_build (parts := [(0, .tmp 125), (1, .tmp 127)]) (cs := [.int .i64 n.Inner, .int .i64 n2.Inner]) rfl rfl (fun a ha => partsOf_sound ha _ _ rfl) (by kernel_rfl) ?_
                                refine s_lit (parts := [(0, .tmp 128)]) (enc := Show_twin.cells) [⟨n.Inner, n2.Inner⟩] [.agg [.int .i64 n.Inner, .int .i64 n2.Inner].toArray] hO rfl (fun b129 w hO => ?_)
                                refine CK [.o b9] hO rfl (fun k' hx hr hO' => pushtwin_spec (ys := [⟨n.Inner, n2.Inner⟩]) (sls_roK (p := some ⟨b129, 0, none⟩) hr (sls_fct hO)) (by simp only [List.length_cons, List.length_nil]; omega) (hO := hO')) ?_
                                rintro _ _ w rfl hO
                                simp only [List.cons_append, List.nil_append] at hO
                                have hl1 : s.2.2.2 ++ [⟨n.Inner, n2.Inner⟩] = s.2.2.2 ++ innT1 A BB s.2.2.1.x s.2.2.1.y := by rw [innT1, if_neg (by rw [← hn.inner hax]; omega), hn.inner hax, hn2.inner hbx]
                                refine K2 (K8 ?_)
                                exact q_cut (_) ⟨rfl, rfl, rfl, rfl, rfl, rfl, rfl, trivial⟩ ⟨hO.only [.o a, .o bb, .o b9, .b s.1, .p q1, .p q2], hloc, hl1⟩
                            · first
                              | (exfalso; omega)
                              | skip
                                have hl1 : s.2.2.2 = s.2.2.2 ++ innT1 A BB s.2.2.1.x s.2.2.1.y := by rw [innT1, if_pos (by rw [← hn.inner hax]; omega), List.append_nil]
                                refine l_y rfl rfl (y_assign rfl) ?_
                                refine K2 (K3 (L9 (K5 (K8 ?_))))
                                exact q_cut (_) ⟨rfl, rfl, rfl, rfl, rfl, rfl, rfl, trivial⟩ ⟨hO.only [.o a, .o bb, .o b9, .b s.1, .p q1, .p q2], hloc, hl1⟩
    · rintro l1 w ⟨hO, hloc, hl1⟩
      refine K0 ?_
      have hxi := inA_iff.1 hloc.ha
      have hkx : kidsX A K s.2.2.1.x = K s.2.2.1.x := by rw [kidsX, if_pos hloc.ha]
      have hky : kidsX BB LL s.2.2.1.y = LL s.2.2.1.y := by rw [kidsX, if_pos hloc.hb]
      have hkk := hloc.kids
      have hkl := t.len hxi
      have hll : l1.length ≤ s.2.2.2.length + 1 := by rw [hl1, List.length_append, innT1]; split <;> simp
      have hg1 := (sls_fct (p := q1) hO).2
      have hg2 := (sls_fct (p := q2) hO).2
      rw [hkx, hky] at hO
      rw [hkx] at hg1
      rw [hky] at hg2
      rw [hkx, hky]
      rw [show l1 = l1 ++ ((((K s.2.2.1.x).zip (LL s.2.2.1.y)).map toT).take 0) by simp] at hO
      refine K1 ?_
      refine l_y rfl rfl (y_move rfl) ?_
      refine l_y rfl rfl (y_lenL rfl) ?_
      refine l_y rfl rfl (y_move rfl) ?_
      refine K2 (K3 (K4 ?_))
      refine c_rounds (X := Nat) (fun i => [(0, .pointer (some ⟨a, 0, none⟩)), (2, .pointer (some ⟨bb, 0, none⟩)), (8, .bool false), (9, .pointer (some ⟨b9, 0, none⟩)), (10, .pointer (some ⟨s.1, 0, none⟩)), (16, .slice q1 (K s.2.2.1.x).length d1), (17, .slice q2 (LL s.2.2.1.y).length d2), (132, .int .i64 (((K s.2.2.1.x).length : Nat) : Int)), (133, .int .i64 (i : Int))]) (fun i w => Own k w [arenaL a A, arenaL bb BB, piletwin b9 (l1 ++ ((((K s.2.2.1.x).zip (LL s.2.2.1.y)).map toT).take i)), blk s.1 92 (Show_twin.cells s.2.2.1), sls q1 d1 3 1 (eI .i64) (K s.2.2.1.x), sls q2 d2 3 1 (eI .i64) (LL s.2.2.1.y)] ∧ (i ≤ (K s.2.2.1.x).length)) (fun i => (K s.2.2.1.x).length - i) (0) ⟨rfl, rfl, rfl, rfl, rfl, rfl, rfl, rfl, rfl, trivial⟩ ⟨hO.only [.o a, .o bb, .o b9, .b s.1, .p q1, .p q2], Nat.zero_le _⟩ ?_
      rintro i w m hm ⟨hO, hil⟩
      refine K0 (K1 ?_)
      refine Z0 (fun h16_0 => ?_) (fun h16_0 => ?_)
      · refine K2 (K3 (K0 (L8 (K5 (K3 (K0 (K4 (K0 (K1 ?_)))))))))
        refine l_y rfl rfl (y_move rfl) ?_
        refine l_y rfl rfl (y_assign rfl) ?_
        refine K2 (K3 ?_)
        refine da_region (by intro c a d v w h; cases d <;> exact h) ?_
        have hO := hO.drew
        refine da_phase _ [8] (SO.ks [.p q1, .p q2] hO) ?_
        refine dx_u 0 (by kernel_rfl) rfl rfl rfl (fun w => y_move rfl) ?_
        refine dx_u 1 (by kernel_rfl) rfl rfl rfl (fun w => y_move rfl) ?_
        refine dx_u 2 (by kernel_rfl) rfl rfl rfl (fun w => y_idx rfl rfl) ?_
        refine dx_y 3 (by kernel_rfl) rfl rfl rfl (fun w ⟨m, hw⟩ => y_e1 (x0 := 0) hw rfl) ?_
        refine dx_u 4 (by kernel_rfl) rfl rfl rfl (fun w => y_move rfl) ?_
        refine dx_u 5 (by kernel_rfl) rfl rfl rfl (fun w => y_move rfl) ?_
        refine dx_u 6 (by kernel_rfl) rfl rfl rfl (fun w => y_idx rfl rfl) ?_
        refine dx_y 7 (by kernel_rfl) rfl rfl rfl (fun w ⟨m, hw⟩ => y_e1 (x0 := 0) hw rfl) ?_
        refine dx_close 8 (by kernel_rfl) rfl rfl ?_
        refine s_build (parts := [(0, .tmp 139), (1, .tmp 143)]) (cs := [.int .i64 (at_ (K s.2.2.1.x) ((i : Int) : Int).toNat), .int .i64 (at_ (LL s.2.2.1.y) ((i : Int) : Int).toNat)]) rfl rfl (fun a ha => partsOf_sound ha _ _ rfl) (by kernel_rfl) ?_
        refine o_done ?_
        refine da_only 9 (by kernel_rfl) rfl ?_
        refine s_lit (parts := [(0, .tmp 144)]) (enc := Show_twin.cells) [⟨(at_ (K s.2.2.1.x) ((i : Int) : Int).toNat), (at_ (LL s.2.2.1.y) ((i : Int) : Int).toNat)⟩] [.agg [.int .i64 (at_ (K s.2.2.1.x) ((i : Int) : Int).toNat), .int .i64 (at_ (LL s.2.2.1.y) ((i : Int) : Int).toNat)].toArray] hO rfl (fun b145 w hO => ?_)
        refine o_done ?_
        refine da_only 10 (by kernel_rfl) rfl ?_
        refine CK [.o b9] hO rfl (fun k' hx hr hO' => pushtwin_spec (ys := [⟨at_ (K s.2.2.1.x) i, at_ (LL s.2.2.1.y) i⟩]) (sls_roK (p := some ⟨b145, 0, none⟩) hr (sls_fct hO)) (by simp only [List.length_append, List.length_take, List.length_cons, List.length_nil]; omega) (hO := hO')) ?_
        rintro _ _ w rfl hO
        simp only [List.cons_append, List.nil_append] at hO
        rw [List.append_assoc, ← zip_at (show i < (K s.2.2.1.x).length by omega) hkk] at hO
        refine o_done ?_
        refine da_end (by kernel_rfl) ?_
        refine K8 (K3 (K1 ?_))
        refine l_y rfl rfl (D4) ?_
        refine l_y rfl rfl (y_move rfl) ?_
        refine K2 ?_
        exact q_next (i + 1) ⟨rfl, rfl, rfl, rfl, rfl, rfl, rfl, rfl, rfl, trivial⟩ ⟨hO.only [.o a, .o bb, .o b9, .b s.1, .p q1, .p q2], by omega⟩ (by omega)
      · refine K2 (K3 (K0 (L9 (K7 (L1 (L1 (L2 (K8 (K3 (K0 (K0 ?_)))))))))))
        have ei : i = (K s.2.2.1.x).length := by omega
        rw [ei, List.take_of_length_le (by rw [List.length_map, List.length_zip]; omega), hl1, List.append_assoc, ← belowT] at hO
        refine K1 ?_
        refine l_y rfl rfl (D8 (cs := [.int .i64 s.2.2.1.x, .int .i64 s.2.2.1.y]) hO rfl) ?_
        refine K2 (K3 (K1 ?_))
        refine s_alloc (vs := [.int .i64 0, .int .i64 0]) hO rfl rfl rfl fun b10 w hO => ?_
        refine Y3 hO rfl rfl (fun w hO => ?_)
        refine K2 (K3 (K1 ?_))
        refine CK [.o b9] hO rfl (fun k' hx hr hO' => popT_spec (by rw [belowT]; simp only [List.length_append, List.length_map, List.length_zip] at hll ⊢; rw [hl1] at hll; simp only [List.length_append] at hll; omega) hO') ?_
        rintro _ _ w ⟨c2, ok2, l2, hp2, rfl, rfl⟩ hO
        simp only [List.cons_append, List.nil_append] at hO
        have hJ := hI.next t g hloc hp2
        refine l_y rfl rfl (y_move rfl) ?_
        refine l_y rfl rfl (y_extract rfl rfl) ?_
        refine l_y rfl rfl (y_extract rfl rfl) ?_
        refine Y3 hO rfl rfl (fun w hO => ?_)
        refine l_y rfl rfl (y_assign rfl) ?_
        refine K2 ?_
        exact q_next ((b10, ok2, c2, l2)) ⟨rfl, rfl, rfl, rfl, rfl, rfl, trivial⟩ ⟨hO.only [.o a, .o bb, .o b9, .b b10], hJ.1⟩ (by have h := hJ.2; dsimp only; omega)
  · refine K7 (L1 (L1 (L2 (K3 (K0 (K1 ?_))))))
    refine l_y rfl rfl (y_assign rfl) ?_
    refine K2 (K3 (K6 ?_))
    have hx := hI.res
    rw [hc28, hI.off hc28] at hx
    exact fin1 rfl rfl ⟨_, ⟨by rw [hx]; rfl, rfl⟩, hO.only [.o a, .o bb]⟩
end
end Go.Proofs.YtpejdlfkaaiehaaGreatDoor
end
section
set_option linter.unusedVariables false
set_option linter.unusedSimpArgs false
set_option maxRecDepth 100000
namespace Go.Proofs.YtpejdlfkaaiehaaGreatDoor
open Go Go.Hb Go.RowKit
/-- what show.Same looks at in a node, but for its links -/
def fldN (o : Node_one) : Int × Int × ByteArray × ByteArray × ByteArray × List Api_attr × Int := (o.Node.Kind, o.Node.Space, o.Node.Name, o.Node.Data, o.Node.System, o.Node.Attrs, o.Node.Inner)
theorem fld_core {o p : Node_one} (h : coreN o = coreN p) : fldN o = fldN p := by
  have := congrArg fldN h
  exact this
def Flds (A L : List Node_one) : Prop := A.length = L.length ∧ ∀ y, InA A y → fldN (at_ A y.toNat) = fldN (at_ L y.toNat)
section
variable {A B L M : List Node_one} {K : Int → List Int} {up id : Int} {n n' : Api_node}
theorem Flds.refl : Flds A A := ⟨rfl, fun _ _ => rfl⟩
theorem Flds.add (h : Flds A L) (g : AddOk A K n up) (e : fldN (blankN n) = fldN (blankN n')) : Flds (addA A n up) (L ++ [blankN n']) := by
  refine ⟨by rw [addA_len, List.length_append, h.1]; rfl, fun y hy => ?_⟩
  by_cases h0 : y < A.length
  · have hy0 : InA A y := ⟨hy.1, h0⟩
    have hyL : InA L y := ⟨hy.1, by rw [← h.1]; exact h0⟩
    rw [fld_core (addA_old g hy0), h.2 y hy0, at_old hyL]
  · have h1 := hy.2
    rw [addA_len] at h1
    obtain rfl : y = (A.length : Int) := by omega
    rw [fld_core (addA_new g), e]
    have e2 : at_ (L ++ [blankN n']) ((A.length : Nat) : Int).toNat = blankN n' := by rw [h.1]; exact at_new
    rw [e2]
theorem Flds.app (h : Flds A L) (e : fldN (blankN n) = fldN (blankN n')) : Flds (A ++ [blankN n]) (L ++ [blankN n']) := by
  refine ⟨by rw [List.length_append, List.length_append, h.1]; rfl, fun y hy => ?_⟩
  rcases inA_new.1 hy with hy | rfl
  · have hyL : InA L y := ⟨hy.1, by rw [← h.1]; exact hy.2⟩
    rw [at_old hy, at_old hyL]; exact h.2 y hy
  · have e2 : at_ (L ++ [blankN n']) ((A.length : Nat) : Int).toNat = blankN n' := by rw [h.1]; exact at_new
    rw [e2, at_new, e]
theorem Flds.link (h : Flds A L) (t : Tree A K) : Flds (linkL A up id (-1)).2 L := by
  refine ⟨linkL_len.trans h.1, fun y hy => ?_⟩
  have hy0 : InA A y := ⟨hy.1, by have := hy.2; rw [linkL_len] at this; exact this⟩
  rw [fld_core (linkL_core t hy.1)]; exact h.2 y hy0
/-- the second arena shows what the first shows -/
structure Twa (A B : List Node_one) (K : Int → List Int) : Prop where
  len : B.length = A.length
  tb : Tree B K
  eq : ∀ y, InA A y → fldN (at_ B y.toNat) = fldN (at_ A y.toNat)
  inn : ∀ y, InA A y → (nodeA A y).Inner = -1
theorem Twa.inB (h : Twa A B K) {y : Int} (hy : InA A y) : InA B y := ⟨hy.1, by rw [h.len]; exact hy.2⟩
theorem Twa.kind (h : Twa A B K) {y : Int} (hy : InA A y) : (nodeA B y).Kind = (nodeA A y).Kind := congrArg Prod.fst (h.eq y hy)
theorem Twa.kk (h : Twa A B K) : addKK B K up = addKK A K up := by unfold addKK addK; rw [h.len]
theorem Twa.ok (h : Twa A B K) (hu : InA A up) (ku : parentB (nodeA A up).Kind = true) (kid : n.Kind ≠ 0 ∧ n.Kind ≠ 5) (ha : n.Attrs.length ≤ 1024) : AddOk B K n up :=
  addA_ok h.tb (h.inB hu) (by rw [h.kind hu]; exact ku) kid ha
theorem Twa.add (h : Twa A B K) (gA : AddOk A K n up) (gB : AddOk B K n' up) (e : fldN (blankN n') = fldN (blankN n)) : Twa (addA A n up) (addA B n' up) (addKK A K up) := by
  refine ⟨by rw [addA_len, addA_len, h.len], by rw [← h.kk]; exact addA_tree gB, fun y hy => ?_, fun y hy => ?_⟩
  · by_cases h0 : y < A.length
    · have hy0 : InA A y := ⟨hy.1, h0⟩
      rw [fld_core (addA_old gA hy0), fld_core (addA_old gB (h.inB hy0))]; exact h.eq y hy0
    · have h1 := hy.2
      rw [addA_len] at h1
      obtain rfl : y = (A.length : Int) := by omega
      rw [fld_core (addA_new gA)]
      have := fld_core (addA_new gB)
      rw [h.len] at this
      rw [this, e]
  · by_cases h0 : y < A.length
    · have hy0 : InA A y := ⟨hy.1, h0⟩
      exact (core_inner (addA_old gA hy0)).trans (h.inn y hy0)
    · have h1 := hy.2
      rw [addA_len] at h1
      obtain rfl : y = (A.length : Int) := by omega
      exact core_inner (addA_new gA)
theorem Twa.of (hA : Flds A L) (hB : Flds B L) (t : Tree B K) (hi : ∀ i, i < L.length → (at_ L i).Node.Inner = -1) : Twa A B K := by
  have hl : B.length = A.length := hB.1.trans hA.1.symm
  refine ⟨hl, t, fun y hy => ?_, fun y hy => ?_⟩
  · rw [hA.2 y hy, hB.2 y ⟨hy.1, by rw [hl]; exact hy.2⟩]
  · have h2 := hA.2 y hy
    have h3 : (at_ A y.toNat).Node.Inner = (at_ L y.toNat).Node.Inner := congrArg (fun z : Int × Int × ByteArray × ByteArray × ByteArray × List Api_attr × Int => z.2.2.2.2.2.2) h2
    have h4 := hy.2; have h5 := hy.1; have h6 := hA.1
    exact h3.trans (hi _ (by omega))
theorem zip_self' : ∀ {l : List Int} {p : Int × Int}, p ∈ l.zip l → p.1 = p.2 ∧ p.1 ∈ l
  | [], p, h => by simp at h
  | a :: l, p, h => by
    rw [List.zip_cons_cons, List.mem_cons] at h
    rcases h with rfl | h
    · exact ⟨rfl, by simp⟩
    · exact ⟨(zip_self' h).1, List.mem_cons_of_mem _ (zip_self' h).2⟩
theorem Twa.loc (h : Twa A B K) {y : Int} (hy : InA A y) : Loc A K B K y y := by
  have e := h.eq y hy
  have e1 := congrArg (fun z : Int × Int × ByteArray × ByteArray × ByteArray × List Api_attr × Int => z.1) e
  have e2 := congrArg (fun z : Int × Int × ByteArray × ByteArray × ByteArray × List Api_attr × Int => z.2.1) e
  have e3 := congrArg (fun z : Int × Int × ByteArray × ByteArray × ByteArray × List Api_attr × Int => z.2.2.1) e
  have e4 := congrArg (fun z : Int × Int × ByteArray × ByteArray × ByteArray × List Api_attr × Int => z.2.2.2.1) e
  have e5 := congrArg (fun z : Int × Int × ByteArray × ByteArray × ByteArray × List Api_attr × Int => z.2.2.2.2.1) e
  have e6 := congrArg (fun z : Int × Int × ByteArray × ByteArray × ByteArray × List Api_attr × Int => z.2.2.2.2.2.1) e
  have e7 := congrArg (fun z : Int × Int × ByteArray × ByteArray × ByteArray × List Api_attr × Int => z.2.2.2.2.2.2) e
  have e7 : (nodeA B y).Inner = (nodeA A y).Inner := e7
  exact ⟨hy.b, (h.inB hy).b, e1.symm, e2.symm, e3.symm, e4.symm, e5.symm, e6.symm, rfl, by rw [e7]⟩
theorem Twa.innok (h : Twa A B K) : InnOk A := fun y hy hn => absurd (h.inn y hy) hn
theorem Twa.sameF (t : Tree A K) (h : Twa A B K) : ∀ (f : Nat) (x : Int), InA A x → cnt A x ≤ f → sameF A K B K f x x = true
  | 0, x, hx, h => by have := cnt_pos hx; omega
  | f + 1, x, hx, hf => by
    show (locB A K B K x x && (belowP A K B K x x).all fun p => Go.Proofs.YtpejdlfkaaiehaaGreatDoor.sameF A K B K f p.1 p.2) = true
    rw [Bool.and_eq_true]
    refine ⟨locB_iff.2 (h.loc hx), List.all_eq_true.2 fun p hp => ?_⟩
    have hb := below_cnt t h.innok (B := B) (L := K) (y := x) hx
    have hm := sum_memP (f := fun p => cnt A p.1) hp
    have hp2 : p.1 = p.2 ∧ InA A p.1 := by
      unfold belowP at hp
      rw [if_pos (h.inn x hx), List.nil_append] at hp
      exact ⟨(zip_self' hp).1, (kid_up t hx (zip_self' hp).2).1⟩
    rw [← hp2.1]
    exact Twa.sameF t h f _ hp2.2 (by omega)
theorem Twa.same (t : Tree A K) (h : Twa A B K) {x : Int} (hx : InA A x) : sameN A K B K x x = true := Twa.sameF t h _ _ hx cnt_le
/-- a node without kids is above no other -/
theorem anc_leaf (t : Tree A K) (hk : ∀ y, InA A y → (nodeA A y).Kind ≠ 5) : ∀ {x y : Int}, Anc A x y → InA A x → K y = [] → 0 ≤ y → x = y := by
  intro x y h
  induction h with
  | refl x => intro _ _ _; rfl
  | @step x y h1 hs ih =>
    intro hx hy h0
    exfalso
    by_cases hp : (nodeA A x).Parent = -1
    · have e : nextUp A x = -1 := by rw [nextUp, if_pos hp]; exact t.hostK x hx (hk x hx)
      rw [e] at hs
      have := anc_none hs
      omega
    · obtain ⟨h2, h3⟩ := t.up x hx hp
      have e : nextUp A x = (nodeA A x).Parent := by rw [nextUp, if_neg hp]
      rw [e] at ih
      have := ih h2 hy h0
      rw [this, hy] at h3; simp at h3
theorem link_go2 (t : Tree A K) (hk : ∀ y, InA A y → (nodeA A y).Kind ≠ 5) (hu : InA A up) (hid : InA A id) (ku : parentB (nodeA A up).Kind = true) (ki : (nodeA A id).Kind ≠ 0 ∧ (nodeA A id).Kind ≠ 5) (hno : ∀ x, InA A x → id ∉ K x) (he : K id = []) (hne : up ≠ id) : (linkL A up id (-1)).1 = 0 := by
  refine link_go (before := -1) hu hid (.inl rfl) ku ki ?_ fun h => hne (anc_leaf t hk h hu he hid.1)
  by_cases hp : (nodeA A id).Parent = -1
  · exact hp
  · obtain ⟨h1, h2⟩ := t.up id hid hp
    exact absurd h2 (hno _ h1)
end
end Go.Proofs.YtpejdlfkaaiehaaGreatDoor
end
section
set_option linter.unusedVariables false
set_option linter.unusedSimpArgs false
set_option maxRecDepth 100000
namespace Go.Proofs.YtpejdlfkaaiehaaGreatDoor
open Go Go.Hb Go.RowKit
def bnL : List ByteArray := [⟨#[100, 105, 118]⟩, ⟨#[115, 101, 99, 116, 105, 111, 110]⟩, ⟨#[97, 114, 116, 105, 99, 108, 101]⟩]
theorem bn_cases {nm : ByteArray} (h : nm ∈ bnL) : nm = ⟨#[100, 105, 118]⟩ ∨ nm = ⟨#[115, 101, 99, 116, 105, 111, 110]⟩ ∨ nm = ⟨#[97, 114, 116, 105, 99, 108, 101]⟩ := by
  simpa [bnL] using h
section
variable {nm : ByteArray}
theorem bn_hno (h : nm ∈ bnL) : ∀ i, i < 2 → oneB nm (at_ startsL i).names = false := fun i hi => by
  have hi4 : i = 0 ∨ i = 1 := by omega
  rcases bn_cases h with rfl | rfl | rfl <;> rcases hi4 with rfl | rfl <;> (show oneB _ _ = false; kernel_rfl)
theorem bn_yes (h : nm ∈ bnL) : oneB nm (at_ startsL 2).names = true := by
  rcases bn_cases h with rfl | rfl | rfl <;> kernel_rfl
theorem bn_no (h : nm ∈ bnL) : (decide ((1 : Int) = 1) && oneB nm ⟨#[110, 111, 115, 99, 114, 105, 112, 116]⟩) = false := by
  rcases bn_cases h with rfl | rfl | rfl <;> kernel_rfl
theorem be_hno (h : nm ∈ bnL) : ∀ i, i < 4 → oneB nm (at_ endsL i).names = false := fun i hi => by
  have hi4 : i = 0 ∨ i = 1 ∨ i = 2 ∨ i = 3 := by omega
  rcases bn_cases h with rfl | rfl | rfl <;> rcases hi4 with rfl | rfl | rfl | rfl <;> (show oneB _ _ = false; kernel_rfl)
theorem be_yes (h : nm ∈ bnL) : oneB nm (at_ endsL 4).names = true := by
  rcases bn_cases h with rfl | rfl | rfl <;> kernel_rfl
theorem be_no : (decide ((2 : Int) = 1) && oneB nm ⟨#[110, 111, 115, 99, 114, 105, 112, 116]⟩) = false := rfl
theorem bn_nt (h : nm ∈ bnL) : inB nm templL = false ∧ inB nm tableL = false := by
  rcases bn_cases h with rfl | rfl | rfl <;> exact ⟨by decide, by decide⟩
theorem bn_size (h : nm ∈ bnL) : nm.size ≤ 1000 := by
  rcases bn_cases h with rfl | rfl | rfl <;> decide
theorem bn_p (h : nm ∈ bnL) : nm ≠ pS := by
  rcases bn_cases h with rfl | rfl | rfl <;> decide
theorem bn_imp (h : nm ∈ bnL) : implB ⟨#[]⟩ 0 nm = false := by
  rcases bn_cases h with rfl | rfl | rfl <;> decide
theorem bn_w (h : nm ∈ bnL) : wordsB nm = [nm] := by
  rcases bn_cases h with rfl | rfl | rfl <;> kernel_rfl
end
end Go.Proofs.YtpejdlfkaaiehaaGreatDoor
end
section
set_option linter.unusedVariables false
set_option linter.unusedSimpArgs false
set_option maxRecDepth 100000
namespace Go.Proofs.YtpejdlfkaaiehaaGreatDoor
open Go Go.Hb Go.RowKit
theorem dropL_top {is : Int → Bool} {l : List Int} (h : is (topI l) = false) : dropL is l = l := by
  rcases List.eq_nil_or_concat l with rfl | ⟨m, z, rfl⟩
  · rfl
  · rw [List.concat_eq_append] at h ⊢
    rw [topI_snoc] at h
    rw [dropL_snoc, h, if_neg (by simp)]
theorem BI.imp {A : List Node_one} {K : Int → List Int} {st : List Int} {ns : List ByteArray} (h : BI A K st ns) {but : ByteArray} {i : Nat} (hi : i < st.length) : implA A but (at_ st i) = implB but 0 (at_ ns i) := by
  obtain ⟨h1, h2, _⟩ := h.one i hi
  have e1 : (at_ A (at_ st i).toNat).Node.Space = 0 := h2
  have e2 : (at_ A (at_ st i).toNat).Node.Name = at_ ns i := h1
  rw [implA, e1, e2]
section
variable {k : Ctx} {w : World} {b a s l r : Nat} {nm : ByteArray}
end
end Go.Proofs.YtpejdlfkaaiehaaGreatDoor
end
section
set_option linter.unusedVariables false
set_option linter.unusedSimpArgs false
set_option maxRecDepth 100000
namespace Go.Proofs.YtpejdlfkaaiehaaGreatDoor
open Go Go.Hb Go.RowKit
abbrev eN (nm : ByteArray) : Node_one := blankN (elementN none 0 0 nm [])
def bodL : List Node_one := [docD] ++ [eN htmlS] ++ [eN headS] ++ [eN bodyS]
/-- three elements, not linked yet -/
def tri3 (p1 : Option Addr) (d1 : Nat) (p2 : Option Addr) (d2 : Nat) (p3 : Option Addr) (d3 : Nat) : List Node_one := [docD] ++ [blankN (elementN p1 d1 0 htmlS [])] ++ [blankN (elementN p2 d2 0 headS [])] ++ [blankN (elementN p3 d3 0 bodyS [])]
def tri3K : Int → List Int := fun _ => []
noncomputable def lnk1 (B : List Node_one) : List Node_one := (linkL B 0 1 (-1)).2
noncomputable def lnk2 (B : List Node_one) : List Node_one := (linkL (lnk1 B) 1 2 (-1)).2
noncomputable def lnk3 (B : List Node_one) : List Node_one := (linkL (lnk2 B) 1 3 (-1)).2
section
variable {p1 p2 p3 q1 q2 q3 : Option Addr} {d1 d2 d3 e1 e2 e3 : Nat}
theorem addK_nil {A : List Node_one} : addK A (fun _ => []) = fun _ => [] := by
  funext x; rw [addK]; split <;> rfl
theorem tri3_tree : Tree (tri3 p1 d1 p2 d2 p3 d3) tri3K := by
  have t1 := Tree.new.add (elementN p1 d1 0 htmlS []) (Nat.zero_le _)
  rw [addK_nil] at t1
  have t2 := t1.add (elementN p2 d2 0 headS []) (Nat.zero_le _)
  rw [addK_nil] at t2
  have t3 := t2.add (elementN p3 d3 0 bodyS []) (Nat.zero_le _)
  rw [addK_nil] at t3
  exact t3
theorem tri3_flds : Flds (tri3 p1 d1 p2 d2 p3 d3) bodL := (((Flds.refl (A := [docD])).app (n := elementN p1 d1 0 htmlS []) (n' := elementN none 0 0 htmlS []) rfl).app (n := elementN p2 d2 0 headS []) (n' := elementN none 0 0 headS []) rfl).app (n := elementN p3 d3 0 bodyS []) (n' := elementN none 0 0 bodyS []) rfl
theorem flds_kind {A : List Node_one} (h : Flds A bodL) {y : Int} (hy : InA A y) : (nodeA A y).Kind = if y = 0 then 0 else 1 := by
  have e : (nodeA A y).Kind = (nodeA bodL y).Kind := congrArg Prod.fst (h.2 y hy)
  have h1 := hy.1; have h2 := hy.2; have h3 : A.length = 4 := h.1
  rw [e]
  have h4 : y = 0 ∨ y = 1 ∨ y = 2 ∨ y = 3 := by omega
  rcases h4 with rfl | rfl | rfl | rfl <;> rfl
/-- one link of the three -/
theorem lnk_one {A : List Node_one} {K : Int → List Int} {up id : Int} (h : Flds A bodL) (t : Tree A K) (hu : up = 0 ∨ up = 1) (hi : id = 1 ∨ id = 2 ∨ id = 3) (hne : up ≠ id) (hno : ∀ x, id ∉ K x) (he : K id = []) : Flds (linkL A up id (-1)).2 bodL ∧ Tree (linkL A up id (-1)).2 (linkK K up id (-1)) := by
  have h3 : A.length = 4 := h.1
  have iu : InA A up := ⟨by omega, by omega⟩
  have ii : InA A id := ⟨by omega, by omega⟩
  refine ⟨h.link t, t.link (link_go2 t (fun y hy => ?_) iu ii ?_ ?_ (fun x _ => hno x) he hne)⟩
  · rw [flds_kind h hy]; split <;> decide
  · rw [flds_kind h iu]; split <;> rfl
  · rw [flds_kind h ii, if_neg (by omega)]; exact ⟨by decide, by decide⟩
def bodK : Int → List Int := fun x => if x = 0 then [1] else if x = 1 then [2, 3] else []
theorem bod3_ok : Flds (lnk3 (tri3 p1 d1 p2 d2 p3 d3)) bodL ∧ Tree (lnk3 (tri3 p1 d1 p2 d2 p3 d3)) bodK := by
  obtain ⟨f1, t1⟩ := lnk_one (up := 0) (id := 1) (tri3_flds (p1 := p1) (d1 := d1) (p2 := p2) (d2 := d2) (p3 := p3) (d3 := d3)) tri3_tree (.inl rfl) (.inl rfl) (by decide) (fun x => by simp [tri3K]) rfl
  have k1 : linkK tri3K 0 1 (-1) = fun x => if x = 0 then [1] else [] := by
    funext x; rw [linkK]; rfl
  rw [k1] at t1
  obtain ⟨f2, t2⟩ := lnk_one (up := 1) (id := 2) f1 t1 (.inr rfl) (.inr (.inl rfl)) (by decide) (fun x => by (try dsimp only); split <;> simp) rfl
  have k2 : linkK (fun x : Int => if x = 0 then [(1 : Int)] else []) 1 2 (-1) = fun x => if x = 0 then [1] else if x = 1 then [2] else [] := by
    funext x; rw [linkK]
    by_cases h : x = 1
    · subst h; rfl
    · rw [if_neg h, if_neg h]
  rw [k2] at t2
  obtain ⟨f3, t3⟩ := lnk_one (up := 1) (id := 3) f2 t2 (.inr rfl) (.inr (.inr rfl)) (by decide) (fun x => by (try dsimp only); split; simp; split <;> simp) rfl
  have k3 : linkK (fun x : Int => if x = 0 then [(1 : Int)] else if x = 1 then [2] else []) 1 3 (-1) = bodK := by
    funext x; rw [linkK, bodK]
    by_cases h : x = 1
    · subst h; rfl
    · simp only [if_neg h]
  rw [k3] at t3
  exact ⟨f3, t3⟩
theorem lnk1_tree : Flds (lnk1 (tri3 p1 d1 p2 d2 p3 d3)) bodL ∧ Tree (lnk1 (tri3 p1 d1 p2 d2 p3 d3)) (fun x => if x = 0 then [1] else []) := by
  obtain ⟨f1, t1⟩ := lnk_one (up := 0) (id := 1) (tri3_flds (p1 := p1) (d1 := d1) (p2 := p2) (d2 := d2) (p3 := p3) (d3 := d3)) tri3_tree (.inl rfl) (.inl rfl) (by decide) (fun x => by simp [tri3K]) rfl
  have k1 : linkK tri3K 0 1 (-1) = fun x => if x = 0 then [1] else [] := by
    funext x; rw [linkK]; rfl
  rw [k1] at t1
  exact ⟨f1, t1⟩
theorem lnk2_tree : ∃ K, Tree (lnk2 (tri3 p1 d1 p2 d2 p3 d3)) K ∧ (lnk2 (tri3 p1 d1 p2 d2 p3 d3)).length = 4 := by
  obtain ⟨f1, t1⟩ := lnk1_tree (p1 := p1) (d1 := d1) (p2 := p2) (d2 := d2) (p3 := p3) (d3 := d3)
  obtain ⟨f2, t2⟩ := lnk_one (up := 1) (id := 2) f1 t1 (.inr rfl) (.inr (.inl rfl)) (by decide) (fun x => by (try dsimp only); split <;> simp) rfl
  exact ⟨_, t2, f2.1⟩
/-- the builder's first tree shows what the law's own shows -/
theorem Bod.twa {x : TX} (h : Bod x) : Twa x.A (lnk3 (tri3 p1 d1 p2 d2 p3 d3)) x.K := by
  obtain ⟨hbi, hq, hes, hm, ⟨u1, v1, u2, v2, u3, v3, hA, hK⟩, hst, hns⟩ := h
  have g1 : AddOk [docD] (fun _ => []) (elementN u1 v1 0 htmlS []) 0 := addA_ok BI.init.tree BI.init.in0 BI.init.doc (el_kid u1 v1 htmlS) (Nat.zero_le _)
  have b1 := (BI.init.push g1 (by decide)).1
  have g2 := b1.addOk (n := elementN u2 v2 0 headS []) (by simp) (el_kid u2 v2 headS) (Nat.zero_le _)
  have b2 := ((b1.push g2 (by decide)).1).take 1
  have g3 := b2.addOk (n := elementN u3 v3 0 bodyS []) (by simp) (el_kid u3 v3 bodyS) (Nat.zero_le _)
  have f1 := (Flds.refl (A := [docD])).add (n' := elementN none 0 0 htmlS []) g1 rfl
  have f2 := f1.add (n' := elementN none 0 0 headS []) g2 rfl
  have f3 := f2.add (n' := elementN none 0 0 bodyS []) g3 rfl
  have eA : Flds x.A bodL := by rw [hA]; exact f3
  have hk : x.K = bodK := by
    rw [hK]
    funext y
    simp only [addKK, linkK, addK, addA_len, bodK, List.length_cons, List.length_nil]
    by_cases h0 : y = 0
    · subst h0; rfl
    · by_cases h1 : y = 1
      · subst h1; rfl
      · simp only [h0, h1, if_false]
        repeat' split
        all_goals first | rfl | omega
  obtain ⟨fB, tB⟩ := bod3_ok (p1 := p1) (d1 := d1) (p2 := p2) (d2 := d2) (p3 := p3) (d3 := d3)
  rw [hk]
  refine Twa.of eA fB tB fun i hi => ?_
  have : i < 4 := hi
  match i, this with
  | 0, _ => rfl
  | 1, _ => rfl
  | 2, _ => rfl
  | 3, _ => rfl
end
/-- the builder, some elements open in the body -/
structure NB (x : TX) (o : List ByteArray) (sk : List Int) (n : Nat) : Prop where
  bi : BI x.A x.K x.st x.ns
  ns : x.ns = [htmlS, bodyS] ++ o
  st : x.st = 1 :: sk
  es : x.es = []
  q : QOk x n
  mode : x.q.mode = 6
  ob : ∀ y ∈ o, y ∈ bnL
theorem bn_one {nm : ByteArray} (h : nm ∈ bnL) : oneB nm nm = true := by
  rcases bn_cases h with rfl | rfl | rfl <;> kernel_rfl
theorem NB.stl {x : TX} {o : List ByteArray} {sk : List Int} {n : Nat} (h : NB x o sk n) : sk.length = o.length + 1 := by
  have := h.bi.len
  rw [h.ns, h.st] at this; simp at this; omega
theorem NB.ne {x : TX} {o : List ByteArray} {sk : List Int} {n : Nat} (h : NB x o sk n) : x.st ≠ [] := by rw [h.st]; simp
theorem NB.top {x : TX} {o : List ByteArray} {sk : List Int} {n : Nat} (h : NB x o sk n) : topI x.st = at_ sk (sk.length - 1) := by
  have hl := h.stl
  rw [topI_ne h.ne, h.st, List.length_cons, Nat.add_sub_cancel]
  obtain ⟨j, hj⟩ : ∃ j, sk.length = j + 1 := ⟨o.length, hl⟩
  rw [hj]; rfl
theorem Bod.nb {x : TX} (h : Bod x) : NB x [] [3] 20 := by
  obtain ⟨hbi, hq, hes, hm, _, hst, hns⟩ := h
  exact ⟨hbi, hns, hst, hes, hq, hm, fun y hy => by simp at hy⟩
section
variable {k : Ctx} {w : World} {b a s l r n : Nat} {nm : ByteArray} {x : TX} {o : List ByteArray} {sk : List Int}
/-- the token of the body -/
theorem nst_body (hx : x = ⟨⟨0, -1, 0, 0, false, false⟩, [docD], fun _ => [], [], [], []⟩) (hO : Own k w [blk b 65 (bC a s l r x.q), mpV r .i64 rulesL, arenaL a x.A, stkL s a x.st, actL l a x.es]) :
    Tri Tryz.prog 7 #[.pointer (some ⟨b, 0, none⟩), .agg (Api_token.cells (tk 1 bodyS 0)).toArray] k w fun v m => ∃ x2, Bod x2 ∧ v = .int .i64 0 ∧ m = [blk b 65 (bC a s l r x2.q), mpV r .i64 rulesL, arenaL a x2.A, stkL s a x2.st, actL l a x2.es] := by
  have h0 : Stg 6 x := by subst hx; exact ⟨BI.init, ⟨rfl, by decide, by decide, by decide⟩, rfl, .inl ⟨rfl, rfl, rfl, rfl, rfl, rfl, rfl⟩⟩
  refine b_Token_spec (n0 := 6) (x0 := x) (I := Stg) (D := Bod) (by decide) (by decide) (by decide) (by rw [hx]) (by rw [hx]; decide) (by rw [hx]; decide) h0 ?_ hO
  intro n y hI
  have hst := stg_step (b := b) (a := a) (s := s) (l := l) (r := r) (R := Bod) (P := fun _ => False) (.inr rfl) hI fun e => by
    subst e
    obtain ⟨f, hF, h1, h2⟩ := stg_last1 (b := b) (a := a) (s := s) (l := l) (r := r) rfl hI
    exact ⟨f, hF, h1, fun k' w' hO => (h2 k' w' hO).mono fun v m ⟨x2, e1, e2, e3⟩ => ⟨x2, false, e1, e2, by rw [if_neg (by simp)]; exact e3⟩⟩
  obtain ⟨h1, h2, f, hF, h3, h4⟩ := hst
  refine ⟨h1, h2, f, hF, h3, fun k' w' hO => (h4 k' w' hO).mono ?_⟩
  rintro v m ⟨x2, bb, e1, e2, e3⟩
  refine ⟨x2, bb, e1, e2, ?_⟩
  cases bb with
  | false => exact e3
  | true =>
    rw [if_pos rfl] at e3 ⊢
    rcases e3 with ⟨n2, hn2, e3⟩ | e3
    · exact ⟨n2, hn2, e3⟩
    · exact e3.elim
theorem NB.notp (h : NB x o sk n) : ∀ y ∈ x.ns, y ≠ pS := by
  intro y hy
  rw [h.ns] at hy
  rcases List.mem_append.1 hy with hy | hy
  · simp only [List.mem_cons, List.not_mem_nil, or_false] at hy
    rcases hy with rfl | rfl <;> decide
  · exact bn_p (h.ob y hy)
/-- a start tag -/
theorem nst_start (hn : nm ∈ bnL) (hn9 : n ≤ 20000) (h : NB x o sk n) (hO : Own k w [blk b 65 (bC a s l r x.q), mpV r .i64 rulesL, arenaL a x.A, stkL s a x.st, actL l a x.es]) :
    Tri Tryz.prog 7 #[.pointer (some ⟨b, 0, none⟩), .agg (Api_token.cells (tk 1 nm 0)).toArray] k w fun v m => ∃ x2, (NB x2 (o ++ [nm]) (sk ++ [(x.A.length : Int)]) (n + 1) ∧ ∃ p d, x2.A = addA x.A (elementN p d 0 nm []) (topI x.st) ∧ x2.K = addKK x.A x.K (topI x.st)) ∧ v = .int .i64 0 ∧ m = [blk b 65 (bC a s l r x2.q), mpV r .i64 rulesL, arenaL a x2.A, stkL s a x2.st, actL l a x2.es] := by
  have hlenA := h.q.len
  have hne := h.ne
  have hls := h.bi.len_st
  refine b_Token_spec (n0 := 1) (x0 := x) (I := fun n y => n = 1 ∧ y = x) (D := fun x2 => NB x2 (o ++ [nm]) (sk ++ [(x.A.length : Int)]) (n + 1) ∧ ∃ p d, x2.A = addA x.A (elementN p d 0 nm []) (topI x.st) ∧ x2.K = addKK x.A x.K (topI x.st)) (by decide) (by decide) (bn_size hn) h.q.over (by rw [h.es]; simp; omega) h.bi.pos ⟨rfl, rfl⟩ ?_ hO
  rintro n1 y ⟨rfl, rfl⟩
  refine ⟨h.bi, by omega, 48, inferInstance, by rw [h.mode]; rfl, fun k' w' hO => ?_⟩
  refine Tri.mono (b_inBody1_spec (j := 2) (f := 158) (bn_no hn) (by decide) (bn_hno hn) (bn_yes hn) rfl (R := fun v m => ∃ p d, v = .bool false ∧ m = [blk b 65 (bC a s l r y.q), arenaL a (addA y.A (elementN p d 0 nm []) (topI y.st)), stkL s a (y.st ++ [(y.A.length : Int)]), actL l a y.es]) (fun k2 w2 hO2 => by
    refine Ret.mono (fr [.b b, .o a, .o s] hO2 fun k3 hO3 => b_block0_spec h.bi hne h.notp (bn_nt hn) (bn_size hn) (by omega) hO3) ?_
    rintro v w3 ⟨m, ⟨p4, d4, rfl, rfl⟩, hO3⟩
    exact ⟨_, ⟨p4, d4, rfl, rfl⟩, hO3⟩) hO) ?_
  rintro v m ⟨p4, d4, rfl, rfl⟩
  have g := h.bi.addOk (n := elementN p4 d4 0 nm []) hne (el_kid p4 d4 nm) (Nat.zero_le _)
  refine ⟨⟨y.q, addA y.A (elementN p4 d4 0 nm []) (topI y.st), addKK y.A y.K (topI y.st), y.st ++ [(y.A.length : Int)], y.ns ++ [nm], y.es⟩, false, rfl, rfl, ?_⟩
  rw [if_neg (by simp)]
  refine ⟨⟨(h.bi.push g (bn_nt hn)).1, by dsimp only; rw [h.ns, List.append_assoc], by dsimp only; rw [h.st]; rfl, h.es, ⟨h.q.over, h.q.e0, ?_, ?_⟩, h.mode, fun z hz => ?_⟩, p4, d4, rfl, rfl⟩
  · have := h.q.e9; dsimp only; omega
  · dsimp only; rw [addA_len]; omega
  · rcases List.mem_append.1 hz with hz | hz
    · exact h.ob z hz
    · rw [List.mem_singleton.1 hz]; exact hn
/-- an end tag of what is open last -/
theorem nst_end (ho : 0 < o.length) (hnm : at_ o (o.length - 1) = nm) (hn9 : n ≤ 20000) (h : NB x o sk n) (hO : Own k w [blk b 65 (bC a s l r x.q), mpV r .i64 rulesL, arenaL a x.A, stkL s a x.st, actL l a x.es]) :
    Tri Tryz.prog 7 #[.pointer (some ⟨b, 0, none⟩), .agg (Api_token.cells (tk 2 nm 0)).toArray] k w fun v m => ∃ x2, (NB x2 (o.take (o.length - 1)) (sk.take (sk.length - 1)) n ∧ x2.A = x.A ∧ x2.K = x.K) ∧ v = .int .i64 0 ∧ m = [blk b 65 (bC a s l r x2.q), mpV r .i64 rulesL, arenaL a x2.A, stkL s a x2.st, actL l a x2.es] := by
  have hlenA := h.q.len
  have hne := h.ne
  have hls := h.bi.len_st
  have hskl := h.stl
  have he9 := h.q.e9
  have hn : nm ∈ bnL := by rw [← hnm]; exact h.ob _ (at_mem (by omega))
  have hstl : x.st.length = o.length + 2 := by rw [h.st, List.length_cons, hskl]
  have hnt : at_ x.ns (x.st.length - 1) = nm := by
    rw [h.ns, at_app_r (by simp; omega), ← hnm, hstl]; rfl
  obtain ⟨m1, z, hmz⟩ : ∃ m1 z, x.st = m1 ++ [z] := by
    rcases List.eq_nil_or_concat x.st with e | ⟨m1, z, e⟩
    · exact absurd e hne
    · exact ⟨m1, z, by rw [e, List.concat_eq_append]⟩
  have hm1 : m1 = x.st.take (x.st.length - 1) := by rw [hmz]; simp
  have hz : at_ x.st (x.st.length - 1) = z := by rw [← topI_ne hne, hmz, topI_snoc]
  have hpz : namA x.A [nm] z = true := by rw [← hz, h.bi.nam (by omega), hnt]; simp [inB]
  have hsc : ((wordsB nm).any fun y => scopeL x.A (namA x.A [y]) 0 x.st) = true := by
    rw [bn_w hn, List.any_cons, List.any_nil, Bool.or_false, scopeL, if_neg (by decide), hmz]
    have := scopeG_yes (is := namA x.A [nm]) (bd := bdA x.A 0) (l := m1) hpz (fs := []) (fun f hf => by simp at hf)
    rw [List.append_nil] at this; exact this
  have hpop : (popTo (namA x.A [nm]) x.st).2 = x.st.take (x.st.length - 1) := by
    have := popTo_app (is := namA x.A [nm]) (l := m1) hpz (fs := []) (fun f hf => by simp at hf)
    rw [List.append_nil, ← hmz] at this
    rw [this, ← hm1]
  have hd : dropL (implA x.A ⟨#[]⟩) x.st = x.st := by
    refine dropL_top ?_
    rw [topI_ne hne, h.bi.imp (by omega), hnt]; exact bn_imp hn
  have hnb : nmB x.A (topI x.st) nm = true := by
    have h1 := (h.bi.top hne)
    rw [nmB, h1.1, h1.2.2.1, h1.2.1.trans hnt, bn_one hn]; rfl
  refine b_Token_spec (n0 := 1) (x0 := x) (I := fun n y => n = 1 ∧ y = x) (D := fun x2 => NB x2 (o.take (o.length - 1)) (sk.take (sk.length - 1)) n ∧ x2.A = x.A ∧ x2.K = x.K) (by decide) (by decide) (bn_size hn) h.q.over (by rw [h.es]; simp; omega) h.bi.pos ⟨rfl, rfl⟩ ?_ hO
  rintro n1 y ⟨rfl, rfl⟩
  refine ⟨h.bi, by omega, 48, inferInstance, by rw [h.mode]; rfl, fun k' w' hO => ?_⟩
  refine Tri.mono (b_inBody2_spec (j := 4) (f := 170) be_no (by decide) (be_hno hn) (be_yes hn) rfl (R := fun v m => v = .bool false ∧ m = [blk b 65 (bC a s l r y.q), arenaL a y.A, stkL s a (y.st.take (y.st.length - 1)), actL l a y.es]) (fun k2 w2 hO2 => by
    refine Ret.mono (fr [.b b, .o a, .o s] hO2 fun k3 hO3 => b_endBlock_spec h.bi (by omega) (by have := bn_size hn; omega) hsc hd hnb hpop (by omega) h.q.e0 hO3) ?_
    rintro v w3 ⟨m, ⟨rfl, rfl⟩, hO3⟩
    exact ⟨_, ⟨rfl, rfl⟩, hO3⟩) hO) ?_
  rintro v m ⟨rfl, rfl⟩
  refine ⟨⟨y.q, y.A, y.K, y.st.take (y.st.length - 1), y.ns.take (y.st.length - 1), y.es⟩, false, rfl, rfl, ?_⟩
  rw [if_neg (by simp)]
  refine ⟨⟨h.bi.take _, ?_, ?_, h.es, ⟨h.q.over, h.q.e0, h.q.e9, h.q.len⟩, h.mode, fun z hz => h.ob z (List.mem_of_mem_take hz)⟩, rfl, rfl⟩
  · dsimp only; rw [h.ns, hstl, show o.length + 2 - 1 = (o.length - 1) + 2 by omega]; rfl
  · dsimp only; rw [h.st, List.length_cons, Nat.add_sub_cancel, hskl]; rfl
/-- a letter in an element without kids -/
theorem nst_char (hn9 : n ≤ 20000) (h : NB x o sk n) (hk : x.K (topI x.st) = []) (htz : topI x.st ≠ 0) (hO : Own k w [blk b 65 (bC a s l r x.q), mpV r .i64 rulesL, arenaL a x.A, stkL s a x.st, actL l a x.es]) :
    Tri Tryz.prog 7 #[.pointer (some ⟨b, 0, none⟩), .agg (Api_token.cells (tk 4 ⟨#[]⟩ 120)).toArray] k w fun v m => ∃ x2, (NB x2 o sk (n + 1) ∧ x2.A = addA x.A (textN (runesBytes [120])) (topI x.st) ∧ x2.K = addKK x.A x.K (topI x.st)) ∧ v = .int .i64 0 ∧ m = [blk b 65 (bC a s l r x2.q), mpV r .i64 rulesL, arenaL a x2.A, stkL s a x2.st, actL l a x2.es] := by
  have hlenA := h.q.len
  have hne := h.ne
  have hls := h.bi.len_st
  refine b_Token_spec (n0 := 1) (x0 := x) (I := fun n y => n = 1 ∧ y = x) (D := fun x2 => NB x2 o sk (n + 1) ∧ x2.A = addA x.A (textN (runesBytes [120])) (topI x.st) ∧ x2.K = addKK x.A x.K (topI x.st)) (by decide) (by decide) (by decide) h.q.over (by rw [h.es]; simp; omega) h.bi.pos ⟨rfl, rfl⟩ ?_ hO
  rintro n1 y ⟨rfl, rfl⟩
  refine ⟨h.bi, by omega, 48, inferInstance, by rw [h.mode]; rfl, fun k' w' hO => ?_⟩
  refine Tri.mono (b_inBodyC_spec (D := fun A2 KK st2 es2 ns2 => A2 = y.A ∧ KK = y.K ∧ st2 = y.st ∧ es2 = y.es ∧ ns2 = y.ns) (fun k2 w2 hO2 => by
    refine Ret.mono (fr [.b b, .o s, .o l] hO2 fun k3 hO3 => b_rebuild0_spec (by omega) (by rw [h.es]; decide) (.inl h.es) hO3) ?_
    rintro v w3 ⟨m, rfl, hO3⟩
    exact ⟨_, ⟨_, _, _, _, _, ⟨rfl, rfl, rfl, rfl, rfl⟩, rfl⟩, hO3.ks [.b b, .o a, .o s, .o l]⟩) (fun {A2 KK st2 es2 ns2} ⟨e1, e2, e3, e4, e5⟩ => by subst e1 e2 e3 e4 e5; exact ⟨h.bi, hne, hk, htz, by omega⟩) hO) ?_
  rintro v m ⟨A2, KK, st2, es2, ns2, ⟨rfl, rfl, rfl, rfl, rfl⟩, rfl, rfl⟩
  have g := h.bi.addOk (n := textN (runesBytes [120])) hne ⟨show (2 : Int) ≠ 0 by decide, show (2 : Int) ≠ 5 by decide⟩ (Nat.zero_le _)
  refine ⟨⟨{ y.q with framed := true }, addA y.A (textN (runesBytes [120])) (topI y.st), addKK y.A y.K (topI y.st), y.st, y.ns, y.es⟩, false, rfl, rfl, ?_⟩
  rw [if_neg (by simp)]
  refine ⟨⟨h.bi.add g, h.ns, h.st, h.es, ⟨h.q.over, h.q.e0, ?_, ?_⟩, h.mode, h.ob⟩, rfl, rfl⟩
  · have := h.q.e9; dsimp only; omega
  · dsimp only; rw [addA_len]; omega
/-- the end -/
theorem nst_eof (hn9 : n ≤ 20000) (h : NB x o sk n) (hO : Own k w [blk b 65 (bC a s l r x.q), mpV r .i64 rulesL, arenaL a x.A, stkL s a x.st, actL l a x.es]) :
    Tri Tryz.prog 7 #[.pointer (some ⟨b, 0, none⟩), .agg (Api_token.cells (tk 5 ⟨#[]⟩ 0)).toArray] k w fun v m => ∃ x2 : TX, x2.A = x.A ∧ v = .int .i64 0 ∧ m = [blk b 65 (bC a s l r x2.q), mpV r .i64 rulesL, arenaL a x2.A, stkL s a x2.st, actL l a x2.es] := by
  have hlenA := h.q.len
  have hne := h.ne
  have hls := h.bi.len_st
  have he9 := h.q.e9
  refine b_Token_spec (n0 := 1) (x0 := x) (I := fun n y => n = 1 ∧ y = x) (D := fun x2 => x2.A = x.A) (by decide) (by decide) (by decide) h.q.over (by rw [h.es]; simp; omega) h.bi.pos ⟨rfl, rfl⟩ ?_ hO
  rintro n1 y ⟨rfl, rfl⟩
  refine ⟨h.bi, by omega, 48, inferInstance, by rw [h.mode]; rfl, fun k' w' hO => ?_⟩
  refine Tri.mono (b_inBodyE_spec h.bi (by omega) (by omega) h.q.e0 hO) ?_
  rintro v m ⟨q2, rfl, rfl⟩
  exact ⟨⟨q2, y.A, y.K, [], [], y.es⟩, false, rfl, rfl, by rw [if_neg (by simp)]⟩
end
end Go.Proofs.YtpejdlfkaaiehaaGreatDoor
end
section
set_option linter.unusedVariables false
set_option linter.unusedSimpArgs false
set_option maxRecDepth 100000
namespace Go.Proofs.YtpejdlfkaaiehaaGreatDoor
open Go Go.Hb Go.RowKit
/-- what the law's loops turn -/
structure NS where
  i : Nat
  x : TX
  B : List Node_one
  o : List ByteArray
  sk : List Int
  po : Option Addr
  co : Nat
  ps : Option Addr
  cs : Nat
theorem NB.ol {x : TX} {o : List ByteArray} {sk : List Int} {n : Nat} (h : NB x o sk n) : o.length ≤ n := by
  have h1 := h.stl
  have h2 := h.bi.len_st
  have h3 := h.q.len
  rw [h.st, List.length_cons] at h2
  omega
section
variable {k : Ctx} {w : World} {nm : ByteArray}
set_option maxHeartbeats 4000000 in
theorem WholeNested_spec {p : Option Addr} {c : Nat} {xs : List Int} (hs : Sli (Ro k) (.slice p xs.length c) (xs.map (eI .u8))) (hb : ∀ x ∈ xs, 0 ≤ x ∧ x ≤ 255) (hO : Own k w []) :
    Tri Tryz.prog 4 #[.slice p xs.length c] k w fun v m => v = .bool true := by
  refine enter (args := [.slice p xs.length c]) Tryz.func4 rfl rfl ?_
  have hgs := sli_gs hs
  refine K0 (K1 ?_)
  refine l_y rfl rfl (y_assign rfl) ?_
  refine K2 (K3 (K0 (K1 ?_)))
  refine CK [] hO rfl (fun k' hx hr hO' => New_spec hO') ?_
  rintro _ _ w ⟨a, rfl, rfl⟩ hO
  simp only [List.cons_append, List.nil_append] at hO
  refine l_y rfl rfl (y_assign rfl) ?_
  refine K2 (K3 (K0 (K1 ?_)))
  refine l_y rfl rfl (y_move rfl) ?_
  refine CK [.o a] hO rfl (fun k' hx hr hO' => b_New_spec (by simp) hO') ?_
  rintro _ _ w ⟨b, s, l, r, rfl, rfl⟩ hO
  simp only [List.cons_append, List.nil_append] at hO
  refine l_y rfl rfl (y_move rfl) ?_
  refine l_y rfl rfl (y_extract rfl rfl) ?_
  refine l_y rfl rfl (y_extract rfl rfl) ?_
  refine l_y rfl rfl (y_assign rfl) ?_
  refine l_y rfl rfl (y_assign rfl) ?_
  refine K2 (K3 (K0 (K1 ?_)))
  refine CK [] hO rfl (fun k' hx hr hO' => New_spec hO') ?_
  rintro _ _ w ⟨u, rfl, rfl⟩ hO
  simp only [List.cons_append, List.nil_append] at hO
  refine l_y rfl rfl (y_assign rfl) ?_
  refine K2 (K3 (K0 (K0 (K1 ?_))))
  refine l_y rfl rfl (y_move rfl) ?_
  refine l_y rfl rfl (y_eqPnil rfl rfl rfl) ?_
  refine l_y rfl rfl (y_move rfl) ?_
  refine l_y rfl rfl (y_move rfl) ?_
  refine l_y rfl rfl (y_eqPnil rfl rfl rfl) ?_
  refine l_y rfl rfl (y_pick_f rfl rfl) ?_
  refine l_y rfl rfl (y_move rfl) ?_
  refine l_y rfl rfl (y_move rfl) ?_
  refine l_y rfl rfl (y_eqPnil rfl rfl rfl) ?_
  refine l_y rfl rfl (y_pick_f rfl rfl) ?_
  refine K2 (K3 (L9 (K5 (K3 (K0 (K1 ?_))))))
  refine s_lit (parts := [(0, .const (.string ⟨#[100, 105, 118]⟩)), (1, .const (.string ⟨#[115, 101, 99, 116, 105, 111, 110]⟩)), (2, .const (.string ⟨#[97, 114, 116, 105, 99, 108, 101]⟩))]) (enc := eS) [⟨#[100, 105, 118]⟩, ⟨#[115, 101, 99, 116, 105, 111, 110]⟩, ⟨#[97, 114, 116, 105, 99, 108, 101]⟩] [.string ⟨#[100, 105, 118]⟩, .string ⟨#[115, 101, 99, 116, 105, 111, 110]⟩, .string ⟨#[97, 114, 116, 105, 99, 108, 101]⟩] hO rfl (fun b40 w hO => ?_)
  have hO : Own k w (sls (some ⟨b40, 0, none⟩) 3 9 1 eS bnL :: _) := hO
  have hg40 : Gs (some ⟨b40, 0, none⟩) 3 := .some _ _ _
  have hfl : bnL.length = 3 := rfl
  refine l_y rfl rfl (y_assign rfl) ?_
  refine K2 (K3 (K0 (K1 ?_)))
  refine l_y rfl rfl (y_move rfl) ?_
  refine s_build (parts := [(0, .const (.int .i64 1)), (1, .const (.string ⟨#[98, 111, 100, 121]⟩))]) (cs := [.int .i64 1, .string ⟨#[98, 111, 100, 121]⟩, .string ⟨#[]⟩, .string ⟨#[]⟩, .int .i64 0, .bool false, .int .i32 0, .bool false, .slice none 0 0]) rfl rfl (fun a ha => partsOf_sound ha _ _ rfl) (by kernel_rfl) ?_
  refine CK [.b b, .o r, .o a, .o s, .o l] hO rfl (fun k' hx hr hO' => nst_body (x := ⟨⟨0, -1, 0, 0, false, false⟩, [docD], fun _ => [], [], [], []⟩) rfl hO') ?_
  rintro _ _ w ⟨x1, hB1, rfl, rfl⟩ hO
  simp only [List.cons_append, List.nil_append] at hO
  refine K2 (K3 (K0 ?_))
  have hO : Own k w (sls none 0 9 1 eS ([] : List ByteArray) :: _) := sl_nil 9 1 hO
  refine K1 ?_
  refine l_y rfl rfl (y_assign rfl) ?_
  refine K2 (K3 (K0 (K1 ?_)))
  refine l_y rfl rfl (y_move rfl) ?_
  refine CK [.o u] hO rfl (fun k' hx hr hO' => Element_spec (sp := 0) (nm := htmlS) (xs := []) (ap := none) (ac := 0) (by decide) (by decide) (Sli.nil rfl) (hO := hO')) ?_
  rintro _ _ w ⟨u1, v1, rfl, rfl⟩ hO
  simp only [List.cons_append, List.nil_append] at hO
  rw [el_ok (by decide) (by decide) (by decide)] at hO ⊢
  refine l_y rfl rfl (y_move rfl) ?_
  refine l_y rfl rfl (y_extract rfl rfl) ?_
  refine l_y rfl rfl (y_extract rfl rfl) ?_
  refine l_y rfl rfl (y_assign rfl) ?_
  refine l_y rfl rfl (y_assign rfl) ?_
  refine K2 (K3 (K0 (K1 ?_)))
  refine l_y rfl rfl (y_move rfl) ?_
  refine CK [.o u] hO rfl (fun k' hx hr hO' => Element_spec (sp := 0) (nm := headS) (xs := []) (ap := none) (ac := 0) (by simp) (by simp) (Sli.nil rfl) (hO := hO')) ?_
  rintro _ _ w ⟨u2, v2, rfl, rfl⟩ hO
  simp only [List.cons_append, List.nil_append] at hO
  rw [el_ok (by decide) (by decide) (by simp)] at hO ⊢
  refine l_y rfl rfl (y_move rfl) ?_
  refine l_y rfl rfl (y_extract rfl rfl) ?_
  refine l_y rfl rfl (y_extract rfl rfl) ?_
  refine l_y rfl rfl (y_assign rfl) ?_
  refine l_y rfl rfl (y_assign rfl) ?_
  refine K2 (K3 (K0 (K1 ?_)))
  refine l_y rfl rfl (y_move rfl) ?_
  refine CK [.o u] hO rfl (fun k' hx hr hO' => Element_spec (sp := 0) (nm := bodyS) (xs := []) (ap := none) (ac := 0) (by simp) (by simp) (Sli.nil rfl) (hO := hO')) ?_
  rintro _ _ w ⟨u3, v3, rfl, rfl⟩ hO
  simp only [List.cons_append, List.nil_append] at hO
  rw [el_ok (by decide) (by decide) (by simp)] at hO ⊢
  have hO : Own k w (arenaL u (tri3 u1 v1 u2 v2 u3 v3) :: _) := hO
  have F1 : (tri3 u1 v1 u2 v2 u3 v3).length = 4 := tri3_flds.1
  have T1 := tri3_tree (p1 := u1) (d1 := v1) (p2 := u2) (d2 := v2) (p3 := u3) (d3 := v3)
  obtain ⟨F2, T2⟩ := lnk1_tree (p1 := u1) (d1 := v1) (p2 := u2) (d2 := v2) (p3 := u3) (d3 := v3)
  obtain ⟨KL3, T3, F3⟩ := lnk2_tree (p1 := u1) (d1 := v1) (p2 := u2) (d2 := v2) (p3 := u3) (d3 := v3)
  have F2 : (lnk1 (tri3 u1 v1 u2 v2 u3 v3)).length = 4 := F2.1
  refine l_y rfl rfl (y_move rfl) ?_
  refine l_y rfl rfl (y_extract rfl rfl) ?_
  refine l_y rfl rfl (y_extract rfl rfl) ?_
  refine l_y rfl rfl (y_assign rfl) ?_
  refine l_y rfl rfl (y_assign rfl) ?_
  refine K2 (K3 (K0 (K1 ?_)))
  refine l_y rfl rfl (y_move rfl) ?_
  refine l_y rfl rfl (y_move rfl) ?_
  refine CK [.o u] hO rfl (fun k' hx hr hO' => LinkC_spec (up := 0) (id := 1) (before := -1) (by omega) T1.rank T1.links (hO := hO')) ?_
  rintro _ _ w ⟨rfl, rfl⟩ hO
  simp only [List.cons_append, List.nil_append] at hO
  have hO : Own k w (arenaL u (lnk1 (tri3 u1 v1 u2 v2 u3 v3)) :: _) := hO
  refine K2 (K3 (K0 (K1 ?_)))
  refine l_y rfl rfl (y_move rfl) ?_
  refine l_y rfl rfl (y_move rfl) ?_
  refine l_y rfl rfl (y_move rfl) ?_
  refine CK [.o u] hO rfl (fun k' hx hr hO' => LinkC_spec (up := 1) (id := 2) (before := -1) (by omega) T2.rank T2.links (hO := hO')) ?_
  rintro _ _ w ⟨rfl, rfl⟩ hO
  simp only [List.cons_append, List.nil_append] at hO
  have hO : Own k w (arenaL u (lnk2 (tri3 u1 v1 u2 v2 u3 v3)) :: _) := hO
  refine K2 (K3 (K0 (K1 ?_)))
  refine l_y rfl rfl (y_move rfl) ?_
  refine l_y rfl rfl (y_move rfl) ?_
  refine l_y rfl rfl (y_move rfl) ?_
  refine CK [.o u] hO rfl (fun k' hx hr hO' => LinkC_spec (up := 1) (id := 3) (before := -1) (by omega) T3.rank T3.links (hO := hO')) ?_
  rintro _ _ w ⟨rfl, rfl⟩ hO
  simp only [List.cons_append, List.nil_append] at hO
  have hO : Own k w (arenaL u (lnk3 (tri3 u1 v1 u2 v2 u3 v3)) :: _) := hO
  have hN1 := hB1.nb
  have hT1 := hB1.twa (p1 := u1) (d1 := v1) (p2 := u2) (d2 := v2) (p3 := u3) (d3 := v3)
  refine K2 (K3 (K0 (K1 ?_)))
  refine l_y rfl rfl (y_move rfl) ?_
  refine s_lit (parts := [(0, .tmp 70)]) (enc := (eI .i64)) [3] [.int .i64 3] hO rfl (fun b71 w hO => ?_)
  refine l_y rfl rfl (y_assign rfl) ?_
  refine K2 (K3 (K0 (K0 (K1 ?_))))
  refine l_y rfl rfl (y_assign rfl) ?_
  refine K2 (K3 (K4 ?_))
  refine c_rounds (X := NS) (fun y => [(0, .slice p xs.length c), (2, .bool false), (3, .pointer (some ⟨a, 0, none⟩)), (4, .pointer (some ⟨b, 0, none⟩)), (6, .pointer (some ⟨u, 0, none⟩)), (7, .slice (some ⟨b40, 0, none⟩) 3 3), (8, .slice y.po y.o.length y.co), (15, .slice y.ps y.sk.length y.cs), (16, .int .i64 (y.i : Int))]) (fun y w => Own k w [blk b 65 (bC a s l r y.x.q), mpV r .i64 rulesL, arenaL a y.x.A, stkL s a y.x.st, actL l a y.x.es, arenaL u y.B, sls (some ⟨b40, 0, none⟩) 3 9 1 eS bnL, sls y.po y.co 9 1 eS y.o, sls y.ps y.cs 3 1 (eI .i64) y.sk] ∧ (y.i ≤ xs.length ∧ y.i ≤ 60) ∧ (NB y.x y.o y.sk (20 + 2 * y.i)) ∧ (Twa y.x.A y.B y.x.K)) (fun y => 60 - y.i) (⟨0, x1, lnk3 (tri3 u1 v1 u2 v2 u3 v3), [], [3], none, 0, some ⟨b71, 0, none⟩, 1⟩) ⟨rfl, rfl, rfl, rfl, rfl, rfl, rfl, rfl, rfl, trivial⟩ ⟨hO.only [.b b, .o r, .o a, .o s, .o l, .o u, .p (some ⟨b40, 0, none⟩), .p none, .p (some ⟨b71, 0, none⟩)], ⟨Nat.zero_le _, Nat.zero_le _⟩, hN1, hT1⟩ ?_
  rintro y w m hm ⟨hO, hi, hN, hT⟩
  refine K0 (K0 (K1 ?_))
  refine l_y rfl rfl (y_move rfl) ?_
  refine l_y rfl rfl (y_move rfl) ?_
  refine l_y rfl rfl (y_lenL rfl) ?_
  refine Z0 (fun h17_3 => ?_) (fun h17_3 => ?_)
  · refine l_y rfl rfl (y_move rfl) ?_
    refine l_y rfl rfl (y_move rfl) ?_
    refine Z0 (fun h17_6 => ?_) (fun h17_6 => ?_)
    · refine l_y rfl rfl (y_pick_t rfl rfl) ?_
      refine K2 (K3 (L8 (K5 (K3 (K0 (K4 (K0 (K0 (K1 ?_)))))))))
      refine l_y rfl rfl (y_assign rfl) ?_
      refine K2 (K3 (K4 ?_))
      refine c_rounds (X := NS) (fun z => [(0, .slice p xs.length c), (2, .bool false), (3, .pointer (some ⟨a, 0, none⟩)), (4, .pointer (some ⟨b, 0, none⟩)), (6, .pointer (some ⟨u, 0, none⟩)), (7, .slice (some ⟨b40, 0, none⟩) 3 3), (8, .slice z.po z.o.length z.co), (15, .slice z.ps z.sk.length z.cs), (16, .int .i64 (y.i : Int)), (17, .int .i64 (z.i : Int))]) (fun z w => Own k w [blk b 65 (bC a s l r z.x.q), mpV r .i64 rulesL, arenaL a z.x.A, stkL s a z.x.st, actL l a z.x.es, arenaL u z.B, sls (some ⟨b40, 0, none⟩) 3 9 1 eS bnL, sls z.po z.co 9 1 eS z.o, sls z.ps z.cs 3 1 (eI .i64) z.sk] ∧ (NB z.x z.o z.sk (20 + 2 * y.i)) ∧ (Twa z.x.A z.B z.x.K)) (fun z => z.o.length) (⟨0, y.x, y.B, y.o, y.sk, y.po, y.co, y.ps, y.cs⟩) ⟨rfl, rfl, rfl, rfl, rfl, rfl, rfl, rfl, rfl, rfl, trivial⟩ ⟨hO.only [.b b, .o r, .o a, .o s, .o l, .o u, .p (some ⟨b40, 0, none⟩), .p y.po, .p y.ps], hN, hT⟩ ?_
      rintro z w m hm ⟨hO, hN2, hT2⟩
      refine K0 (K0 ?_)
      obtain ⟨g0, hg0⟩ : ∃ g0, g0 = at_ xs ((y.i : Int)).toNat := ⟨_, rfl⟩
      have hg0b : 0 ≤ g0 ∧ g0 ≤ 255 := by rw [hg0]; exact hb _ (at_mem (by omega))
      refine K1 ?_
      refine l_y rfl rfl (y_move rfl) ?_
      refine l_y rfl rfl (y_move rfl) ?_
      refine l_y rfl rfl (y_move rfl) ?_
      refine l_y rfl rfl (y_idx rfl rfl) ?_
      refine l_y rfl rfl (y_r1 (x0 := 0) (enc := (eI .u8)) (xs := xs) hO rfl) ?_
      rw [← hg0]
      refine l_y rfl rfl (D7) ?_
      refine l_y rfl rfl (y_remN rfl rfl hg0b.1 (by decide)) ?_
      refine Z0 (fun h20_7 => ?_) (fun h20_7 => ?_)
      · refine l_y rfl rfl (y_move rfl) ?_
        refine l_y rfl rfl (y_move rfl) ?_
        refine l_y rfl rfl (y_lenL rfl) ?_
        refine Z0 (fun h20_11 => ?_) (fun h20_11 => ?_)
        · refine l_y rfl rfl (y_pick_t rfl rfl) ?_
          refine K2 (K3 (L8 (K5 (K3 (K0 (K4 (K0 ?_)))))))
          have hskl := hN2.stl
          have hol := hN2.ol
          have ho0 : 0 < z.o.length := by omega
          have hlo := (sls_fct (p := z.po) (hO.ks [.p z.po])).1
          have hls := (sls_fct (p := z.ps) (hO.ks [.p z.ps])).1
          have hgo := (sls_fct (p := z.po) (hO.ks [.p z.po])).2
          have hgs2 := (sls_fct (p := z.ps) (hO.ks [.p z.ps])).2
          obtain ⟨nm, hnm⟩ : ∃ nm, nm = at_ z.o (z.o.length - 1) := ⟨_, rfl⟩
          have hnm2 : at_ z.o ((z.o.length : Int) - 1).toNat = nm := by rw [hnm]; congr 1; omega
          refine K1 ?_
          refine l_y rfl rfl (y_move rfl) ?_
          refine l_y rfl rfl (y_move rfl) ?_
          refine l_y rfl rfl (y_move rfl) ?_
          refine l_y rfl rfl (y_lenL rfl) ?_
          refine l_y rfl rfl (D4) ?_
          refine l_y rfl rfl (y_idx rfl rfl) ?_
          refine l_y rfl rfl (y_e1 (x0 := 0) hO rfl) ?_
          rw [hnm2]
          refine s_build (parts := [(0, .const (.int .i64 2)), (1, .tmp 103)]) (cs := [.int .i64 2, .string nm, .string ⟨#[]⟩, .string ⟨#[]⟩, .int .i64 0, .bool false, .int .i32 0, .bool false, .slice none 0 0]) rfl rfl (fun a ha => partsOf_sound ha _ _ rfl) (by kernel_rfl) ?_
          refine CK [.b b, .o r, .o a, .o s, .o l] hO rfl (fun k' hx hr hO' => nst_end (nm := nm) ho0 hnm.symm (by omega) hN2 hO') ?_
          rintro _ _ w ⟨x2, ⟨hN3, hA3, hK3⟩, rfl, rfl⟩ hO
          simp only [List.cons_append, List.nil_append] at hO
          have hT3 : Twa x2.A z.B x2.K := by rw [hA3, hK3]; exact hT2
          refine K2 (K3 (K0 (K1 ?_)))
          refine l_y rfl rfl (y_move rfl) ?_
          refine l_y rfl rfl (y_move rfl) ?_
          refine l_y rfl rfl (y_lenL rfl) ?_
          refine l_y rfl rfl (D4) ?_
          refine l_y rfl rfl (y_hd (z.o.length - 1) rfl rfl) ?_
          refine l_y rfl rfl (y_assign rfl) ?_
          refine K2 (K3 ?_)
          have hO := sls_cut (hO.ks [.p z.po]) (z.o.length - 1) z.co (by omega) (by omega) (by omega)
          refine K1 ?_
          refine l_y rfl rfl (y_move rfl) ?_
          refine l_y rfl rfl (y_move rfl) ?_
          refine l_y rfl rfl (y_lenL rfl) ?_
          refine l_y rfl rfl (D4) ?_
          refine l_y rfl rfl (y_hd (z.sk.length - 1) rfl rfl) ?_
          refine l_y rfl rfl (y_assign rfl) ?_
          refine K2 (K8 (K3 (K1 ?_)))
          refine l_y rfl rfl (y_move rfl) ?_
          refine l_y rfl rfl (D4) ?_
          refine l_y rfl rfl (y_assign rfl) ?_
          refine K2 ?_
          have e3 : (z.o.take (z.o.length - 1)).length = z.o.length - 1 := by rw [List.length_take]; omega
          have e4 : (z.sk.take (z.sk.length - 1)).length = z.sk.length - 1 := by rw [List.length_take]; omega
          have hO := sls_cut (hO.ks [.p z.ps]) (z.sk.length - 1) z.cs (by omega) (by omega) (by omega)
          exact q_next (⟨z.i + 1, x2, z.B, z.o.take (z.o.length - 1), z.sk.take (z.sk.length - 1), z.po, z.co, z.ps, z.cs⟩ : NS) (by dsimp only; rw [e3, e4]; repeat (first | exact trivial | refine ⟨rfl, ?_⟩)) ⟨hO.only [.b b, .o r, .o a, .o s, .o l, .o u, .p (some ⟨b40, 0, none⟩), .p z.po, .p z.ps], hN3, hT3⟩ (by dsimp only; omega)
        · refine l_y rfl rfl (y_pick_t rfl rfl) ?_
          refine K2 (K3 (L9 (K7 (L1 (L1 (L2 (K3 (K0 ?_))))))))
          obtain ⟨g0, hg0⟩ : ∃ g0, g0 = at_ xs ((y.i : Int)).toNat := ⟨_, rfl⟩
          have hg0b : 0 ≤ g0 ∧ g0 ≤ 255 := by rw [hg0]; exact hb _ (at_mem (by omega))
          obtain ⟨m0, hm0⟩ : ∃ m0 : Nat, g0 / 4 % 3 = (m0 : Int) := ⟨(g0 / 4 % 3).toNat, by omega⟩
          have hm3 : m0 < 3 := by omega
          obtain ⟨nm, hnm⟩ : ∃ nm, nm = at_ bnL ((m0 : Int)).toNat := ⟨_, rfl⟩
          have hnb : nm ∈ bnL := by rw [hnm]; exact at_mem (by show m0 < 3; exact hm3)
          have hskl := hN2.stl
          have hol := hN2.ol
          have hbi2 := hN2.bi
          have hposA := hbi2.pos
          have hgs3 := (sls_fct (p := z.ps) (hO.ks [.p z.ps])).2
          have hlA := hN2.q.len
          have hlB := hT2.len
          have hstt := hN2.top
          refine K1 ?_
          refine l_y rfl rfl (y_move rfl) ?_
          refine l_y rfl rfl (y_move rfl) ?_
          refine l_y rfl rfl (y_move rfl) ?_
          refine l_y rfl rfl (y_idx rfl rfl) ?_
          refine l_y rfl rfl (y_r1 (x0 := 0) (enc := (eI .u8)) (xs := xs) hO rfl) ?_
          rw [← hg0]
          refine l_y rfl rfl (D7) ?_
          refine l_y rfl rfl (y_quoN rfl rfl hg0b.1 (by decide) (w64 (by omega) (by omega))) ?_
          refine l_y rfl rfl (y_remN rfl rfl (by omega) (by decide)) ?_
          rw [hm0]
          refine l_y rfl rfl (y_idx rfl rfl) ?_
          refine l_y rfl rfl (y_e1 (x0 := 0) hO rfl (hi := by show m0 < 3; exact hm3)) ?_
          rw [← hnm]
          refine l_y rfl rfl (y_assign rfl) ?_
          refine K2 (K3 (K0 (K1 ?_)))
          refine l_y rfl rfl (y_move rfl) ?_
          refine l_y rfl rfl (y_move rfl) ?_
          refine s_build (parts := [(0, .const (.int .i64 1)), (1, .tmp 127)]) (cs := [.int .i64 1, .string nm, .string ⟨#[]⟩, .string ⟨#[]⟩, .int .i64 0, .bool false, .int .i32 0, .bool false, .slice none 0 0]) rfl rfl (fun a ha => partsOf_sound ha _ _ rfl) (by kernel_rfl) ?_
          refine CK [.b b, .o r, .o a, .o s, .o l] hO rfl (fun k' hx hr hO' => nst_start (nm := nm) hnb (by omega) hN2 hO') ?_
          rintro _ _ w ⟨x3, ⟨hN3, p3, d3, hA3, hK3⟩, rfl, rfl⟩ hO
          simp only [List.cons_append, List.nil_append] at hO
          have gA := hbi2.addOk (n := elementN p3 d3 0 nm []) hN2.ne (el_kid p3 d3 nm) (Nat.zero_le _)
          refine K2 (K3 (K0 (K1 ?_)))
          refine l_y rfl rfl (y_move rfl) ?_
          refine l_y rfl rfl (y_move rfl) ?_
          refine s_lit (parts := [(0, .tmp 131)]) (enc := eS) [nm] [.string nm] hO rfl (fun b132 w hO => ?_)
          refine s_app hO rfl rfl (src_own hO) (fun p133 c133 w hO gs133 => ?_)
          refine l_y rfl rfl (y_assign rfl) ?_
          refine K2 (K3 (K0 (K1 ?_)))
          refine l_y rfl rfl (y_move rfl) ?_
          refine l_y rfl rfl (y_move rfl) ?_
          refine CK [.o u] hO rfl (fun k' hx hr hO' => Element_spec (sp := 0) (nm := nm) (xs := []) (ap := none) (ac := 0) (by omega) (by omega) (Sli.nil rfl) (hO := hO')) ?_
          rintro _ _ w ⟨p4, d4, rfl, rfl⟩ hO
          simp only [List.cons_append, List.nil_append] at hO
          rw [el_ok (bn_nt hnb).1 (bn_size hnb) (by omega)] at hO ⊢
          have gB : AddOk z.B z.x.K (elementN p4 d4 0 nm []) (topI z.x.st) := hT2.ok (elB_in (hbi2.top hN2.ne).1) (elB_par (hbi2.top hN2.ne).1) (el_kid p4 d4 nm) (Nat.zero_le _)
          refine l_y rfl rfl (y_move rfl) ?_
          refine l_y rfl rfl (y_extract rfl rfl) ?_
          refine l_y rfl rfl (y_extract rfl rfl) ?_
          refine l_y rfl rfl (y_assign rfl) ?_
          refine l_y rfl rfl (y_assign rfl) ?_
          refine K2 (K3 (K0 ?_))
          have hup : at_ z.sk ((z.sk.length : Int) - 1).toNat = topI z.x.st := by rw [hstt]; congr 1; omega
          refine K1 ?_
          refine l_y rfl rfl (y_move rfl) ?_
          refine l_y rfl rfl (y_move rfl) ?_
          refine l_y rfl rfl (y_move rfl) ?_
          refine l_y rfl rfl (y_lenL rfl) ?_
          refine l_y rfl rfl (D4) ?_
          refine l_y rfl rfl (y_idx rfl rfl) ?_
          refine l_y rfl rfl (y_e1 (x0 := 0) hO rfl) ?_
          rw [hup]
          refine l_y rfl rfl (y_move rfl) ?_
          refine CK [.o u] hO rfl (fun k' hx hr hO' => LinkC_spec (up := topI z.x.st) (id := (z.B.length : Int)) (before := -1) (by simp) gB.tree.rank gB.tree.links (hO := hO')) ?_
          rintro _ _ w ⟨rfl, rfl⟩ hO
          simp only [List.cons_append, List.nil_append] at hO
          have hO : Own k w (arenaL u (addA z.B (elementN p4 d4 0 nm []) (topI z.x.st)) :: _) := hO
          have hT3 : Twa x3.A (addA z.B (elementN p4 d4 0 nm []) (topI z.x.st)) x3.K := by rw [hA3, hK3]; exact hT2.add gA gB rfl
          have hN3 : NB x3 (z.o ++ [nm]) (z.sk ++ [(z.B.length : Int)]) (20 + 2 * y.i + 1) := by rw [hlB]; exact hN3
          have htop3 : topI x3.st = (z.B.length : Int) := by rw [hN3.top, List.length_append, List.length_singleton, Nat.add_sub_cancel, at_app_new]
          have hk3 : x3.K (topI x3.st) = [] := by rw [htop3, hK3, hlB]; exact addKK_new (elB_in (hbi2.top hN2.ne).1)
          have hlB3 : (addA z.B (elementN p4 d4 0 nm []) (topI z.x.st)).length = z.B.length + 1 := addA_len
          have hlA3 := hN3.q.len
          have hlT3 := hT3.len
          refine K2 (K3 (K0 (K1 ?_)))
          refine l_y rfl rfl (y_move rfl) ?_
          refine l_y rfl rfl (y_move rfl) ?_
          refine s_lit (parts := [(0, .tmp 150)]) (enc := (eI .i64)) [(z.B.length : Int)] [.int .i64 (z.B.length : Int)] hO rfl (fun b151 w hO => ?_)
          refine s_app hO rfl rfl (src_own hO) (fun p152 c152 w hO gs152 => ?_)
          refine l_y rfl rfl (y_assign rfl) ?_
          refine K2 (K3 (K0 (K1 ?_)))
          refine l_y rfl rfl (y_move rfl) ?_
          refine s_build (parts := [(0, .const (.int .i64 4)), (6, .const (.int .i32 120))]) (cs := [.int .i64 4, .string ⟨#[]⟩, .string ⟨#[]⟩, .string ⟨#[]⟩, .int .i64 0, .bool false, .int .i32 120, .bool false, .slice none 0 0]) rfl rfl (fun a ha => partsOf_sound ha _ _ rfl) (by kernel_rfl) ?_
          refine CK [.b b, .o r, .o a, .o s, .o l] hO rfl (fun k' hx hr hO' => nst_char (by omega) hN3 hk3 (by rw [htop3]; have := hbi2.pos; omega) hO') ?_
          rintro _ _ w ⟨x5, ⟨hN5, hA5, hK5⟩, rfl, rfl⟩ hO
          simp only [List.cons_append, List.nil_append] at hO
          have gA5 := hN3.bi.addOk (n := textN (runesBytes [120])) hN3.ne ⟨show (2 : Int) ≠ 0 by decide, show (2 : Int) ≠ 5 by decide⟩ (Nat.zero_le _)
          have gB5 : AddOk (addA z.B (elementN p4 d4 0 nm []) (topI z.x.st)) x3.K (textN ⟨#[120]⟩) (topI x3.st) := hT3.ok (elB_in (hN3.bi.top hN3.ne).1) (elB_par (hN3.bi.top hN3.ne).1) ⟨show (2 : Int) ≠ 0 by decide, show (2 : Int) ≠ 5 by decide⟩ (Nat.zero_le _)
          refine K2 (K3 (K0 (K1 ?_)))
          refine l_y rfl rfl (y_move rfl) ?_
          refine CK [.o u] hO rfl (fun k' hx hr hO' => Text_spec (s := ⟨#[120]⟩) (by omega) (by omega) (hO := hO')) ?_
          rintro _ _ w ⟨rfl, rfl⟩ hO
          simp only [List.cons_append, List.nil_append] at hO
          rw [txt_ok (by decide) (by omega)] at hO ⊢
          refine l_y rfl rfl (y_move rfl) ?_
          refine l_y rfl rfl (y_extract rfl rfl) ?_
          refine l_y rfl rfl (y_extract rfl rfl) ?_
          refine l_y rfl rfl (y_assign rfl) ?_
          refine l_y rfl rfl (y_assign rfl) ?_
          refine K2 (K3 (K1 ?_))
          refine l_y rfl rfl (y_move rfl) ?_
          refine l_y rfl rfl (y_move rfl) ?_
          refine l_y rfl rfl (y_move rfl) ?_
          refine CK [.o u] hO rfl (fun k' hx hr hO' => LinkC_spec (up := (z.B.length : Int)) (id := ((addA z.B (elementN p4 d4 0 nm []) (topI z.x.st)).length : Int)) (before := -1) (by simp) gB5.tree.rank gB5.tree.links (hO := hO')) ?_
          rintro _ _ w ⟨rfl, rfl⟩ hO
          simp only [List.cons_append, List.nil_append] at hO
          have hO : Own k w (arenaL u (addA (addA z.B (elementN p4 d4 0 nm []) (topI z.x.st)) (textN ⟨#[120]⟩) (z.B.length : Int)) :: _) := hO
          have hT5 : Twa x5.A (addA (addA z.B (elementN p4 d4 0 nm []) (topI z.x.st)) (textN ⟨#[120]⟩) (z.B.length : Int)) x5.K := by
            rw [hA5, hK5]
            have e5 := hT3.add gA5 gB5 (by rw [show runesBytes [120] = ⟨#[120]⟩ from by kernel_rfl])
            rw [htop3] at e5 ⊢
            exact e5
          refine K2 (K8 (K3 (K1 ?_)))
          refine l_y rfl rfl (y_move rfl) ?_
          refine l_y rfl rfl (D4) ?_
          refine l_y rfl rfl (y_assign rfl) ?_
          refine K2 ?_
          have e8 : (z.o ++ [nm]).length = z.o.length + 1 := by simp
          have e9 : (z.sk ++ [(z.B.length : Int)]).length = z.sk.length + 1 := by simp
          have hN5 : NB x5 (z.o ++ [nm]) (z.sk ++ [(z.B.length : Int)]) (20 + 2 * (y.i + 1)) := hN5
          exact q_next (⟨y.i + 1, x5, addA (addA z.B (elementN p4 d4 0 nm []) (topI z.x.st)) (textN ⟨#[120]⟩) (z.B.length : Int), z.o ++ [nm], z.sk ++ [(z.B.length : Int)], p133, c133, p152, c152⟩ : NS) (by dsimp only; repeat (first | exact trivial | refine ⟨rfl, ?_⟩)) ⟨hO.only [.b b, .o r, .o a, .o s, .o l, .o u, .p (some ⟨b40, 0, none⟩), .p p133, .p p152], ⟨by dsimp only; omega, by dsimp only; omega⟩, hN5, hT5⟩ (by dsimp only; omega)
      · refine l_y rfl rfl (y_move rfl) ?_
        repeat refine M2 ?_
        refine l_y rfl rfl (y_pick_f rfl rfl) ?_
        refine K2 (K3 (L9 (K7 (L1 (L1 (L2 (K3 (K0 ?_))))))))
        obtain ⟨g0, hg0⟩ : ∃ g0, g0 = at_ xs ((y.i : Int)).toNat := ⟨_, rfl⟩
        have hg0b : 0 ≤ g0 ∧ g0 ≤ 255 := by rw [hg0]; exact hb _ (at_mem (by omega))
        obtain ⟨m0, hm0⟩ : ∃ m0 : Nat, g0 / 4 % 3 = (m0 : Int) := ⟨(g0 / 4 % 3).toNat, by omega⟩
        have hm3 : m0 < 3 := by omega
        obtain ⟨nm, hnm⟩ : ∃ nm, nm = at_ bnL ((m0 : Int)).toNat := ⟨_, rfl⟩
        have hnb : nm ∈ bnL := by rw [hnm]; exact at_mem (by show m0 < 3; exact hm3)
        have hskl := hN2.stl
        have hol := hN2.ol
        have hbi2 := hN2.bi
        have hposA := hbi2.pos
        have hgs3 := (sls_fct (p := z.ps) (hO.ks [.p z.ps])).2
        have hlA := hN2.q.len
        have hlB := hT2.len
        have hstt := hN2.top
        refine K1 ?_
        refine l_y rfl rfl (y_move rfl) ?_
        refine l_y rfl rfl (y_move rfl) ?_
        refine l_y rfl rfl (y_move rfl) ?_
        refine l_y rfl rfl (y_idx rfl rfl) ?_
        refine l_y rfl rfl (y_r1 (x0 := 0) (enc := (eI .u8)) (xs := xs) hO rfl) ?_
        rw [← hg0]
        refine l_y rfl rfl (D7) ?_
        refine l_y rfl rfl (y_quoN rfl rfl hg0b.1 (by decide) (w64 (by omega) (by omega))) ?_
        refine l_y rfl rfl (y_remN rfl rfl (by omega) (by decide)) ?_
        rw [hm0]
        refine l_y rfl rfl (y_idx rfl rfl) ?_
        refine l_y rfl rfl (y_e1 (x0 := 0) hO rfl (hi := by show m0 < 3; exact hm3)) ?_
        rw [← hnm]
        refine l_y rfl rfl (y_assign rfl) ?_
        refine K2 (K3 (K0 (K1 ?_)))
        refine l_y rfl rfl (y_move rfl) ?_
        refine l_y rfl rfl (y_move rfl) ?_
        refine s_build (parts := [(0, .const (.int .i64 1)), (1, .tmp 127)]) (cs := [.int .i64 1, .string nm, .string ⟨#[]⟩, .string ⟨#[]⟩, .int .i64 0, .bool false, .int .i32 0, .bool false, .slice none 0 0]) rfl rfl (fun a ha => partsOf_sound ha _ _ rfl) (by kernel_rfl) ?_
        refine CK [.b b, .o r, .o a, .o s, .o l] hO rfl (fun k' hx hr hO' => nst_start (nm := nm) hnb (by omega) hN2 hO') ?_
        rintro _ _ w ⟨x3, ⟨hN3, p3, d3, hA3, hK3⟩, rfl, rfl⟩ hO
        simp only [List.cons_append, List.nil_append] at hO
        have gA := hbi2.addOk (n := elementN p3 d3 0 nm []) hN2.ne (el_kid p3 d3 nm) (Nat.zero_le _)
        refine K2 (K3 (K0 (K1 ?_)))
        refine l_y rfl rfl (y_move rfl) ?_
        refine l_y rfl rfl (y_move rfl) ?_
        refine s_lit (parts := [(0, .tmp 131)]) (enc := eS) [nm] [.string nm] hO rfl (fun b132 w hO => ?_)
        refine s_app hO rfl rfl (src_own hO) (fun p133 c133 w hO gs133 => ?_)
        refine l_y rfl rfl (y_assign rfl) ?_
        refine K2 (K3 (K0 (K1 ?_)))
        refine l_y rfl rfl (y_move rfl) ?_
        refine l_y rfl rfl (y_move rfl) ?_
        refine CK [.o u] hO rfl (fun k' hx hr hO' => Element_spec (sp := 0) (nm := nm) (xs := []) (ap := none) (ac := 0) (by omega) (by omega) (Sli.nil rfl) (hO := hO')) ?_
        rintro _ _ w ⟨p4, d4, rfl, rfl⟩ hO
        simp only [List.cons_append, List.nil_append] at hO
        rw [el_ok (bn_nt hnb).1 (bn_size hnb) (by omega)] at hO ⊢
        have gB : AddOk z.B z.x.K (elementN p4 d4 0 nm []) (topI z.x.st) := hT2.ok (elB_in (hbi2.top hN2.ne).1) (elB_par (hbi2.top hN2.ne).1) (el_kid p4 d4 nm) (Nat.zero_le _)
        refine l_y rfl rfl (y_move rfl) ?_
        refine l_y rfl rfl (y_extract rfl rfl) ?_
        refine l_y rfl rfl (y_extract rfl rfl) ?_
        refine l_y rfl rfl (y_assign rfl) ?_
        refine l_y rfl rfl (y_assign rfl) ?_
        refine K2 (K3 (K0 ?_))
        have hup : at_ z.sk ((z.sk.length : Int) - 1).toNat = topI z.x.st := by rw [hstt]; congr 1; omega
        refine K1 ?_
        refine l_y rfl rfl (y_move rfl) ?_
        refine l_y rfl rfl (y_move rfl) ?_
        refine l_y rfl rfl (y_move rfl) ?_
        refine l_y rfl rfl (y_lenL rfl) ?_
        refine l_y rfl rfl (D4) ?_
        refine l_y rfl rfl (y_idx rfl rfl) ?_
        refine l_y rfl rfl (y_e1 (x0 := 0) hO rfl) ?_
        rw [hup]
        refine l_y rfl rfl (y_move rfl) ?_
        refine CK [.o u] hO rfl (fun k' hx hr hO' => LinkC_spec (up := topI z.x.st) (id := (z.B.length : Int)) (before := -1) (by simp) gB.tree.rank gB.tree.links (hO := hO')) ?_
        rintro _ _ w ⟨rfl, rfl⟩ hO
        simp only [List.cons_append, List.nil_append] at hO
        have hO : Own k w (arenaL u (addA z.B (elementN p4 d4 0 nm []) (topI z.x.st)) :: _) := hO
        have hT3 : Twa x3.A (addA z.B (elementN p4 d4 0 nm []) (topI z.x.st)) x3.K := by rw [hA3, hK3]; exact hT2.add gA gB rfl
        have hN3 : NB x3 (z.o ++ [nm]) (z.sk ++ [(z.B.length : Int)]) (20 + 2 * y.i + 1) := by rw [hlB]; exact hN3
        have htop3 : topI x3.st = (z.B.length : Int) := by rw [hN3.top, List.length_append, List.length_singleton, Nat.add_sub_cancel, at_app_new]
        have hk3 : x3.K (topI x3.st) = [] := by rw [htop3, hK3, hlB]; exact addKK_new (elB_in (hbi2.top hN2.ne).1)
        have hlB3 : (addA z.B (elementN p4 d4 0 nm []) (topI z.x.st)).length = z.B.length + 1 := addA_len
        have hlA3 := hN3.q.len
        have hlT3 := hT3.len
        refine K2 (K3 (K0 (K1 ?_)))
        refine l_y rfl rfl (y_move rfl) ?_
        refine l_y rfl rfl (y_move rfl) ?_
        refine s_lit (parts := [(0, .tmp 150)]) (enc := (eI .i64)) [(z.B.length : Int)] [.int .i64 (z.B.length : Int)] hO rfl (fun b151 w hO => ?_)
        refine s_app hO rfl rfl (src_own hO) (fun p152 c152 w hO gs152 => ?_)
        refine l_y rfl rfl (y_assign rfl) ?_
        refine K2 (K3 (K0 (K1 ?_)))
        refine l_y rfl rfl (y_move rfl) ?_
        refine s_build (parts := [(0, .const (.int .i64 4)), (6, .const (.int .i32 120))]) (cs := [.int .i64 4, .string ⟨#[]⟩, .string ⟨#[]⟩, .string ⟨#[]⟩, .int .i64 0, .bool false, .int .i32 120, .bool false, .slice none 0 0]) rfl rfl (fun a ha => partsOf_sound ha _ _ rfl) (by kernel_rfl) ?_
        refine CK [.b b, .o r, .o a, .o s, .o l] hO rfl (fun k' hx hr hO' => nst_char (by omega) hN3 hk3 (by rw [htop3]; have := hbi2.pos; omega) hO') ?_
        rintro _ _ w ⟨x5, ⟨hN5, hA5, hK5⟩, rfl, rfl⟩ hO
        simp only [List.cons_append, List.nil_append] at hO
        have gA5 := hN3.bi.addOk (n := textN (runesBytes [120])) hN3.ne ⟨show (2 : Int) ≠ 0 by decide, show (2 : Int) ≠ 5 by decide⟩ (Nat.zero_le _)
        have gB5 : AddOk (addA z.B (elementN p4 d4 0 nm []) (topI z.x.st)) x3.K (textN ⟨#[120]⟩) (topI x3.st) := hT3.ok (elB_in (hN3.bi.top hN3.ne).1) (elB_par (hN3.bi.top hN3.ne).1) ⟨show (2 : Int) ≠ 0 by decide, show (2 : Int) ≠ 5 by decide⟩ (Nat.zero_le _)
        refine K2 (K3 (K0 (K1 ?_)))
        refine l_y rfl rfl (y_move rfl) ?_
        refine CK [.o u] hO rfl (fun k' hx hr hO' => Text_spec (s := ⟨#[120]⟩) (by omega) (by omega) (hO := hO')) ?_
        rintro _ _ w ⟨rfl, rfl⟩ hO
        simp only [List.cons_append, List.nil_append] at hO
        rw [txt_ok (by decide) (by omega)] at hO ⊢
        refine l_y rfl rfl (y_move rfl) ?_
        refine l_y rfl rfl (y_extract rfl rfl) ?_
        refine l_y rfl rfl (y_extract rfl rfl) ?_
        refine l_y rfl rfl (y_assign rfl) ?_
        refine l_y rfl rfl (y_assign rfl) ?_
        refine K2 (K3 (K1 ?_))
        refine l_y rfl rfl (y_move rfl) ?_
        refine l_y rfl rfl (y_move rfl) ?_
        refine l_y rfl rfl (y_move rfl) ?_
        refine CK [.o u] hO rfl (fun k' hx hr hO' => LinkC_spec (up := (z.B.length : Int)) (id := ((addA z.B (elementN p4 d4 0 nm []) (topI z.x.st)).length : Int)) (before := -1) (by simp) gB5.tree.rank gB5.tree.links (hO := hO')) ?_
        rintro _ _ w ⟨rfl, rfl⟩ hO
        simp only [List.cons_append, List.nil_append] at hO
        have hO : Own k w (arenaL u (addA (addA z.B (elementN p4 d4 0 nm []) (topI z.x.st)) (textN ⟨#[120]⟩) (z.B.length : Int)) :: _) := hO
        have hT5 : Twa x5.A (addA (addA z.B (elementN p4 d4 0 nm []) (topI z.x.st)) (textN ⟨#[120]⟩) (z.B.length : Int)) x5.K := by
          rw [hA5, hK5]
          have e5 := hT3.add gA5 gB5 (by rw [show runesBytes [120] = ⟨#[120]⟩ from by kernel_rfl])
          rw [htop3] at e5 ⊢
          exact e5
        refine K2 (K8 (K3 (K1 ?_)))
        refine l_y rfl rfl (y_move rfl) ?_
        refine l_y rfl rfl (D4) ?_
        refine l_y rfl rfl (y_assign rfl) ?_
        refine K2 ?_
        have e8 : (z.o ++ [nm]).length = z.o.length + 1 := by simp
        have e9 : (z.sk ++ [(z.B.length : Int)]).length = z.sk.length + 1 := by simp
        have hN5 : NB x5 (z.o ++ [nm]) (z.sk ++ [(z.B.length : Int)]) (20 + 2 * (y.i + 1)) := hN5
        exact q_next (⟨y.i + 1, x5, addA (addA z.B (elementN p4 d4 0 nm []) (topI z.x.st)) (textN ⟨#[120]⟩) (z.B.length : Int), z.o ++ [nm], z.sk ++ [(z.B.length : Int)], p133, c133, p152, c152⟩ : NS) (by dsimp only; repeat (first | exact trivial | refine ⟨rfl, ?_⟩)) ⟨hO.only [.b b, .o r, .o a, .o s, .o l, .o u, .p (some ⟨b40, 0, none⟩), .p p133, .p p152], ⟨by dsimp only; omega, by dsimp only; omega⟩, hN5, hT5⟩ (by dsimp only; omega)
    · refine l_y rfl rfl (y_pick_t rfl rfl) ?_
      refine K2 (K3 (L9 (K7 (L1 (L1 (L2 (K3 (K0 (K1 ?_)))))))))
      refine l_y rfl rfl (y_move rfl) ?_
      refine s_build (parts := [(0, .const (.int .i64 5))]) (cs := [.int .i64 5, .string ⟨#[]⟩, .string ⟨#[]⟩, .string ⟨#[]⟩, .int .i64 0, .bool false, .int .i32 0, .bool false, .slice none 0 0]) rfl rfl (fun a ha => partsOf_sound ha _ _ rfl) (by kernel_rfl) ?_
      refine CK [.b b, .o r, .o a, .o s, .o l] hO rfl (fun k' hx hr hO' => nst_eof (by omega) hN hO') ?_
      rintro _ _ w ⟨x9, hA9, rfl, rfl⟩ hO
      simp only [List.cons_append, List.nil_append] at hO
      rw [hA9] at hO
      have hlA := hN.q.len
      have hlB := hT.len
      have hsame := hT.same hN.bi.tree hN.bi.in0
      refine K2 (K3 (K0 (K1 ?_)))
      refine l_y rfl rfl (y_move rfl) ?_
      refine l_y rfl rfl (y_move rfl) ?_
      refine CK [.o a, .o u] hO rfl (fun k' hx hr hO' => Same2_spec (x := 0) (y := 0) hN.bi.tree hT.innok hT.tb hN.bi.pos (by rw [hlB]; exact hN.bi.pos) (by omega) (by omega) hO') ?_
      rintro _ _ w ⟨rfl, rfl⟩ hO
      simp only [List.cons_append, List.nil_append] at hO
      rw [hsame]
      refine l_y rfl rfl (y_assign rfl) ?_
      refine K2 (K3 (K6 ?_))
      exact fin1 rfl rfl ⟨_, rfl, hO⟩
  · refine l_y rfl rfl (y_move rfl) ?_
    repeat refine M2 ?_
    refine l_y rfl rfl (y_pick_f rfl rfl) ?_
    refine K2 (K3 (L9 (K7 (L1 (L1 (L2 (K3 (K0 (K1 ?_)))))))))
    refine l_y rfl rfl (y_move rfl) ?_
    refine s_build (parts := [(0, .const (.int .i64 5))]) (cs := [.int .i64 5, .string ⟨#[]⟩, .string ⟨#[]⟩, .string ⟨#[]⟩, .int .i64 0, .bool false, .int .i32 0, .bool false, .slice none 0 0]) rfl rfl (fun a ha => partsOf_sound ha _ _ rfl) (by kernel_rfl) ?_
    refine CK [.b b, .o r, .o a, .o s, .o l] hO rfl (fun k' hx hr hO' => nst_eof (by omega) hN hO') ?_
    rintro _ _ w ⟨x9, hA9, rfl, rfl⟩ hO
    simp only [List.cons_append, List.nil_append] at hO
    rw [hA9] at hO
    have hlA := hN.q.len
    have hlB := hT.len
    have hsame := hT.same hN.bi.tree hN.bi.in0
    refine K2 (K3 (K0 (K1 ?_)))
    refine l_y rfl rfl (y_move rfl) ?_
    refine l_y rfl rfl (y_move rfl) ?_
    refine CK [.o a, .o u] hO rfl (fun k' hx hr hO' => Same2_spec (x := 0) (y := 0) hN.bi.tree hT.innok hT.tb hN.bi.pos (by rw [hlB]; exact hN.bi.pos) (by omega) (by omega) hO') ?_
    rintro _ _ w ⟨rfl, rfl⟩ hO
    simp only [List.cons_append, List.nil_append] at hO
    rw [hsame]
    refine l_y rfl rfl (y_assign rfl) ?_
    refine K2 (K3 (K6 ?_))
    exact fin1 rfl rfl ⟨_, rfl, hO⟩
end
end Go.Proofs.YtpejdlfkaaiehaaGreatDoor
end
