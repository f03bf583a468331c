/- The walk of the law ShowSames; no condition. -/
import Derived.Test.YthkmnohghpdjhaaShw1
import Derived.Test.YthkmnohghpdjhaaSmd4
set_option linter.unusedVariables false
set_option linter.unusedSimpArgs false
set_option maxRecDepth 100000
namespace Go.Proofs.Ythkmnohghpdjhaa
open Go Go.Hb Go.RowKit
section
variable {k : Ctx} {w : World}
set_option maxHeartbeats 1000000 in
theorem ShowSames_spec {p q : Option Addr} {c d : Nat} {l m : List Law03_op} {x y : Int} (hs : Scr3 k p c l) (hs2 : Scr3 k q d m) (hO : Own k w []) :
    Tri Try.prog 6 #[.slice p l.length c, .slice q m.length d, .int .i64 x, .int .i64 y] k w fun v m => v = .bool true := by
  refine enter (args := [.slice p l.length c, .slice q m.length d, .int .i64 x, .int .i64 y]) Try.func6 rfl rfl ?_
  refine K0 (K1 ?_)
  refine l_y rfl rfl (y_assign rfl) ?_
  refine K2 (K3 (K0 (K1 ?_)))
  refine l_y rfl rfl (y_move rfl) ?_
  refine CK [] hO rfl (fun k' hx hr hO' => build_spec ⟨hs.sli.ext hO hx, fun o ho => (hs.one o ho).ext hO hx⟩ hO') ?_
  rintro _ _ w ⟨a, r, A, K, R, rfl, t, rfl⟩ hO
  simp only [List.cons_append, List.nil_append] at hO
  have hlen := t.len
  refine l_y rfl rfl (y_move rfl) ?_
  refine l_y rfl rfl (y_extract rfl rfl) ?_
  refine l_y rfl rfl (y_extract rfl rfl) ?_
  refine l_y rfl rfl (y_assign rfl) ?_
  refine l_y rfl rfl (y_assign rfl) ?_
  refine K2 (K3 (K0 (K1 ?_)))
  refine l_y rfl rfl (y_move rfl) ?_
  refine CK [] hO rfl (fun k' hx hr hO' => build_spec ⟨hs2.sli.ext hO hx, fun o ho => (hs2.one o ho).ext hO hx⟩ hO') ?_
  rintro _ _ w ⟨b, r2, B, L, Q, rfl, t2, rfl⟩ hO
  simp only [List.cons_append, List.nil_append] at hO
  have hlen2 := t2.len
  refine l_y rfl rfl (y_move rfl) ?_
  refine l_y rfl rfl (y_extract rfl rfl) ?_
  refine l_y rfl rfl (y_extract rfl rfl) ?_
  refine l_y rfl rfl (y_assign rfl) ?_
  refine l_y rfl rfl (y_assign rfl) ?_
  refine K2 (K3 (K0 (K0 (K1 ?_))))
  refine l_y rfl rfl (y_move rfl) ?_
  refine l_y rfl rfl (y_eqPnil rfl rfl rfl) ?_
  refine l_y rfl rfl (y_move rfl) ?_
  refine l_y rfl rfl (y_move rfl) ?_
  refine l_y rfl rfl (y_eqPnil rfl rfl rfl) ?_
  refine l_y rfl rfl (y_pick_f rfl rfl) ?_
  refine K2 (K3 (L9 (K5 (K3 (K0 (K1 ?_))))))
  refine l_y rfl rfl (y_move rfl) ?_
  refine l_y rfl rfl (y_move rfl) ?_
  refine l_y rfl rfl (y_move rfl) ?_
  refine l_y rfl rfl (y_move rfl) ?_
  refine CK [.o a, .o b] hO rfl (fun k' hx hr hO' => Same2_spec t.two.tree t.inn t2.two.tree t.two.pos t2.two.pos (by omega) (by omega) hO') ?_
  rintro _ _ w ⟨rfl, rfl⟩ hO
  simp only [List.cons_append, List.nil_append] at hO
  refine l_y rfl rfl (y_move rfl) ?_
  refine l_y rfl rfl (y_move rfl) ?_
  refine l_y rfl rfl (y_move rfl) ?_
  refine l_y rfl rfl (y_move rfl) ?_
  refine CK [.o r, .o r2] hO rfl (fun k' hx hr hO' => rSame_spec t.two.tree t.inn t2.two.tree t.two.sim t2.two.sim (by omega) (by omega) hO') ?_
  rintro _ _ w ⟨rfl, rfl⟩ hO
  simp only [List.cons_append, List.nil_append] at hO
  refine l_y rfl rfl (y_eqB (c := true) rfl rfl (by simp)) ?_
  refine l_y rfl rfl (y_move rfl) ?_
  refine CK [] hO rfl (fun k' hx hr hO' => awake03_spec (hO := hO')) ?_
  rintro _ _ w ⟨rfl, rfl⟩ hO
  simp only [List.cons_append, List.nil_append] at hO
  refine l_y rfl rfl (y_pick_t rfl rfl) ?_
  refine l_y rfl rfl (y_assign rfl) ?_
  refine K2 (K3 (K6 ?_))
  exact fin1 rfl rfl ⟨_, rfl, hO⟩
end
end Go.Proofs.Ythkmnohghpdjhaa
