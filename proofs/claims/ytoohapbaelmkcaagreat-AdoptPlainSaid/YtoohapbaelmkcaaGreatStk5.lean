/- The walks of Implied, Thorough, Special; no condition. -/
import Derived.Test.YtoohapbaelmkcaaGreatStk4
set_option linter.unusedVariables false
set_option linter.unusedSimpArgs false
set_option maxRecDepth 100000
namespace Go.Proofs.YtoohapbaelmkcaaGreat
open Go Go.Hb Go.RowKit
def implB (but : ByteArray) (sp : Int) (nm : ByteArray) : Bool := namB sp nm implL && !decide (nm = but)
def thorB (sp : Int) (nm : ByteArray) : Bool := namB sp nm implL || namB sp nm thorL
def implA (A : List Node_one) (but : ByteArray) (x : Int) : Bool := implB but (at_ A x.toNat).Node.Space (at_ A x.toNat).Node.Name
def thorA (A : List Node_one) (x : Int) : Bool := thorB (at_ A x.toNat).Node.Space (at_ A x.toNat).Node.Name
theorem NV.imp {A : List Node_one} {x : Int} {n : Api_node} {but : ByteArray} (h : NV A x n) (he : elB A x = true) : implB but n.Space n.Name = implA A but x := by rw [h.space (elB_has he), h.name (elB_has he)]; rfl
theorem NV.thor {A : List Node_one} {x : Int} {n : Api_node} (h : NV A x n) (he : elB A x = true) : thorB n.Space n.Name = thorA A x := by rw [h.space (elB_has he), h.name (elB_has he)]; rfl
def specB (sp : Int) (nm : ByteArray) : Bool := if sp = 1 then inB nm mathL else if sp = 2 then inB nm drawL else inB nm specL
def specA (A : List Node_one) (x : Int) : Bool := elB A x && specB (at_ A x.toNat).Node.Space (at_ A x.toNat).Node.Name
theorem NV.spec {A : List Node_one} {x : Int} {n : Api_node} (h : NV A x n) : specA A x = (elB A x && specB n.Space n.Name) := by
  unfold specA
  cases he : elB A x with
  | false => rfl
  | true => rw [h.space (elB_has he), h.name (elB_has he)]
set_option maxHeartbeats 1000000 in
theorem sSpecial_spec {k : Ctx} {w : World} {s a : Nat} {l : List Int} {A : List Node_one} {id : Int} (hn : 0 < A.length) (ha : AttrsOk A) (hO : Own k w [arenaL a A, stkL s a l]) :
    Tri Tryz.prog 99 #[.pointer (some ⟨s, 0, none⟩), .int .i64 id] k w fun v m => v = .bool (specA A id) ∧ m = [arenaL a A, stkL s a l] := by
  refine enter (args := [.pointer (some ⟨s, 0, none⟩), .int .i64 id]) Tryz.func99 rfl rfl ?_
  obtain ⟨p, c, hg, hlc, hO⟩ := stkL_open (hO.ks [.o s])
  refine K0 (K1 ?_)
  refine l_y rfl rfl (y_assign rfl) ?_
  refine K2 (K3 (K0 (K0 (K1 ?_))))
  refine l_y rfl rfl (y_move rfl) ?_
  refine CK [.b s] hO rfl (fun k' hx hr hO' => snone_spec (hO := hO')) ?_
  rintro _ _ w ⟨rfl, rfl⟩ hO
  simp only [List.cons_append, List.nil_append] at hO
  refine K2 (K3 (L9 (K5 (K3 (K0 (K1 ?_))))))
  refine l_y rfl rfl (y_move rfl) ?_
  refine l_y rfl rfl (y_move rfl) ?_
  refine CK [.o a, .b s] hO rfl (fun k' hx hr hO' => look_spec hn ha (hO := hO')) ?_
  rintro _ _ w ⟨x, hx, rfl, rfl⟩ hO
  simp only [List.cons_append, List.nil_append] at hO
  refine l_y rfl rfl (y_move rfl) ?_
  refine l_y rfl rfl (y_extract rfl rfl) ?_
  refine l_y rfl rfl (y_extract rfl rfl) ?_
  refine s_alloc (vs := [.int .i64 0, .int .i64 0, .string ⟨#[]⟩, .slice none 0 0, .string ⟨#[]⟩, .string ⟨#[]⟩, .int .i64 0, .int .i64 0, .int .i64 0, .int .i64 0, .int .i64 0, .int .i64 0]) hO rfl rfl rfl fun b5 w hO => ?_
  refine Y3 hO rfl rfl (fun w hO => ?_)
  refine l_y rfl rfl (y_assign rfl) ?_
  refine K2 (K3 (K0 (K1 ?_)))
  refine CK [] hO rfl (fun k' hx hr hO' => specials_spec (hO := hO')) ?_
  rintro _ _ w ⟨rfl, rfl⟩ hO
  simp only [List.cons_append, List.nil_append] at hO
  refine CK [] hO rfl (fun k' hx hr hO' => maths_spec (hO := hO')) ?_
  rintro _ _ w ⟨rfl, rfl⟩ hO
  simp only [List.cons_append, List.nil_append] at hO
  refine CK [] hO rfl (fun k' hx hr hO' => drawings_spec (hO := hO')) ?_
  rintro _ _ w ⟨rfl, rfl⟩ hO
  simp only [List.cons_append, List.nil_append] at hO
  refine s_alloc (vs := [.string ⟨#[]⟩, .string ⟨#[]⟩, .string ⟨#[]⟩, .string ⟨#[]⟩, .string ⟨#[]⟩, .string ⟨#[]⟩, .string ⟨#[]⟩, .string ⟨#[]⟩, .string ⟨#[]⟩, .string ⟨#[]⟩, .string ⟨#[]⟩, .string ⟨#[]⟩, .string ⟨#[]⟩, .string ⟨#[]⟩, .string ⟨#[]⟩, .string ⟨#[]⟩, .string ⟨#[]⟩, .string ⟨#[]⟩, .string ⟨#[]⟩, .string ⟨#[]⟩, .string ⟨#[]⟩, .string ⟨#[]⟩, .string ⟨#[]⟩, .string ⟨#[]⟩, .string ⟨#[]⟩, .string ⟨#[]⟩, .string ⟨#[]⟩, .string ⟨#[]⟩, .string ⟨#[]⟩, .string ⟨#[]⟩, .string ⟨#[]⟩, .string ⟨#[]⟩, .string ⟨#[]⟩, .string ⟨#[]⟩, .string ⟨#[]⟩, .string ⟨#[]⟩, .string ⟨#[]⟩, .string ⟨#[]⟩, .string ⟨#[]⟩, .string ⟨#[]⟩, .string ⟨#[]⟩, .string ⟨#[]⟩, .string ⟨#[]⟩, .string ⟨#[]⟩, .string ⟨#[]⟩, .string ⟨#[]⟩, .string ⟨#[]⟩, .string ⟨#[]⟩, .string ⟨#[]⟩, .string ⟨#[]⟩, .string ⟨#[]⟩, .string ⟨#[]⟩, .string ⟨#[]⟩, .string ⟨#[]⟩, .string ⟨#[]⟩, .string ⟨#[]⟩, .string ⟨#[]⟩, .string ⟨#[]⟩, .string ⟨#[]⟩, .string ⟨#[]⟩, .string ⟨#[]⟩, .string ⟨#[]⟩, .string ⟨#[]⟩, .string ⟨#[]⟩, .string ⟨#[]⟩, .string ⟨#[]⟩, .string ⟨#[]⟩, .string ⟨#[]⟩, .string ⟨#[]⟩, .string ⟨#[]⟩, .string ⟨#[]⟩, .string ⟨#[]⟩, .string ⟨#[]⟩, .string ⟨#[]⟩, .string ⟨#[]⟩, .string ⟨#[]⟩, .string ⟨#[]⟩, .string ⟨#[]⟩, .string ⟨#[]⟩, .string ⟨#[]⟩, .string ⟨#[]⟩, .string ⟨#[]⟩, .string ⟨#[]⟩]) hO rfl rfl rfl fun b7 w hO => ?_
  refine s_alloc (vs := [.string ⟨#[]⟩, .string ⟨#[]⟩, .string ⟨#[]⟩, .string ⟨#[]⟩, .string ⟨#[]⟩, .string ⟨#[]⟩]) hO rfl rfl rfl fun b8 w hO => ?_
  refine s_alloc (vs := [.string ⟨#[]⟩, .string ⟨#[]⟩, .string ⟨#[]⟩]) hO rfl rfl rfl fun b9 w hO => ?_
  refine Y3 hO rfl rfl (fun w hO => ?_)
  refine Y3 hO rfl rfl (fun w hO => ?_)
  refine Y3 hO rfl rfl (fun w hO => ?_)
  refine K2 (K3 (K0 (K0 (K1 ?_))))
  refine l_y rfl rfl (y_fldb (o' := 1) rfl) ?_
  refine l_y rfl rfl (D5 hO rfl) ?_
  refine K2 (K3 (K4 (K0 (K1 ?_))))
  refine Z0 (fun h6_0 => ?_) (fun h6_0 => ?_)
  · refine l_y rfl rfl (y_assign rfl) ?_
    refine K2 (K3 (L8 (K0 ?_)))
    refine da_region (by intro c a d v w h; cases d <;> exact h) ?_
    have hO := hO.drew
    refine da_phase _ [5] (SO.ks [.b b5] hO) ?_
    refine dx_u 0 (by kernel_rfl) rfl rfl rfl (fun w => y_move rfl) ?_
    refine dx_u 1 (by kernel_rfl) rfl rfl rfl (fun w => y_move rfl) ?_
    refine dx_split 26 rfl (fun hg26 => ?_) (fun hg26 => ?_)
    · refine dx_u 2 (by kernel_rfl) rfl rfl rfl (fun w => y_fldb (o' := 2) rfl) ?_
      refine dx_y 3 (by kernel_rfl) rfl rfl rfl (fun w ⟨m, hw⟩ => D5 hw rfl) ?_
      refine dx_u 4 (by kernel_rfl) rfl rfl rfl (fun w => y_sliceA rfl) ?_
      refine dx_close 5 (by kernel_rfl) rfl rfl ?_
      refine CK [] hO rfl (fun k' hx hr hO' => sin_spec (ts := mathL) (blk_ro (b := _) hr) (by decide) (hO := hO')) ?_
      rintro _ _ w ⟨rfl, rfl⟩ hO
      simp only [List.nil_append] at hO
      refine o_done ?_
      refine da_phase _ [] (SO.ks [] hO) ?_
      refine dx_u 6 (by kernel_rfl) rfl rfl rfl (fun w => y_pick_t rfl rfl) ?_
      refine dx_u 7 (by kernel_rfl) rfl rfl rfl (fun w => y_assign rfl) ?_
      refine dx_end (by kernel_rfl) ?_
      refine K3 (K6 (L0 (K9 ?_)))
      exact fin1 rfl rfl ⟨_, ⟨by rw [hx.spec]; simp [specB, *], rfl⟩, ((stkL_shut (hO.ks [.b s, .p p])).ks [.o a, .o s]).two⟩
    · refine dx_pass 2 (by kernel_rfl) rfl rfl rfl ?_
      refine dx_pass 3 (by kernel_rfl) rfl rfl rfl ?_
      refine dx_pass 4 (by kernel_rfl) rfl rfl rfl ?_
      refine dx_close 5 (by kernel_rfl) rfl rfl ?_
      refine M2 ?_
      refine o_done ?_
      refine da_phase _ [] (SO.ks [] hO) ?_
      refine dx_u 6 (by kernel_rfl) rfl rfl rfl (fun w => y_pick_f rfl rfl) ?_
      refine dx_u 7 (by kernel_rfl) rfl rfl rfl (fun w => y_assign rfl) ?_
      refine dx_end (by kernel_rfl) ?_
      refine K3 (K6 (L0 (K9 ?_)))
      exact fin1 rfl rfl ⟨_, ⟨by rw [hx.spec]; simp [specB, *], rfl⟩, ((stkL_shut (hO.ks [.b s, .p p])).ks [.o a, .o s]).two⟩
  · refine l_y rfl rfl (y_assign rfl) ?_
    refine K2 (K3 (L9 (K0 (K1 ?_))))
    refine Z0 (fun h8_0 => ?_) (fun h8_0 => ?_)
    · refine l_y rfl rfl (y_assign rfl) ?_
      refine K2 (K3 (L8 (K0 ?_)))
      refine da_region (by intro c a d v w h; cases d <;> exact h) ?_
      have hO := hO.drew
      refine da_phase _ [5] (SO.ks [.b b5] hO) ?_
      refine dx_u 0 (by kernel_rfl) rfl rfl rfl (fun w => y_move rfl) ?_
      refine dx_u 1 (by kernel_rfl) rfl rfl rfl (fun w => y_move rfl) ?_
      refine dx_split 35 rfl (fun hg35 => ?_) (fun hg35 => ?_)
      · refine dx_u 2 (by kernel_rfl) rfl rfl rfl (fun w => y_fldb (o' := 2) rfl) ?_
        refine dx_y 3 (by kernel_rfl) rfl rfl rfl (fun w ⟨m, hw⟩ => D5 hw rfl) ?_
        refine dx_u 4 (by kernel_rfl) rfl rfl rfl (fun w => y_sliceA rfl) ?_
        refine dx_close 5 (by kernel_rfl) rfl rfl ?_
        refine CK [] hO rfl (fun k' hx hr hO' => sin_spec (ts := drawL) (blk_ro (b := _) hr) (by decide) (hO := hO')) ?_
        rintro _ _ w ⟨rfl, rfl⟩ hO
        simp only [List.nil_append] at hO
        refine o_done ?_
        refine da_phase _ [] (SO.ks [] hO) ?_
        refine dx_u 6 (by kernel_rfl) rfl rfl rfl (fun w => y_pick_t rfl rfl) ?_
        refine dx_u 7 (by kernel_rfl) rfl rfl rfl (fun w => y_assign rfl) ?_
        refine dx_end (by kernel_rfl) ?_
        refine K3 (K6 (L0 (K9 ?_)))
        exact fin1 rfl rfl ⟨_, ⟨by rw [hx.spec]; simp [specB, *], rfl⟩, ((stkL_shut (hO.ks [.b s, .p p])).ks [.o a, .o s]).two⟩
      · refine dx_pass 2 (by kernel_rfl) rfl rfl rfl ?_
        refine dx_pass 3 (by kernel_rfl) rfl rfl rfl ?_
        refine dx_pass 4 (by kernel_rfl) rfl rfl rfl ?_
        refine dx_close 5 (by kernel_rfl) rfl rfl ?_
        refine M2 ?_
        refine o_done ?_
        refine da_phase _ [] (SO.ks [] hO) ?_
        refine dx_u 6 (by kernel_rfl) rfl rfl rfl (fun w => y_pick_f rfl rfl) ?_
        refine dx_u 7 (by kernel_rfl) rfl rfl rfl (fun w => y_assign rfl) ?_
        refine dx_end (by kernel_rfl) ?_
        refine K3 (K6 (L0 (K9 ?_)))
        exact fin1 rfl rfl ⟨_, ⟨by rw [hx.spec]; simp [specB, *], rfl⟩, ((stkL_shut (hO.ks [.b s, .p p])).ks [.o a, .o s]).two⟩
    · refine l_y rfl rfl (y_assign rfl) ?_
      refine K2 (K3 (L9 (K5 (K8 (K3 (K0 ?_))))))
      refine da_region (by intro c a d v w h; cases d <;> exact h) ?_
      have hO := hO.drew
      refine da_phase _ [5] (SO.ks [.b b5] hO) ?_
      refine dx_u 0 (by kernel_rfl) rfl rfl rfl (fun w => y_move rfl) ?_
      refine dx_u 1 (by kernel_rfl) rfl rfl rfl (fun w => y_move rfl) ?_
      refine dx_split 42 rfl (fun hg42 => ?_) (fun hg42 => ?_)
      · refine dx_u 2 (by kernel_rfl) rfl rfl rfl (fun w => y_fldb (o' := 2) rfl) ?_
        refine dx_y 3 (by kernel_rfl) rfl rfl rfl (fun w ⟨m, hw⟩ => D5 hw rfl) ?_
        refine dx_u 4 (by kernel_rfl) rfl rfl rfl (fun w => y_sliceA rfl) ?_
        refine dx_close 5 (by kernel_rfl) rfl rfl ?_
        refine CK [] hO rfl (fun k' hx hr hO' => sin_spec (ts := specL) (blk_ro (b := _) hr) (by decide) (hO := hO')) ?_
        rintro _ _ w ⟨rfl, rfl⟩ hO
        simp only [List.nil_append] at hO
        refine o_done ?_
        refine da_phase _ [] (SO.ks [] hO) ?_
        refine dx_u 6 (by kernel_rfl) rfl rfl rfl (fun w => y_pick_t rfl rfl) ?_
        refine dx_u 7 (by kernel_rfl) rfl rfl rfl (fun w => y_assign rfl) ?_
        refine dx_end (by kernel_rfl) ?_
        refine K3 (K6 ?_)
        exact fin1 rfl rfl ⟨_, ⟨by rw [hx.spec]; simp [specB, *], rfl⟩, ((stkL_shut (hO.ks [.b s, .p p])).ks [.o a, .o s]).two⟩
      · refine dx_pass 2 (by kernel_rfl) rfl rfl rfl ?_
        refine dx_pass 3 (by kernel_rfl) rfl rfl rfl ?_
        refine dx_pass 4 (by kernel_rfl) rfl rfl rfl ?_
        refine dx_close 5 (by kernel_rfl) rfl rfl ?_
        refine M2 ?_
        refine o_done ?_
        refine da_phase _ [] (SO.ks [] hO) ?_
        refine dx_u 6 (by kernel_rfl) rfl rfl rfl (fun w => y_pick_f rfl rfl) ?_
        refine dx_u 7 (by kernel_rfl) rfl rfl rfl (fun w => y_assign rfl) ?_
        refine dx_end (by kernel_rfl) ?_
        refine K3 (K6 ?_)
        exact fin1 rfl rfl ⟨_, ⟨by rw [hx.spec]; simp [specB, *], rfl⟩, ((stkL_shut (hO.ks [.b s, .p p])).ks [.o a, .o s]).two⟩
end Go.Proofs.YtoohapbaelmkcaaGreat
