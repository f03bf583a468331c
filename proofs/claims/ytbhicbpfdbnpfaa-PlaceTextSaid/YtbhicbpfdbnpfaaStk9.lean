/- The walks of the answer's stack beside the program's: scopes; no condition. -/
import Derived.Test.YtbhicbpfdbnpfaaStk8
set_option linter.unusedVariables false
set_option linter.unusedSimpArgs false
set_option maxRecDepth 100000
namespace Go.Proofs.Ytbhicbpfdbnpfaa
open Go Go.Hb Go.RowKit
theorem scope_end {A : List Node_one} {is : Int → Bool} {kind : Int} {l : List Int} {i : Int} (hs : scopeG is (bdA A kind) l = scopeG is (bdA A kind) (l.take (i + 1).toNat)) (h : i < 0 ∨ kind < 0 ∨ 4 < kind) : scopeL A is kind l = false := by
  unfold scopeL
  by_cases hk : kind < 0 ∨ 4 < kind
  · rw [if_pos hk]
  · rw [if_neg hk, hs, show (i + 1).toNat = 0 by omega]; rfl
section
variable {k : Ctx} {w : World} {r t c : Nat} {p : Option Addr} {A : List Node_one} {K : Int → List Int} {R : List Ref01_one} {l : List Int} {id kind : Int} {name : ByteArray}
set_option maxHeartbeats 1000000 in
theorem tScope_spec (s : Sim A K R) (hsp : SpOk A) (hel : AllEl A l) (hl : l.length ≤ 1000000) (hO : Own k w [rarL r R, rstkL t r l]) :
    Tri Try.prog 96 #[.pointer (some ⟨t, 0, none⟩), .string name, .int .i64 kind] k w fun v m => v = .bool (scopeL A (namA A [name]) kind l) ∧ m = [rarL r R, rstkL t r l] := by
  refine enter (args := [.pointer (some ⟨t, 0, none⟩), .string name, .int .i64 kind]) Try.func96 rfl rfl ?_
  obtain ⟨p, c, F, hg, hF, hO⟩ := rarL_open hO
  obtain ⟨q, d, hq, hld, hO⟩ := rstkL_open (hO.ks [.o t])
  refine K0 (K1 ?_)
  refine l_y rfl rfl (y_assign rfl) ?_
  refine K2 (K3 (K0 (K0 (K1 ?_))))
  refine l_y rfl rfl (y_move rfl) ?_
  refine l_y rfl rfl (y_nilCheck rfl rfl) ?_
  refine l_y rfl rfl (y_fldb (o' := 1) rfl) ?_
  refine l_y rfl rfl (D5 hO rfl) ?_
  refine l_y rfl rfl (y_lenL rfl) ?_
  refine l_y rfl rfl (D4) ?_
  refine l_y rfl rfl (y_assign rfl) ?_
  refine K2 (K3 (K4 ?_))
  refine c_rounds (X := Int) (fun i => [(0, .pointer (some ⟨t, 0, none⟩)), (1, .string name), (2, .int .i64 kind), (6, .bool false), (7, .int .i64 i)]) (fun i w => Own k w [rB r p R.length c, rS p c R, pool F, tB t r q l.length d, sI q d l] ∧ (-1 ≤ i ∧ i < l.length) ∧ (scopeG (namA A [name]) (bdA A kind) l = scopeG (namA A [name]) (bdA A kind) (l.take (i + 1).toNat))) (fun i => (i + 1).toNat) ((l.length : Int) - 1) ⟨rfl, rfl, rfl, rfl, rfl, trivial⟩ ⟨hO.only [.b r, .p p, .f, .b t, .p q], ⟨by omega, by omega⟩, by rw [List.take_of_length_le (by omega)]⟩ ?_
  rintro i w m hm ⟨hO, hi, hs⟩
  refine K0 (K0 (K1 ?_))
  refine l_y rfl rfl (y_move rfl) ?_
  refine Z0 (fun h2_1 => ?_) (fun h2_1 => ?_)
  · refine l_y rfl rfl (y_move rfl) ?_
    refine l_y rfl rfl (y_move rfl) ?_
    refine Z0 (fun h2_4 => ?_) (fun h2_4 => ?_)
    · refine l_y rfl rfl (y_pick_t rfl rfl) ?_
      refine l_y rfl rfl (y_move rfl) ?_
      refine l_y rfl rfl (y_move rfl) ?_
      refine Z0 (fun h2_8 => ?_) (fun h2_8 => ?_)
      · refine l_y rfl rfl (y_pick_t rfl rfl) ?_
        refine K2 (K3 (L8 (K5 (K3 (K0 (K4 (K0 (K0 ?_))))))))
        have hxe : elB A (at_ l i.toNat) = true := hel _ (at_mem (by omega))
        have hk : scopeL A (namA A [name]) kind l = scopeG (namA A [name]) (bdA A kind) l := by rw [scopeL, if_neg (by omega)]
        have hs2 := hs
        rw [show (i + 1).toNat = i.toNat + 1 by omega, take_succ_at (by omega), scopeG_snoc] at hs2
        refine K1 ?_
        refine l_y rfl rfl (y_move rfl) ?_
        refine l_y rfl rfl (y_move rfl) ?_
        refine l_y rfl rfl (y_nilCheck rfl rfl) ?_
        refine l_y rfl rfl (y_fldb (o' := 1) rfl) ?_
        refine l_y rfl rfl (D5 hO rfl) ?_
        refine l_y rfl rfl (y_move rfl) ?_
        refine l_y rfl rfl (y_idx rfl rfl) ?_
        refine l_y rfl rfl (y_e1 (x0 := 0) hO rfl) ?_
        refine l_y rfl rfl (y_move rfl) ?_
        refine CK [.b r, .p p, .b t] hO rfl (fun k' hx hr hO' => tNamed_spec s hg (hO := hO')) ?_
        rintro _ _ w ⟨rfl, rfl⟩ hO
        simp only [List.cons_append, List.nil_append] at hO
        refine K2 (K3 ?_)
        refine c_split rfl (fun hc35 => ?_) (fun hc35 => ?_)
        · refine K0 (K1 ?_)
          refine l_y rfl rfl (y_assign rfl) ?_
          refine K2 (K3 (K6 (K9 (L0 (K9 (K9 (L0 (K9 ?_))))))))
          exact fin1 rfl rfl ⟨_, ⟨by rw [hk, hs2, if_pos (by first | (simpa [hxe] using hc35) | simpa using h4_8)], rfl⟩, ((rarL_shut hF ((rstkL_shut (hO.ks [.b t, .p q])).ks [.b r, .p p, .f])).ks [.o r, .o t]).two⟩
        · refine K5 (K3 (K0 ?_))
          have hno : ¬ (namA A [name]) (at_ l i.toNat) = true := by first | (simpa [hxe] using hc35) | simpa using h4_8
          refine K1 ?_
          refine l_y rfl rfl (y_move rfl) ?_
          refine l_y rfl rfl (y_move rfl) ?_
          refine l_y rfl rfl (y_nilCheck rfl rfl) ?_
          refine l_y rfl rfl (y_fldb (o' := 1) rfl) ?_
          refine l_y rfl rfl (D5 hO rfl) ?_
          refine l_y rfl rfl (y_move rfl) ?_
          refine l_y rfl rfl (y_idx rfl rfl) ?_
          refine l_y rfl rfl (y_e1 (x0 := 0) hO rfl) ?_
          refine l_y rfl rfl (y_move rfl) ?_
          refine CK [.b r, .p p, .b t] hO rfl (fun k' hx hr hO' => tborder_spec s hsp hxe hg (hO := hO')) ?_
          rintro _ _ w ⟨rfl, rfl⟩ hO
          simp only [List.cons_append, List.nil_append] at hO
          refine K2 (K3 ?_)
          refine c_split rfl (fun hc45 => ?_) (fun hc45 => ?_)
          · refine K0 (K1 ?_)
            refine l_y rfl rfl (y_assign rfl) ?_
            refine K2 (K3 (K6 (L0 (K9 (K9 (L0 (K9 ?_)))))))
            exact fin1 rfl rfl ⟨_, ⟨by rw [hk, hs2, if_neg hno, if_pos (by first | exact hc45 | exact hc44)], rfl⟩, ((rarL_shut hF ((rstkL_shut (hO.ks [.b t, .p q])).ks [.b r, .p p, .f])).ks [.o r, .o t]).two⟩
          · refine K5 (K8 (K3 (K1 ?_)))
            refine l_y rfl rfl (y_move rfl) ?_
            refine l_y rfl rfl (D4) ?_
            refine l_y rfl rfl (y_assign rfl) ?_
            refine K2 ?_
            exact q_next (i - 1) ⟨rfl, rfl, rfl, rfl, rfl, trivial⟩ ⟨hO.only [.b r, .p p, .f, .b t, .p q], ⟨by omega, by omega⟩, by rw [hs2, if_neg hno, if_neg (by first | simp [hc45] | simp [hc44]), show (i - 1 + 1).toNat = i.toNat by omega]⟩ (by omega)
      · refine l_y rfl rfl (y_pick_t rfl rfl) ?_
        refine K2 (K3 (L9 (K7 (L1 (L1 (L2 (K3 (K0 (K1 ?_)))))))))
        refine l_y rfl rfl (y_assign rfl) ?_
        refine K2 (K3 (K6 ?_))
        rw [scope_end hs (by omega)]
        exact fin1 rfl rfl ⟨_, ⟨rfl, rfl⟩, ((rarL_shut hF ((rstkL_shut (hO.ks [.b t, .p q])).ks [.b r, .p p, .f])).ks [.o r, .o t]).two⟩
    · refine l_y rfl rfl (y_pick_t rfl rfl) ?_
      refine l_y rfl rfl (y_move rfl) ?_
      repeat refine M2 ?_
      refine l_y rfl rfl (y_pick_f rfl rfl) ?_
      refine K2 (K3 (L9 (K7 (L1 (L1 (L2 (K3 (K0 (K1 ?_)))))))))
      refine l_y rfl rfl (y_assign rfl) ?_
      refine K2 (K3 (K6 ?_))
      rw [scope_end hs (by omega)]
      exact fin1 rfl rfl ⟨_, ⟨rfl, rfl⟩, ((rarL_shut hF ((rstkL_shut (hO.ks [.b t, .p q])).ks [.b r, .p p, .f])).ks [.o r, .o t]).two⟩
  · refine l_y rfl rfl (y_move rfl) ?_
    repeat refine M2 ?_
    refine l_y rfl rfl (y_pick_f rfl rfl) ?_
    refine l_y rfl rfl (y_move rfl) ?_
    repeat refine M2 ?_
    refine l_y rfl rfl (y_pick_f rfl rfl) ?_
    refine K2 (K3 (L9 (K7 (L1 (L1 (L2 (K3 (K0 (K1 ?_)))))))))
    refine l_y rfl rfl (y_assign rfl) ?_
    refine K2 (K3 (K6 ?_))
    rw [scope_end hs (by omega)]
    exact fin1 rfl rfl ⟨_, ⟨rfl, rfl⟩, ((rarL_shut hF ((rstkL_shut (hO.ks [.b t, .p q])).ks [.b r, .p p, .f])).ks [.o r, .o t]).two⟩
set_option maxHeartbeats 1000000 in
theorem tNodeScope_spec (s : Sim A K R) (hsp : SpOk A) (hel : AllEl A l) (hl : l.length ≤ 1000000) (hO : Own k w [rarL r R, rstkL t r l]) :
    Tri Try.prog 98 #[.pointer (some ⟨t, 0, none⟩), .int .i64 id, .int .i64 kind] k w fun v m => v = .bool (scopeL A (fun x => decide (x = id)) kind l) ∧ m = [rarL r R, rstkL t r l] := by
  refine enter (args := [.pointer (some ⟨t, 0, none⟩), .int .i64 id, .int .i64 kind]) Try.func98 rfl rfl ?_
  obtain ⟨p, c, F, hg, hF, hO⟩ := rarL_open hO
  obtain ⟨q, d, hq, hld, hO⟩ := rstkL_open (hO.ks [.o t])
  refine K0 (K1 ?_)
  refine l_y rfl rfl (y_assign rfl) ?_
  refine K2 (K3 (K0 (K0 (K1 ?_))))
  refine l_y rfl rfl (y_move rfl) ?_
  refine l_y rfl rfl (y_nilCheck rfl rfl) ?_
  refine l_y rfl rfl (y_fldb (o' := 1) rfl) ?_
  refine l_y rfl rfl (D5 hO rfl) ?_
  refine l_y rfl rfl (y_lenL rfl) ?_
  refine l_y rfl rfl (D4) ?_
  refine l_y rfl rfl (y_assign rfl) ?_
  refine K2 (K3 (K4 ?_))
  refine c_rounds (X := Int) (fun i => [(0, .pointer (some ⟨t, 0, none⟩)), (1, .int .i64 id), (2, .int .i64 kind), (6, .bool false), (7, .int .i64 i)]) (fun i w => Own k w [rB r p R.length c, rS p c R, pool F, tB t r q l.length d, sI q d l] ∧ (-1 ≤ i ∧ i < l.length) ∧ (scopeG (fun x => decide (x = id)) (bdA A kind) l = scopeG (fun x => decide (x = id)) (bdA A kind) (l.take (i + 1).toNat))) (fun i => (i + 1).toNat) ((l.length : Int) - 1) ⟨rfl, rfl, rfl, rfl, rfl, trivial⟩ ⟨hO.only [.b r, .p p, .f, .b t, .p q], ⟨by omega, by omega⟩, by rw [List.take_of_length_le (by omega)]⟩ ?_
  rintro i w m hm ⟨hO, hi, hs⟩
  refine K0 (K0 (K1 ?_))
  refine l_y rfl rfl (y_move rfl) ?_
  refine Z0 (fun h2_1 => ?_) (fun h2_1 => ?_)
  · refine l_y rfl rfl (y_move rfl) ?_
    refine l_y rfl rfl (y_move rfl) ?_
    refine Z0 (fun h2_4 => ?_) (fun h2_4 => ?_)
    · refine l_y rfl rfl (y_pick_t rfl rfl) ?_
      refine l_y rfl rfl (y_move rfl) ?_
      refine l_y rfl rfl (y_move rfl) ?_
      refine Z0 (fun h2_8 => ?_) (fun h2_8 => ?_)
      · refine l_y rfl rfl (y_pick_t rfl rfl) ?_
        refine K2 (K3 (L8 (K5 (K3 (K0 (K4 (K0 (K0 ?_))))))))
        have hxe : elB A (at_ l i.toNat) = true := hel _ (at_mem (by omega))
        have hk : scopeL A (fun x => decide (x = id)) kind l = scopeG (fun x => decide (x = id)) (bdA A kind) l := by rw [scopeL, if_neg (by omega)]
        have hs2 := hs
        rw [show (i + 1).toNat = i.toNat + 1 by omega, take_succ_at (by omega), scopeG_snoc] at hs2
        refine K1 ?_
        refine l_y rfl rfl (y_move rfl) ?_
        refine l_y rfl rfl (y_nilCheck rfl rfl) ?_
        refine l_y rfl rfl (y_fldb (o' := 1) rfl) ?_
        refine l_y rfl rfl (D5 hO rfl) ?_
        refine l_y rfl rfl (y_move rfl) ?_
        refine l_y rfl rfl (y_idx rfl rfl) ?_
        refine l_y rfl rfl (y_e1 (x0 := 0) hO rfl) ?_
        refine l_y rfl rfl (y_move rfl) ?_
        refine Z0 (fun h4_8 => ?_) (fun h4_8 => ?_)
        · refine K2 (K3 (L8 (K0 (K1 ?_))))
          refine l_y rfl rfl (y_assign rfl) ?_
          refine K2 (K3 (K6 (K9 (L0 (K9 (K9 (L0 (K9 ?_))))))))
          exact fin1 rfl rfl ⟨_, ⟨by rw [hk, hs2, if_pos (by first | (simpa [hxe] using hc35) | simpa using h4_8)], rfl⟩, ((rarL_shut hF ((rstkL_shut (hO.ks [.b t, .p q])).ks [.b r, .p p, .f])).ks [.o r, .o t]).two⟩
        · refine K2 (K3 (L9 (K5 (K3 (K0 ?_)))))
          have hno : ¬ (fun x => decide (x = id)) (at_ l i.toNat) = true := by first | (simpa [hxe] using hc35) | simpa using h4_8
          refine K1 ?_
          refine l_y rfl rfl (y_move rfl) ?_
          refine l_y rfl rfl (y_move rfl) ?_
          refine l_y rfl rfl (y_nilCheck rfl rfl) ?_
          refine l_y rfl rfl (y_fldb (o' := 1) rfl) ?_
          refine l_y rfl rfl (D5 hO rfl) ?_
          refine l_y rfl rfl (y_move rfl) ?_
          refine l_y rfl rfl (y_idx rfl rfl) ?_
          refine l_y rfl rfl (y_e1 (x0 := 0) hO rfl) ?_
          refine l_y rfl rfl (y_move rfl) ?_
          refine CK [.b r, .p p, .b t] hO rfl (fun k' hx hr hO' => tborder_spec s hsp hxe hg (hO := hO')) ?_
          rintro _ _ w ⟨rfl, rfl⟩ hO
          simp only [List.cons_append, List.nil_append] at hO
          refine K2 (K3 ?_)
          refine c_split rfl (fun hc44 => ?_) (fun hc44 => ?_)
          · refine K0 (K1 ?_)
            refine l_y rfl rfl (y_assign rfl) ?_
            refine K2 (K3 (K6 (L0 (K9 (K9 (L0 (K9 ?_)))))))
            exact fin1 rfl rfl ⟨_, ⟨by rw [hk, hs2, if_neg hno, if_pos (by first | exact hc45 | exact hc44)], rfl⟩, ((rarL_shut hF ((rstkL_shut (hO.ks [.b t, .p q])).ks [.b r, .p p, .f])).ks [.o r, .o t]).two⟩
          · refine K5 (K8 (K3 (K1 ?_)))
            refine l_y rfl rfl (y_move rfl) ?_
            refine l_y rfl rfl (D4) ?_
            refine l_y rfl rfl (y_assign rfl) ?_
            refine K2 ?_
            exact q_next (i - 1) ⟨rfl, rfl, rfl, rfl, rfl, trivial⟩ ⟨hO.only [.b r, .p p, .f, .b t, .p q], ⟨by omega, by omega⟩, by rw [hs2, if_neg hno, if_neg (by first | simp [hc45] | simp [hc44]), show (i - 1 + 1).toNat = i.toNat by omega]⟩ (by omega)
      · refine l_y rfl rfl (y_pick_t rfl rfl) ?_
        refine K2 (K3 (L9 (K7 (L1 (L1 (L2 (K3 (K0 (K1 ?_)))))))))
        refine l_y rfl rfl (y_assign rfl) ?_
        refine K2 (K3 (K6 ?_))
        rw [scope_end hs (by omega)]
        exact fin1 rfl rfl ⟨_, ⟨rfl, rfl⟩, ((rarL_shut hF ((rstkL_shut (hO.ks [.b t, .p q])).ks [.b r, .p p, .f])).ks [.o r, .o t]).two⟩
    · refine l_y rfl rfl (y_pick_t rfl rfl) ?_
      refine l_y rfl rfl (y_move rfl) ?_
      repeat refine M2 ?_
      refine l_y rfl rfl (y_pick_f rfl rfl) ?_
      refine K2 (K3 (L9 (K7 (L1 (L1 (L2 (K3 (K0 (K1 ?_)))))))))
      refine l_y rfl rfl (y_assign rfl) ?_
      refine K2 (K3 (K6 ?_))
      rw [scope_end hs (by omega)]
      exact fin1 rfl rfl ⟨_, ⟨rfl, rfl⟩, ((rarL_shut hF ((rstkL_shut (hO.ks [.b t, .p q])).ks [.b r, .p p, .f])).ks [.o r, .o t]).two⟩
  · refine l_y rfl rfl (y_move rfl) ?_
    repeat refine M2 ?_
    refine l_y rfl rfl (y_pick_f rfl rfl) ?_
    refine l_y rfl rfl (y_move rfl) ?_
    repeat refine M2 ?_
    refine l_y rfl rfl (y_pick_f rfl rfl) ?_
    refine K2 (K3 (L9 (K7 (L1 (L1 (L2 (K3 (K0 (K1 ?_)))))))))
    refine l_y rfl rfl (y_assign rfl) ?_
    refine K2 (K3 (K6 ?_))
    rw [scope_end hs (by omega)]
    exact fin1 rfl rfl ⟨_, ⟨rfl, rfl⟩, ((rarL_shut hF ((rstkL_shut (hO.ks [.b t, .p q])).ks [.b r, .p p, .f])).ks [.o r, .o t]).two⟩
set_option maxHeartbeats 1000000 in
theorem tPopTo_spec (s : Sim A K R) (hel : AllEl A l) (hl : l.length ≤ 1000000) (hO : Own k w [rarL r R, rstkL t r l]) :
    Tri Try.prog 99 #[.pointer (some ⟨t, 0, none⟩), .string name] k w fun v m => v = .bool (popTo (namA A [name]) l).1 ∧ m = [rarL r R, rstkL t r (popTo (namA A [name]) l).2] := by
  refine enter (args := [.pointer (some ⟨t, 0, none⟩), .string name]) Try.func99 rfl rfl ?_
  obtain ⟨p, c, F, hg, hF, hO⟩ := rarL_open hO
  obtain ⟨q, d, hq, hld, hO⟩ := rstkL_open (hO.ks [.o t])
  refine K0 (K1 ?_)
  refine l_y rfl rfl (y_assign rfl) ?_
  refine K2 (K3 (K0 (K0 (K1 ?_))))
  refine l_y rfl rfl (y_move rfl) ?_
  refine l_y rfl rfl (y_nilCheck rfl rfl) ?_
  refine l_y rfl rfl (y_fldb (o' := 1) rfl) ?_
  refine l_y rfl rfl (D5 hO rfl) ?_
  refine l_y rfl rfl (y_lenL rfl) ?_
  refine l_y rfl rfl (D4) ?_
  refine l_y rfl rfl (y_assign rfl) ?_
  refine K2 (K3 (K4 ?_))
  refine c_rounds (X := Int) (fun i => [(0, .pointer (some ⟨t, 0, none⟩)), (1, .string name), (4, .bool false), (5, .int .i64 i)]) (fun i w => Own k w [rB r p R.length c, rS p c R, pool F, tB t r q l.length d, sI q d l] ∧ (-1 ≤ i ∧ i < l.length) ∧ (popR (namA A [name]) l.reverse = popR (namA A [name]) (l.take (i + 1).toNat).reverse)) (fun i => (i + 1).toNat) ((l.length : Int) - 1) ⟨rfl, rfl, rfl, rfl, trivial⟩ ⟨hO.only [.b r, .p p, .f, .b t, .p q], ⟨by omega, by omega⟩, by rw [List.take_of_length_le (by omega)]⟩ ?_
  rintro i w m hm ⟨hO, hi, hs⟩
  refine K0 (K0 (K1 ?_))
  refine l_y rfl rfl (y_move rfl) ?_
  refine Z0 (fun h2_1 => ?_) (fun h2_1 => ?_)
  · refine K2 (K3 (L8 (K5 (K3 (K0 (K4 (K0 ?_)))))))
    have hxe : elB A (at_ l i.toNat) = true := hel _ (at_mem (by omega))
    have hs2 := hs
    rw [show (i + 1).toNat = i.toNat + 1 by omega, take_succ_at (by omega), popR_snoc] at hs2
    refine K1 ?_
    refine l_y rfl rfl (y_move rfl) ?_
    refine l_y rfl rfl (y_move rfl) ?_
    refine l_y rfl rfl (y_nilCheck rfl rfl) ?_
    refine l_y rfl rfl (y_fldb (o' := 1) rfl) ?_
    refine l_y rfl rfl (D5 hO rfl) ?_
    refine l_y rfl rfl (y_move rfl) ?_
    refine l_y rfl rfl (y_idx rfl rfl) ?_
    refine l_y rfl rfl (y_e1 (x0 := 0) hO rfl) ?_
    refine l_y rfl rfl (y_move rfl) ?_
    refine CK [.b r, .p p, .b t] hO rfl (fun k' hx hr hO' => tNamed_spec s hg (hO := hO')) ?_
    rintro _ _ w ⟨rfl, rfl⟩ hO
    simp only [List.cons_append, List.nil_append] at hO
    refine K2 (K3 ?_)
    refine c_split rfl (fun hc25 => ?_) (fun hc25 => ?_)
    · refine K0 (K1 ?_)
      refine l_y rfl rfl (y_move rfl) ?_
      refine l_y rfl rfl (y_move rfl) ?_
      refine l_y rfl rfl (y_nilCheck rfl rfl) ?_
      refine l_y rfl rfl (y_fldb (o' := 1) rfl) ?_
      refine l_y rfl rfl (D5 hO rfl) ?_
      refine l_y rfl rfl (y_move rfl) ?_
      refine l_y rfl rfl (y_hd (i : Int).toNat rfl rfl) ?_
      refine l_y rfl rfl (y_nilCheck rfl rfl) ?_
      refine l_y rfl rfl (y_fldb (o' := 1) rfl) ?_
      refine Y1 hO rfl rfl (fun w hO => ?_)
      simp only [List.set_cons_zero, List.set_cons_succ] at hO
      refine K2 (K3 (K0 (K1 ?_)))
      refine l_y rfl rfl (y_assign rfl) ?_
      refine K2 (K3 (K6 (L0 (K9 (K9 (L0 (K9 ?_)))))))
      rw [popTo_yes (m := l.take i.toNat) (by rw [hs2, if_pos (by simpa [hxe] using hc25)])]
      have hO := sls_cut (hO.ks [.p q]) i.toNat d (by omega) (by omega) (Nat.le_refl _)
      exact fin1 rfl rfl ⟨_, ⟨rfl, rfl⟩, ((rarL_shut hF ((rstkL_shut (hO.ks [.b t, .p q]) (by simp; omega)).ks [.b r, .p p, .f])).ks [.o r, .o t]).two⟩
    · refine K5 (K8 (K3 (K1 ?_)))
      refine l_y rfl rfl (y_move rfl) ?_
      refine l_y rfl rfl (D4) ?_
      refine l_y rfl rfl (y_assign rfl) ?_
      refine K2 ?_
      exact q_next (i - 1) ⟨rfl, rfl, rfl, rfl, trivial⟩ ⟨hO.only [.b r, .p p, .f, .b t, .p q], ⟨by omega, by omega⟩, by rw [hs2, if_neg (by simpa [hxe] using hc25), show (i - 1 + 1).toNat = i.toNat by omega]⟩ (by omega)
  · refine K2 (K3 (L9 (K7 (L1 (L1 (L2 (K3 (K0 (K1 ?_)))))))))
    refine l_y rfl rfl (y_assign rfl) ?_
    refine K2 (K3 (K6 ?_))
    rw [popTo_no (by rw [hs, show (i + 1).toNat = 0 by omega]; rfl)]
    exact fin1 rfl rfl ⟨_, ⟨rfl, rfl⟩, ((rarL_shut hF ((rstkL_shut (hO.ks [.b t, .p q])).ks [.b r, .p p, .f])).ks [.o r, .o t]).two⟩
theorem tSpecial_spec (s : Sim A K R) (hO : Own k w [rarL r R, rstkL t r l]) :
    Tri Try.prog 103 #[.pointer (some ⟨t, 0, none⟩), .int .i64 id] k w fun v m => v = .bool (specA A id) ∧ m = [rarL r R, rstkL t r l] := by
  refine enter (args := [.pointer (some ⟨t, 0, none⟩), .int .i64 id]) Try.func103 rfl rfl ?_
  obtain ⟨p, c, F, hg, hF, hO⟩ := rarL_open hO
  obtain ⟨q, d, hq, hld, hO⟩ := rstkL_open (hO.ks [.o t])
  refine K0 (K1 ?_)
  refine l_y rfl rfl (y_assign rfl) ?_
  refine K2 (K3 (K0 (K0 (K1 ?_))))
  refine l_y rfl rfl (y_move rfl) ?_
  refine l_y rfl rfl (y_nilCheck rfl rfl) ?_
  refine l_y rfl rfl (y_fldb (o' := 0) rfl) ?_
  refine l_y rfl rfl (D5 hO rfl) ?_
  refine l_y rfl rfl (y_move rfl) ?_
  refine CK [.b r, .p p] hO rfl (fun k' hx hr hO' => tEl_spec s hg (hO := hO')) ?_
  rintro _ _ w ⟨rfl, rfl⟩ hO
  simp only [List.cons_append, List.nil_append] at hO
  refine l_y rfl rfl (y_not rfl rfl) ?_
  refine K2 (K3 ?_)
  refine c_split rfl (fun hc12 => ?_) (fun hc12 => ?_)
  · simp only [Bool.not_eq_true', Bool.not_eq_false'] at hc12
    refine K0 (K1 ?_)
    refine l_y rfl rfl (y_assign rfl) ?_
    refine K2 (K3 (K6 (K9 ?_)))
    have hel : elB A id = false := by simpa using hc12
    exact fin1 rfl rfl ⟨_, ⟨by rw [specA, hel]; rfl, rfl⟩, ((rarL_shut hF ((rstkL_shut (hO.ks [.b t, .p q])).ks [.b r, .p p, .f])).ks [.o r, .o t]).two⟩
  · simp only [Bool.not_eq_true', Bool.not_eq_false'] at hc12
    refine K5 (K3 (K0 ?_))
    have hel : elB A id = true := by simpa using hc12
    have hb := elB_has hel
    have hid := hasR_true (by rw [s.has]; exact hb)
    have e1 := (s.atB hb).space
    have e2 := (s.atB hb).name
    have e3 : specA A id = specB (at_ R id.toNat).Space (at_ R id.toNat).Name := by rw [specA, hel, e1, e2]; rfl
    refine K1 ?_
    refine l_y rfl rfl (y_move rfl) ?_
    refine l_y rfl rfl (y_nilCheck rfl rfl) ?_
    refine l_y rfl rfl (y_fldb (o' := 0) rfl) ?_
    refine l_y rfl rfl (D5 hO rfl) ?_
    refine l_y rfl rfl (y_nilCheck rfl rfl) ?_
    refine l_y rfl rfl (y_fldb (o' := 0) rfl) ?_
    refine l_y rfl rfl (D5 hO rfl) ?_
    refine l_y rfl rfl (y_move rfl) ?_
    refine l_y rfl rfl (y_idx rfl rfl) ?_
    refine l_y rfl rfl (y_eA (x0 := 0) (cs := [.int .i64 (at_ R (id : Int).toNat).Kind, .int .i64 (at_ R (id : Int).toNat).Space, .string (at_ R (id : Int).toNat).Name, .slice (at_ R (id : Int).toNat).AttrsP (at_ R (id : Int).toNat).Attrs.length (at_ R (id : Int).toNat).AttrsC, .string (at_ R (id : Int).toNat).Data, .string (at_ R (id : Int).toNat).System, .int .i64 (at_ R (id : Int).toNat).Inner, .int .i64 (at_ R (id : Int).toNat).Host, .int .i64 (at_ R (id : Int).toNat).Up, .slice (at_ R (id : Int).toNat).KidsP (at_ R (id : Int).toNat).Kids.length (at_ R (id : Int).toNat).KidsC]) hO rfl) ?_
    refine s_alloc (vs := [.int .i64 0, .int .i64 0, .string ⟨#[]⟩, .slice none 0 0, .string ⟨#[]⟩, .string ⟨#[]⟩, .int .i64 0, .int .i64 0, .int .i64 0, .slice none 0 0]) hO rfl rfl rfl fun b5 w hO => ?_
    refine Y3 hO rfl rfl (fun w hO => ?_)
    refine K2 (K3 (K0 (K0 (K1 ?_))))
    refine l_y rfl rfl (y_fldb (o' := 1) rfl) ?_
    refine l_y rfl rfl (D5 hO rfl) ?_
    refine K2 (K3 (K4 (K0 (K1 ?_))))
    refine Z0 (fun h5_0 => ?_) (fun h5_0 => ?_)
    · refine l_y rfl rfl (y_assign rfl) ?_
      refine K2 (K3 (L8 (K0 ?_)))
      refine da_region (by intro c a d v w h; cases d <;> exact h) ?_
      have hO := hO.drew
      refine da_phase _ [3] (SO.ks [.b b5] hO) ?_
      refine dx_u 1 (by kernel_rfl) rfl rfl rfl (fun w => y_fldb (o' := 2) rfl) ?_
      refine dx_y 2 (by kernel_rfl) rfl rfl rfl (fun w ⟨m, hw⟩ => D5 hw rfl) ?_
      refine dx_only 0 (by kernel_rfl) rfl rfl ?_
      refine CK [] hO rfl (fun k' hx hr hO' => tmath_spec (hO := hO')) ?_
      rintro _ _ w ⟨b27, rfl, rfl⟩ hO
      simp only [List.cons_append, List.nil_append] at hO
      refine o_done ?_
      refine ⟨SO.ks [.b b5] hO, ?_⟩
      refine dx_close 3 (by kernel_rfl) rfl rfl ?_
      refine CK [] hO rfl (fun k' hx hr hO' => tIn_spec (ts := mathL) (sls_roK (p := (some ⟨b27, 0, none⟩)) hr (sls_fct (p := (some ⟨b27, 0, none⟩)) hO)) (by decide) (hO := hO')) ?_
      rintro _ _ w ⟨rfl, rfl⟩ hO
      simp only [List.cons_append, List.nil_append] at hO
      refine o_done ?_
      refine da_phase _ [] (SO.ks [] hO) ?_
      refine dx_u 4 (by kernel_rfl) rfl rfl rfl (fun w => y_assign rfl) ?_
      refine dx_end (by kernel_rfl) ?_
      refine K3 (K6 (L0 (K9 ?_)))
      exact fin1 rfl rfl ⟨_, ⟨by rw [e3]; clear e1 e2 e3; simp [specB, *], rfl⟩, ((rarL_shut hF ((rstkL_shut (hO.ks [.b t, .p q])).ks [.b r, .p p, .f])).ks [.o r, .o t]).two⟩
    · refine l_y rfl rfl (y_assign rfl) ?_
      refine K2 (K3 (L9 (K0 (K1 ?_))))
      refine Z0 (fun h7_0 => ?_) (fun h7_0 => ?_)
      · refine l_y rfl rfl (y_assign rfl) ?_
        refine K2 (K3 (L8 (K0 ?_)))
        refine da_region (by intro c a d v w h; cases d <;> exact h) ?_
        have hO := hO.drew
        refine da_phase _ [3] (SO.ks [.b b5] hO) ?_
        refine dx_u 1 (by kernel_rfl) rfl rfl rfl (fun w => y_fldb (o' := 2) rfl) ?_
        refine dx_y 2 (by kernel_rfl) rfl rfl rfl (fun w ⟨m, hw⟩ => D5 hw rfl) ?_
        refine dx_only 0 (by kernel_rfl) rfl rfl ?_
        refine CK [] hO rfl (fun k' hx hr hO' => tdrawn_spec (hO := hO')) ?_
        rintro _ _ w ⟨b33, rfl, rfl⟩ hO
        simp only [List.cons_append, List.nil_append] at hO
        refine o_done ?_
        refine ⟨SO.ks [.b b5] hO, ?_⟩
        refine dx_close 3 (by kernel_rfl) rfl rfl ?_
        refine CK [] hO rfl (fun k' hx hr hO' => tIn_spec (ts := drawL) (sls_roK (p := (some ⟨b33, 0, none⟩)) hr (sls_fct (p := (some ⟨b33, 0, none⟩)) hO)) (by decide) (hO := hO')) ?_
        rintro _ _ w ⟨rfl, rfl⟩ hO
        simp only [List.cons_append, List.nil_append] at hO
        refine o_done ?_
        refine da_phase _ [] (SO.ks [] hO) ?_
        refine dx_u 4 (by kernel_rfl) rfl rfl rfl (fun w => y_assign rfl) ?_
        refine dx_end (by kernel_rfl) ?_
        refine K3 (K6 (L0 (K9 ?_)))
        exact fin1 rfl rfl ⟨_, ⟨by rw [e3]; clear e1 e2 e3; simp [specB, *], rfl⟩, ((rarL_shut hF ((rstkL_shut (hO.ks [.b t, .p q])).ks [.b r, .p p, .f])).ks [.o r, .o t]).two⟩
      · refine l_y rfl rfl (y_assign rfl) ?_
        refine K2 (K3 (L9 (K5 (K8 (K3 (K0 ?_))))))
        refine da_region (by intro c a d v w h; cases d <;> exact h) ?_
        have hO := hO.drew
        refine da_phase _ [3] (SO.ks [.b b5] hO) ?_
        refine dx_u 1 (by kernel_rfl) rfl rfl rfl (fun w => y_fldb (o' := 2) rfl) ?_
        refine dx_y 2 (by kernel_rfl) rfl rfl rfl (fun w ⟨m, hw⟩ => D5 hw rfl) ?_
        refine dx_only 0 (by kernel_rfl) rfl rfl ?_
        refine CK [] hO rfl (fun k' hx hr hO' => tspecial_spec (hO := hO')) ?_
        rintro _ _ w ⟨b37, rfl, rfl⟩ hO
        simp only [List.cons_append, List.nil_append] at hO
        refine o_done ?_
        refine ⟨SO.ks [.b b5] hO, ?_⟩
        refine dx_close 3 (by kernel_rfl) rfl rfl ?_
        refine CK [] hO rfl (fun k' hx hr hO' => tIn_spec (ts := specL) (sls_roK (p := (some ⟨b37, 0, none⟩)) hr (sls_fct (p := (some ⟨b37, 0, none⟩)) hO)) (by decide) (hO := hO')) ?_
        rintro _ _ w ⟨rfl, rfl⟩ hO
        simp only [List.cons_append, List.nil_append] at hO
        refine o_done ?_
        refine da_phase _ [] (SO.ks [] hO) ?_
        refine dx_u 4 (by kernel_rfl) rfl rfl rfl (fun w => y_assign rfl) ?_
        refine dx_end (by kernel_rfl) ?_
        refine K3 (K6 ?_)
        exact fin1 rfl rfl ⟨_, ⟨by rw [e3]; clear e1 e2 e3; simp [specB, *], rfl⟩, ((rarL_shut hF ((rstkL_shut (hO.ks [.b t, .p q])).ks [.b r, .p p, .f])).ks [.o r, .o t]).two⟩
theorem tNew_spec (hO : Own k w [rarL r R]) :
    Tri Try.prog 31 #[.pointer (some ⟨r, 0, none⟩)] k w fun v m => ∃ t, v = .pointer (some ⟨t, 0, none⟩) ∧ m = [rarL r R, rstkL t r []] := by
  refine enter (args := [.pointer (some ⟨r, 0, none⟩)]) Try.func31 rfl rfl ?_
  refine K0 (K1 ?_)
  refine l_y rfl rfl (y_assign rfl) ?_
  refine K2 (K3 (K0 (K1 ?_)))
  refine l_y rfl rfl (y_move rfl) ?_
  refine s_build (parts := [(0, .tmp 3)]) (cs := [.pointer (some ⟨r, 0, none⟩), .slice none 0 0]) rfl rfl (fun a ha => partsOf_sound ha _ _ rfl) (by kernel_rfl) ?_
  refine s_box (vs := [.pointer (some ⟨r, 0, none⟩), .slice none 0 0]) hO rfl rfl rfl (by rfl) fun b5 w hO => ?_
  refine l_y rfl rfl (y_assign rfl) ?_
  refine K2 (K3 (K6 ?_))
  have hO : Own k w (sls none 0 3 1 (eI .i64) ([] : List Int) :: _) := sl_nil 3 1 hO
  exact fin1 rfl rfl ⟨_, ⟨_, rfl, rfl⟩, ((rstkL_shut (l := []) (hO.ks [.b b5, .p none]) rfl).ks [.o r, .o b5]).two⟩
def thor18 : List ByteArray := [⟨#[99, 97, 112, 116, 105, 111, 110]⟩, ⟨#[99, 111, 108, 103, 114, 111, 117, 112]⟩, ⟨#[100, 100]⟩, ⟨#[100, 116]⟩, ⟨#[108, 105]⟩, ⟨#[111, 112, 116, 103, 114, 111, 117, 112]⟩, ⟨#[111, 112, 116, 105, 111, 110]⟩, ⟨#[112]⟩, ⟨#[114, 98]⟩, ⟨#[114, 112]⟩, ⟨#[114, 116]⟩, ⟨#[114, 116, 99]⟩, ⟨#[116, 98, 111, 100, 121]⟩, ⟨#[116, 100]⟩, ⟨#[116, 102, 111, 111, 116]⟩, ⟨#[116, 104]⟩, ⟨#[116, 104, 101, 97, 100]⟩, ⟨#[116, 114]⟩]
theorem thor_eq (nm : ByteArray) : inB nm thor18 = (inB nm implL || inB nm thorL) := by
  have h : thor18.Perm (implL ++ thorL) := by decide
  rw [inB, inB, inB, ← List.any_append, h.any_eq]
theorem elB_none {A : List Node_one} : elB A (-1) = false := by rw [elB, show hasB A (-1) = false from by simp [hasB]]; rfl
theorem topI_nil {l : List Int} (h : l.length = 0) : topI l = -1 := by rw [topI, atI, if_pos (by omega)]
set_option maxHeartbeats 1000000 in
theorem tThorough_spec (s : Sim A K R) (hel : AllEl A l) (hl : l.length ≤ 1000000) (hO : Own k w [rarL r R, rstkL t r l]) :
    Tri Try.prog 101 #[.pointer (some ⟨t, 0, none⟩)] k w fun v m => v = .int .i64 ((l.length : Int) - ((dropL (thorA A) l).length : Int)) ∧ m = [rarL r R, rstkL t r (dropL (thorA A) l)] := by
  refine enter (args := [.pointer (some ⟨t, 0, none⟩)]) Try.func101 rfl rfl ?_
  obtain ⟨p, c, F, hg, hF, hO⟩ := rarL_open hO
  have hdl := dropL_len (thorA A) l
  have ht : ∀ x, namA A thor18 x = thorA A x := fun x => by
    simp only [namA, thorA, thorB, namB, thor_eq]
    cases decide ((at_ A x.toNat).Node.Space = 0) <;> simp
  refine K0 (K1 ?_)
  refine l_y rfl rfl (y_assign rfl) ?_
  refine K2 (K3 (K0 (K1 ?_)))
  refine l_y rfl rfl (y_assign rfl) ?_
  refine K2 (K3 (K0 (K4 ?_)))
  refine c_rounds (X := List Int × Int) (fun x => [(0, .pointer (some ⟨t, 0, none⟩)), (2, .int .i64 0), (3, .int .i64 x.2)]) (fun x w => Own k w [rB r p R.length c, rS p c R, pool F, rstkL t r x.1] ∧ (AllEl A x.1 ∧ x.1.length ≤ l.length) ∧ (dropL (thorA A) l = dropL (thorA A) x.1) ∧ (x.2 = (l.length : Int) - (x.1.length : Int))) (fun x => x.1.length) ((l, 0)) ⟨rfl, rfl, rfl, trivial⟩ ⟨hO.only [.b r, .p p, .f, .o t], ⟨hel, Nat.le_refl _⟩, rfl, by simp⟩ ?_
  rintro x w m hm ⟨hO, he, hs, hz⟩
  refine K0 (K0 (K1 ?_))
  refine l_y rfl rfl (y_move rfl) ?_
  refine l_y rfl rfl (y_move rfl) ?_
  refine CK [.o t] hO rfl (fun k' hx hr hO' => tTop_spec (by omega) (hO := hO')) ?_
  rintro _ _ w ⟨rfl, rfl⟩ hO
  simp only [List.cons_append, List.nil_append] at hO
  refine s_lit (parts := [(0, .const (.string ⟨#[99, 97, 112, 116, 105, 111, 110]⟩)), (1, .const (.string ⟨#[99, 111, 108, 103, 114, 111, 117, 112]⟩)), (2, .const (.string ⟨#[100, 100]⟩)), (3, .const (.string ⟨#[100, 116]⟩)), (4, .const (.string ⟨#[108, 105]⟩)), (5, .const (.string ⟨#[111, 112, 116, 103, 114, 111, 117, 112]⟩)), (6, .const (.string ⟨#[111, 112, 116, 105, 111, 110]⟩)), (7, .const (.string ⟨#[112]⟩)), (8, .const (.string ⟨#[114, 98]⟩)), (9, .const (.string ⟨#[114, 112]⟩)), (10, .const (.string ⟨#[114, 116]⟩)), (11, .const (.string ⟨#[114, 116, 99]⟩)), (12, .const (.string ⟨#[116, 98, 111, 100, 121]⟩)), (13, .const (.string ⟨#[116, 100]⟩)), (14, .const (.string ⟨#[116, 102, 111, 111, 116]⟩)), (15, .const (.string ⟨#[116, 104]⟩)), (16, .const (.string ⟨#[116, 104, 101, 97, 100]⟩)), (17, .const (.string ⟨#[116, 114]⟩))]) (enc := eS) [⟨#[99, 97, 112, 116, 105, 111, 110]⟩, ⟨#[99, 111, 108, 103, 114, 111, 117, 112]⟩, ⟨#[100, 100]⟩, ⟨#[100, 116]⟩, ⟨#[108, 105]⟩, ⟨#[111, 112, 116, 103, 114, 111, 117, 112]⟩, ⟨#[111, 112, 116, 105, 111, 110]⟩, ⟨#[112]⟩, ⟨#[114, 98]⟩, ⟨#[114, 112]⟩, ⟨#[114, 116]⟩, ⟨#[114, 116, 99]⟩, ⟨#[116, 98, 111, 100, 121]⟩, ⟨#[116, 100]⟩, ⟨#[116, 102, 111, 111, 116]⟩, ⟨#[116, 104]⟩, ⟨#[116, 104, 101, 97, 100]⟩, ⟨#[116, 114]⟩] [.string ⟨#[99, 97, 112, 116, 105, 111, 110]⟩, .string ⟨#[99, 111, 108, 103, 114, 111, 117, 112]⟩, .string ⟨#[100, 100]⟩, .string ⟨#[100, 116]⟩, .string ⟨#[108, 105]⟩, .string ⟨#[111, 112, 116, 103, 114, 111, 117, 112]⟩, .string ⟨#[111, 112, 116, 105, 111, 110]⟩, .string ⟨#[112]⟩, .string ⟨#[114, 98]⟩, .string ⟨#[114, 112]⟩, .string ⟨#[114, 116]⟩, .string ⟨#[114, 116, 99]⟩, .string ⟨#[116, 98, 111, 100, 121]⟩, .string ⟨#[116, 100]⟩, .string ⟨#[116, 102, 111, 111, 116]⟩, .string ⟨#[116, 104]⟩, .string ⟨#[116, 104, 101, 97, 100]⟩, .string ⟨#[116, 114]⟩] hO rfl (fun b7 w hO => ?_)
  obtain ⟨q, d, hq, hld, hO⟩ := rstkL_open (hO.ks [.o t])
  refine CK [.b r, .p p, .b t] hO rfl (fun k' hx hr hO' => tOf_spec (ts := thor18) (sls_roK (p := (some ⟨b7, 0, none⟩)) hr (sls_fct (p := (some ⟨b7, 0, none⟩)) hO)) (by decide) s hg (hO := hO')) ?_
  rintro _ _ w ⟨rfl, rfl⟩ hO
  simp only [List.cons_append, List.nil_append] at hO
  have hO := rstkL_shut (hO.ks [.b t, .p q])
  rw [ht]
  refine K2 (K3 ?_)
  refine c_split rfl (fun hc8 => ?_) (fun hc8 => ?_)
  · refine K5 (K3 (K4 (K0 ?_)))
    have hyes : elB A (topI x.1) = true ∧ thorA A (topI x.1) = true := by simpa using hc8
    have hpos : 0 < x.1.length := by
      rcases Nat.eq_zero_or_pos x.1.length with h0 | h0
      · have := hyes.1; rw [topI_nil h0, elB_none] at this; cases this
      · exact h0
    have hs3 : dropL (thorA A) l = if thorA A (topI x.1) = true then dropL (thorA A) (x.1.take (x.1.length - 1)) else x.1 := by
      rw [hs]; conv => lhs; rw [take_top hpos]
      rw [dropL_snoc, ← take_top hpos]
    refine K1 ?_
    refine l_y rfl rfl (y_move rfl) ?_
    refine CK [.o t] hO rfl (fun k' hx hr hO' => tPop_spec (by omega) (hO := hO')) ?_
    rintro _ _ w ⟨rfl, rfl⟩ hO
    simp only [List.cons_append, List.nil_append] at hO
    refine K2 (K3 (K1 ?_))
    refine l_y rfl rfl (y_move rfl) ?_
    refine l_y rfl rfl (D4) ?_
    refine l_y rfl rfl (y_assign rfl) ?_
    refine K2 (K8 ?_)
    exact q_next ((x.1.take (x.1.length - 1), x.2 + 1)) ⟨rfl, rfl, rfl, trivial⟩ ⟨hO.only [.b r, .p p, .f, .o t], ⟨he.1.take _, by simp; omega⟩, by rw [hs3, if_pos hyes.2], by simp; omega⟩ (by simp; omega)
  · refine K7 (L1 (L1 (L2 (K3 (K0 (K1 ?_))))))
    refine l_y rfl rfl (y_move rfl) ?_
    refine l_y rfl rfl (y_assign rfl) ?_
    refine K2 (K3 (K6 ?_))
    have hfin : dropL (thorA A) l = x.1 := by
      rcases Nat.eq_zero_or_pos x.1.length with h0 | h0
      · rw [hs, List.eq_nil_of_length_eq_zero h0]; rfl
      · have hxe : elB A (topI x.1) = true := he.1 _ (by rw [topI_at h0]; exact at_mem (by omega))
        rw [hxe, Bool.true_and] at hc8
        rw [hs]; conv => lhs; rw [take_top h0]
        rw [dropL_snoc, if_neg (by rw [hc8]; simp), ← take_top h0]
    rw [hfin, ← hz]
    exact fin1 rfl rfl ⟨_, ⟨rfl, rfl⟩, ((rarL_shut hF (hO.ks [.b r, .p p, .f])).ks [.o r, .o t]).two⟩
end
end Go.Proofs.Ytbhicbpfdbnpfaa
