/- The walk of the law NodePlays, where no text of the script is too long. -/
import Derived.Test.YtnolpajggmfpdaaSame
set_option linter.unusedVariables false
set_option linter.unusedSimpArgs false
set_option maxRecDepth 100000
namespace Go.Proofs.Ytnolpajggmfpdaa
open Go Go.Hb Go.RowKit
set_option maxHeartbeats 1000000 in
theorem NodePlays_spec {k : Ctx} {w : World} {sp : Option Addr} {sc : Nat} {l : List Law01_op} (hs : Scr k sp sc l) (hO : Own k w []) :
    Tri Try.prog 8 #[.slice sp l.length sc] k w fun v m => v = .bool true := by
  refine enter (args := [.slice sp l.length sc]) Try.func8 rfl rfl ?_
  have hsl := hs.sli
  have hgs := sli_gs hsl
  have hll := hs.len
  refine K0 (K1 ?_)
  refine l_y rfl rfl (y_assign rfl) ?_
  refine K2 (K3 (K0 (K1 ?_)))
  refine CK [] hO rfl (fun k' hx hr hO' => New_spec (hO := hO')) ?_
  rintro _ _ w ⟨a6, rfl, rfl⟩ hO
  simp only [List.cons_append, List.nil_append] at hO
  refine l_y rfl rfl (y_assign rfl) ?_
  refine K2 (K3 (K0 (K0 (K1 ?_))))
  refine l_y rfl rfl (y_move rfl) ?_
  refine l_y rfl rfl (y_eqPnil rfl rfl rfl) ?_
  refine K2 (K3 (L9 (K5 (K3 (K0 (K1 ?_))))))
  refine CK [] hO rfl (fun k' hx hr hO' => rNew_spec (hO := hO')) ?_
  rintro _ _ w ⟨r9, rfl, rfl⟩ hO
  simp only [List.cons_append, List.nil_append] at hO
  refine l_y rfl rfl (y_assign rfl) ?_
  refine K2 (K3 (K0 (K0 (K1 ?_))))
  refine l_y rfl rfl (y_assign rfl) ?_
  refine K2 (K3 (K4 ?_))
  refine c_rounds (X := Nat × List Node_one × (Int → List Int) × List Ref01_one) (fun x => [(0, .slice sp l.length sc), (2, .bool false), (3, .pointer (some ⟨a6, 0, none⟩)), (4, .pointer (some ⟨r9, 0, none⟩)), (5, .int .i64 (x.1 : Int))]) (fun x w => Own k w [arenaL a6 x.2.1, rarL r9 x.2.2.2] ∧ (x.1 ≤ l.length) ∧ (Two x.2.1 x.2.2.1 x.2.2.2)) (fun x => l.length - x.1) ((0, [docD], fun _ => [], [docR])) ⟨rfl, rfl, rfl, rfl, rfl, trivial⟩ ⟨hO.only [.o a6, .o r9], Nat.zero_le _, Two.new⟩ ?_
  rintro x w m hm ⟨hO, hi, t⟩
  refine K0 (K0 (K1 ?_))
  refine l_y rfl rfl (y_move rfl) ?_
  refine l_y rfl rfl (y_move rfl) ?_
  refine l_y rfl rfl (y_lenL rfl) ?_
  refine Z0 (fun h6_3 => ?_) (fun h6_3 => ?_)
  · refine K2 (K3 (L8 (K5 (K3 (K0 (K4 (K0 (K1 ?_))))))))
    refine l_y rfl rfl (y_move rfl) ?_
    refine l_y rfl rfl (y_move rfl) ?_
    refine l_y rfl rfl (y_move rfl) ?_
    refine l_y rfl rfl (y_move rfl) ?_
    refine l_y rfl rfl (y_idx rfl rfl) ?_
    refine l_y rfl rfl (y_rA (x0 := 0) (enc := Law01_op.cells) (xs := l) (cs := [.int .i64 (at_ l ((x.1 : Int) : Int).toNat).What, .int .i64 (at_ l ((x.1 : Int) : Int).toNat).A, .int .i64 (at_ l ((x.1 : Int) : Int).toNat).B, .int .i64 (at_ l ((x.1 : Int) : Int).toNat).C, .int .i64 (at_ l ((x.1 : Int) : Int).toNat).N, .string (at_ l ((x.1 : Int) : Int).toNat).Text, .string (at_ l ((x.1 : Int) : Int).toNat).More, .int .i64 (at_ l ((x.1 : Int) : Int).toNat).X.Space, .string (at_ l ((x.1 : Int) : Int).toNat).X.Prefix, .string (at_ l ((x.1 : Int) : Int).toNat).X.Name, .string (at_ l ((x.1 : Int) : Int).toNat).X.Value, .slice (at_ l ((x.1 : Int) : Int).toNat).LP (at_ l ((x.1 : Int) : Int).toNat).L.length (at_ l ((x.1 : Int) : Int).toNat).LC]) hO rfl) ?_
    refine CK [.o a6, .o r9] hO rfl (fun k' hx hr hO' => play_spec (o := at_ l x.1) t ((hs.one _ (at_mem (by omega))).1.ext hO hx) (hs.one _ (at_mem (by omega))).2 (hO := hO')) ?_
    rintro _ _ w ⟨b9, rfl, hb9, A9, Kz, R9, t9, rfl⟩ hO
    simp only [List.cons_append, List.nil_append] at hO
    obtain rfl : b9 = true := hb9 (.inr (hs.text _ (at_mem (by omega))))
    refine l_y rfl rfl (y_not rfl rfl) ?_
    refine l_y rfl rfl (y_move rfl) ?_
    refine l_y rfl rfl (y_move rfl) ?_
    refine Z0 (fun h8_10 => ?_) (fun h8_10 => ?_)
    · refine l_y rfl rfl (y_move rfl) ?_
      refine l_y rfl rfl (y_move rfl) ?_
      refine l_y rfl rfl (y_move rfl) ?_
      refine CK [.o a6, .o r9] hO rfl (fun k' hx hr hO' => same_spec t9 (hO := hO')) ?_
      rintro _ _ w ⟨rfl, rfl⟩ hO
      simp only [List.cons_append, List.nil_append] at hO
      refine l_y rfl rfl (y_not rfl rfl) ?_
      refine l_y rfl rfl (y_pick_t rfl rfl) ?_
      refine l_y rfl rfl (y_pick_f rfl rfl) ?_
      refine K2 (K3 (L9 (K5 (K8 (K3 (K1 ?_))))))
      refine l_y rfl rfl (y_move rfl) ?_
      refine l_y rfl rfl (D4) ?_
      refine l_y rfl rfl (y_assign rfl) ?_
      refine K2 ?_
      exact q_next ((x.1 + 1, A9, Kz, R9)) ⟨rfl, rfl, rfl, rfl, rfl, trivial⟩ ⟨hO.only [.o a6, .o r9], by dsimp only; omega, t9⟩ (by dsimp only; omega)
    · refine l_y rfl rfl (y_move rfl) ?_
      repeat refine M2 ?_
      refine l_y rfl rfl (y_pick_f rfl rfl) ?_
      refine l_y rfl rfl (y_pick_f rfl rfl) ?_
      refine K2 (K3 (L9 (K5 (K8 (K3 (K1 ?_))))))
      refine l_y rfl rfl (y_move rfl) ?_
      refine l_y rfl rfl (D4) ?_
      refine l_y rfl rfl (y_assign rfl) ?_
      refine K2 ?_
      exact q_next ((x.1 + 1, A9, Kz, R9)) ⟨rfl, rfl, rfl, rfl, rfl, trivial⟩ ⟨hO.only [.o a6, .o r9], by dsimp only; omega, t9⟩ (by dsimp only; omega)
  · refine K2 (K3 (L9 (K7 (L1 (L1 (L2 (K3 (K0 (K1 ?_)))))))))
    refine l_y rfl rfl (y_move rfl) ?_
    refine l_y rfl rfl (y_move rfl) ?_
    refine CK [.o a6, .o r9] hO rfl (fun k' hx hr hO' => same_spec t (hO := hO')) ?_
    rintro _ _ w ⟨rfl, rfl⟩ hO
    simp only [List.cons_append, List.nil_append] at hO
    refine l_y rfl rfl (y_assign rfl) ?_
    refine K2 (K3 (K6 ?_))
    exact fin1 rfl rfl ⟨_, rfl, hO⟩
end Go.Proofs.Ytnolpajggmfpdaa
