/- The walks of the answer's arena beside the program's: what is told, Link; no condition. -/
import Derived.Test.YthkmnohghpdjhaaSim1
set_option linter.unusedVariables false
set_option linter.unusedSimpArgs false
set_option maxRecDepth 100000
namespace Go.Proofs.Ythkmnohghpdjhaa
open Go Go.Hb Go.RowKit
theorem Sim.atB {A : List Node_one} {K : Int → List Int} {R : List Ref01_one} (s : Sim A K R) {x : Int} (h : hasB A x = true) : Sim1 (at_ A x.toNat) (K x) (at_ R x.toNat) := s.one x (inA_iff.1 h)
theorem IsA_spec {k : Ctx} {w : World} {r : Nat} {A : List Node_one} {K : Int → List Int} {R : List Ref01_one} {p : Option Addr} {c : Nat} {id : Int} (s : Sim A K R) (hO : Own k w [rB r p R.length c, rS p c R]) :
    Tri Try.prog 49 #[.pointer (some ⟨r, 0, none⟩), .int .i64 id] k w fun v m => v = .bool (hasB A id) ∧ m = [rB r p R.length c, rS p c R] := by
  rw [← s.has]; exact Is_spec hO
theorem rParent_spec {k : Ctx} {w : World} {r : Nat} {A : List Node_one} {K : Int → List Int} {R : List Ref01_one} {p : Option Addr} {c : Nat} {id : Int} (s : Sim A K R) (hg : Gs p R.length) (hid : hasB A id = true) (hO : Own k w [rB r p R.length c, rS p c R]) :
    Tri Try.prog 78 #[.pointer (some ⟨r, 0, none⟩), .int .i64 id] k w fun v m => v = .bool (parentB (at_ A id.toNat).Node.Kind) ∧ m = [rB r p R.length c, rS p c R] := by
  refine enter (args := [.pointer (some ⟨r, 0, none⟩), .int .i64 id]) Try.func78 rfl rfl ?_
  have hi := hasB_true hid
  have hl := s.len
  have hk := (s.atB hid).kind
  refine K0 (K1 ?_)
  refine l_y rfl rfl (y_assign rfl) ?_
  refine K2 (K3 (K0 (K1 ?_)))
  refine l_y rfl rfl (y_move rfl) ?_
  refine l_y rfl rfl (y_nilCheck rfl rfl) ?_
  refine l_y rfl rfl (y_fldb (o' := 0) rfl) ?_
  refine l_y rfl rfl (D5 hO rfl) ?_
  refine l_y rfl rfl (y_move rfl) ?_
  refine l_y rfl rfl (y_idx rfl rfl) ?_
  refine l_y rfl rfl (y_fld (j' := 0) rfl) ?_
  refine l_y rfl rfl (y_e1 (x0 := 0) hO rfl) ?_
  refine l_y rfl rfl (y_assign rfl) ?_
  refine K2 (K3 (K0 (K1 ?_)))
  refine l_y rfl rfl (y_move rfl) ?_
  refine Z0 (fun h2_1 => ?_) (fun h2_1 => ?_)
  · refine l_y rfl rfl (y_move rfl) ?_
    repeat refine M2 ?_
    refine l_y rfl rfl (y_pick_t rfl rfl) ?_
    refine l_y rfl rfl (y_move rfl) ?_
    repeat refine M2 ?_
    refine l_y rfl rfl (y_pick_t rfl rfl) ?_
    refine l_y rfl rfl (y_assign rfl) ?_
    refine K2 (K3 (K6 ?_))
    rw [hk] at *
    exact fin1 rfl rfl ⟨_, ⟨by simp [parentB, *], rfl⟩, hO⟩
  · refine l_y rfl rfl (y_move rfl) ?_
    refine l_y rfl rfl (y_move rfl) ?_
    refine Z0 (fun h2_4 => ?_) (fun h2_4 => ?_)
    · refine l_y rfl rfl (y_pick_f rfl rfl) ?_
      refine l_y rfl rfl (y_move rfl) ?_
      repeat refine M2 ?_
      refine l_y rfl rfl (y_pick_t rfl rfl) ?_
      refine l_y rfl rfl (y_assign rfl) ?_
      refine K2 (K3 (K6 ?_))
      rw [hk] at *
      exact fin1 rfl rfl ⟨_, ⟨by simp [parentB, *], rfl⟩, hO⟩
    · refine l_y rfl rfl (y_pick_f rfl rfl) ?_
      refine l_y rfl rfl (y_move rfl) ?_
      refine l_y rfl rfl (y_move rfl) ?_
      refine Z0 (fun h2_8 => ?_) (fun h2_8 => ?_)
      · refine l_y rfl rfl (y_pick_f rfl rfl) ?_
        refine l_y rfl rfl (y_assign rfl) ?_
        refine K2 (K3 (K6 ?_))
        rw [hk] at *
        exact fin1 rfl rfl ⟨_, ⟨by simp [parentB, *], rfl⟩, hO⟩
      · refine l_y rfl rfl (y_pick_f rfl rfl) ?_
        refine l_y rfl rfl (y_assign rfl) ?_
        refine K2 (K3 (K6 ?_))
        rw [hk] at *
        exact fin1 rfl rfl ⟨_, ⟨by simp [parentB, *], rfl⟩, hO⟩
set_option maxHeartbeats 1000000 in
theorem rAbove_spec {k : Ctx} {w : World} {r : Nat} {A : List Node_one} {K : Int → List Int} {R : List Ref01_one} {p : Option Addr} {c : Nat} {id other : Int} (s : Sim A K R) (hg : Gs p R.length) (hrk : Ranked A) (hO : Own k w [rB r p R.length c, rS p c R]) :
    Tri Try.prog 79 #[.pointer (some ⟨r, 0, none⟩), .int .i64 id, .int .i64 other] k w fun v m => v = .bool (aboveB A id other) ∧ m = [rB r p R.length c, rS p c R] := by
  refine enter (args := [.pointer (some ⟨r, 0, none⟩), .int .i64 id, .int .i64 other]) Try.func79 rfl rfl ?_
  obtain ⟨rk, hrk⟩ := hrk
  have hl := s.len
  refine K0 (K1 ?_)
  refine l_y rfl rfl (y_assign rfl) ?_
  refine K2 (K3 (K0 (K0 (K1 ?_))))
  refine l_y rfl rfl (y_move rfl) ?_
  refine l_y rfl rfl (y_move rfl) ?_
  refine CK [.b r, .p p] hO rfl (fun k' hx hr hO' => IsA_spec s (hO := hO')) ?_
  rintro _ _ w ⟨rfl, rfl⟩ hO
  simp only [List.cons_append, List.nil_append] at hO
  refine l_y rfl rfl (y_not rfl rfl) ?_
  refine l_y rfl rfl (y_move rfl) ?_
  refine l_split 12 rfl (fun hg12 => ?_) (fun hg12 => ?_)
  · simp only [Bool.not_eq_true', Bool.not_eq_false'] at hg12
    repeat refine M2 ?_
    refine l_y rfl rfl (y_pick_t rfl rfl) ?_
    refine K2 (K3 (L8 (K0 (K1 ?_))))
    refine l_y rfl rfl (y_assign rfl) ?_
    refine K2 (K3 (K6 (K9 ?_)))
    first
    | exact fin1 rfl rfl ⟨_, ⟨by rw [aboveB, hg12]; rfl, rfl⟩, hO⟩
    | exact fin1 rfl rfl ⟨_, ⟨by rw [aboveB, hc17, Bool.and_false]; rfl, rfl⟩, hO⟩
  · simp only [Bool.not_eq_true', Bool.not_eq_false'] at hg12
    refine l_y rfl rfl (y_move rfl) ?_
    refine l_y rfl rfl (y_move rfl) ?_
    refine CK [.b r, .p p] hO rfl (fun k' hx hr hO' => IsA_spec s (hO := hO')) ?_
    rintro _ _ w ⟨rfl, rfl⟩ hO
    simp only [List.cons_append, List.nil_append] at hO
    refine l_y rfl rfl (y_not rfl rfl) ?_
    refine l_y rfl rfl (y_pick_f rfl rfl) ?_
    refine K2 (K3 ?_)
    refine c_split rfl (fun hc17 => ?_) (fun hc17 => ?_)
    · simp only [Bool.not_eq_true', Bool.not_eq_false'] at hc17
      refine K0 (K1 ?_)
      refine l_y rfl rfl (y_assign rfl) ?_
      refine K2 (K3 (K6 (K9 ?_)))
      first
      | exact fin1 rfl rfl ⟨_, ⟨by rw [aboveB, hg12]; rfl, rfl⟩, hO⟩
      | exact fin1 rfl rfl ⟨_, ⟨by rw [aboveB, hc17, Bool.and_false]; rfl, rfl⟩, hO⟩
    · simp only [Bool.not_eq_true', Bool.not_eq_false'] at hc17
      refine K5 (K3 (K0 (K4 ?_)))
      refine c_rounds (X := Int) (fun x => [(0, .pointer (some ⟨r, 0, none⟩)), (1, .int .i64 x), (2, .int .i64 other), (6, .bool false)]) (fun x w => Own k w [rB r p R.length c, rS p c R] ∧ ((x = -1 ∨ hasB A x = true)) ∧ ((Anc A id other ↔ Anc A x other))) (fun x => if x = -1 then 0 else rk x + 1) (id) ⟨rfl, rfl, rfl, rfl, trivial⟩ ⟨hO.only [.b r, .p p], .inr hg12, Iff.rfl⟩ ?_
      rintro x w m hm ⟨hO, hx, he⟩
      refine K0 (K0 (K1 ?_))
      refine l_y rfl rfl (y_move rfl) ?_
      refine Z1 (fun h3_1 => ?_) (fun h3_1 => ?_)
      · refine K2 (K3 (L8 (K5 (K3 (K4 (K0 (K0 ?_)))))))
        have hb := hx.resolve_left h3_1
        have hb2 := hasB_true hb
        have hup := (s.atB hb).up
        have hho := (s.atB hb).host
        refine K1 ?_
        refine l_y rfl rfl (y_move rfl) ?_
        refine l_y rfl rfl (y_move rfl) ?_
        refine Z0 (fun h4_2 => ?_) (fun h4_2 => ?_)
        · refine K2 (K3 (L8 (K0 (K1 ?_))))
          refine l_y rfl rfl (y_assign rfl) ?_
          refine K2 (K3 (K6 (K9 (L0 (K9 (L0 (K9 ?_)))))))
          have hid : hasB A id = true := hg12
          have hot : hasB A other = true := hc17
          have e : x = other := by omega
          subst e
          exact fin1 rfl rfl ⟨_, ⟨by simp [aboveB, hid, hot, ancB_of (he.2 (.refl _))], rfl⟩, hO⟩
        · refine K2 (K3 (L9 (K5 (K3 (K0 (K1 ?_))))))
          refine l_y rfl rfl (y_move rfl) ?_
          refine l_y rfl rfl (y_nilCheck rfl rfl) ?_
          refine l_y rfl rfl (y_fldb (o' := 0) rfl) ?_
          refine l_y rfl rfl (D5 hO rfl) ?_
          refine l_y rfl rfl (y_move rfl) ?_
          refine l_y rfl rfl (y_idx rfl rfl) ?_
          refine l_y rfl rfl (y_fld (j' := 8) rfl) ?_
          refine l_y rfl rfl (y_e1 (x0 := 8) hO rfl) ?_
          refine l_y rfl rfl (y_assign rfl) ?_
          refine K2 (K3 (K0 (K0 (K1 ?_))))
          refine l_y rfl rfl (y_move rfl) ?_
          refine Z0 (fun h7_1 => ?_) (fun h7_1 => ?_)
          · refine K2 (K3 (L8 (K1 ?_)))
            refine l_y rfl rfl (y_move rfl) ?_
            refine l_y rfl rfl (y_nilCheck rfl rfl) ?_
            refine l_y rfl rfl (y_fldb (o' := 0) rfl) ?_
            refine l_y rfl rfl (D5 hO rfl) ?_
            refine l_y rfl rfl (y_move rfl) ?_
            refine l_y rfl rfl (y_idx rfl rfl) ?_
            refine l_y rfl rfl (y_fld (j' := 7) rfl) ?_
            refine l_y rfl rfl (y_e1 (x0 := 7) hO rfl) ?_
            refine l_y rfl rfl (y_assign rfl) ?_
            refine K2 (K3 (K1 ?_))
            refine l_y rfl rfl (y_move rfl) ?_
            refine l_y rfl rfl (y_assign rfl) ?_
            refine K2 (K8 ?_)
            have hnx : nextUp A x = (at_ R (x : Int).toNat).Host := by simp only [nextUp, ← hup, ← hho]; first | rw [if_pos h7_1] | rw [if_neg h7_1]
            have hrx := hrk x (hx.resolve_left h3_1)
            have hlt : (if nextUp A x = -1 then 0 else rk (nextUp A x) + 1) < rk x + 1 := by
              split
              · omega
              · rename_i h; have := (hrx.resolve_left h).2; omega
            exact q_next ((at_ R (x : Int).toNat).Host) ⟨rfl, rfl, rfl, rfl, trivial⟩ ⟨hO.only [.b r, .p p], by rw [← hnx]; exact hrx.imp (fun h => h) And.left, by rw [he, anc_ne h4_2 h3_1, hnx]⟩ (by rw [← hm, if_neg h3_1, ← hnx]; exact hlt)
          · refine K2 (K3 (L9 (K5 (K3 (K1 ?_)))))
            refine l_y rfl rfl (y_move rfl) ?_
            refine l_y rfl rfl (y_assign rfl) ?_
            refine K2 (K8 ?_)
            have hnx : nextUp A x = (at_ R (x : Int).toNat).Up := by simp only [nextUp, ← hup, ← hho]; first | rw [if_pos h7_1] | rw [if_neg h7_1]
            have hrx := hrk x (hx.resolve_left h3_1)
            have hlt : (if nextUp A x = -1 then 0 else rk (nextUp A x) + 1) < rk x + 1 := by
              split
              · omega
              · rename_i h; have := (hrx.resolve_left h).2; omega
            exact q_next ((at_ R (x : Int).toNat).Up) ⟨rfl, rfl, rfl, rfl, trivial⟩ ⟨hO.only [.b r, .p p], by rw [← hnx]; exact hrx.imp (fun h => h) And.left, by rw [he, anc_ne h4_2 h3_1, hnx]⟩ (by rw [← hm, if_neg h3_1, ← hnx]; exact hlt)
      · refine K2 (K3 (L9 (K7 (L1 (L1 (L2 (K3 (K0 (K1 ?_)))))))))
        refine l_y rfl rfl (y_assign rfl) ?_
        refine K2 (K3 (K6 ?_))
        have hot2 := hasB_true hc17
        have e : x = -1 := by omega
        subst e
        exact fin1 rfl rfl ⟨_, ⟨by simp [aboveB, ancB_not (fun h => absurd (anc_none (he.1 h)) (by omega))], rfl⟩, hO⟩
theorem lift2r {f : FuncId} {args : Array Value} {Q : Value → Prop} {k : Ctx} {w : World} {r : Nat} {R : List Ref01_one} (hO : Own k w [rarL r R])
    (h : ∀ k' p c, Gs p R.length → Own k' w [rB r p R.length c, rS p c R] → Tri Try.prog f args k' w fun v m => Q v ∧ m = [rB r p R.length c, rS p c R]) :
    Tri Try.prog f args k w fun v m => Q v ∧ m = [rarL r R] := by
  obtain ⟨p, c, F, hg, hF, hO⟩ := rarL_open hO
  refine Ret.mono (Ret.framed hO (.cons (.hd _ _) (.cons (.hd _ _) (.nil _))) fun k' _ _ hO' => h k' p c hg hO') ?_
  rintro v w' ⟨m, ⟨hv, rfl⟩, hO⟩
  exact ⟨_, ⟨hv, rfl⟩, (rarL_shut hF (hO.ks [.b r, .p p, .f])).one⟩
theorem rAboveC_spec {k : Ctx} {w : World} {r : Nat} {A : List Node_one} {K : Int → List Int} {R : List Ref01_one} {id other : Int} (s : Sim A K R) (hrk : Ranked A) (hO : Own k w [rarL r R]) :
    Tri Try.prog 79 #[.pointer (some ⟨r, 0, none⟩), .int .i64 id, .int .i64 other] k w fun v m => v = .bool (aboveB A id other) ∧ m = [rarL r R] := lift2r hO fun k' p c hg hO => rAbove_spec s hg hrk hO
end Go.Proofs.Ythkmnohghpdjhaa
