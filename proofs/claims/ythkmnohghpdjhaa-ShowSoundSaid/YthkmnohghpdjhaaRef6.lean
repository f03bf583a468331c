/- The walks of the answer's arena beside the program's: Unlink, SetData; no condition. -/
import Derived.Test.YthkmnohghpdjhaaRef5
set_option linter.unusedVariables false
set_option linter.unusedSimpArgs false
set_option maxRecDepth 100000
namespace Go.Proofs.Ythkmnohghpdjhaa
open Go Go.Hb Go.RowKit
theorem Sim.unlink' {A : List Node_one} {K : Int → List Int} {R : List Ref01_one} (t : Tree A K) (s : Sim A K R) {id : Int} (h0 : (unlinkL A id).1 = 0) {p : Option Addr} {c : Nat} {l : List Int} (hl : l = (at_ R ((at_ A id.toNat).Node.Parent).toNat).Kids.filter (fun y => y ≠ id)) :
    Sim (unlinkL A id).2 (unlinkK K (at_ A id.toNat).Node.Parent id) (setUpR (setKidsR R (at_ A id.toNat).Node.Parent p l c) id (-1)) := by rw [hl]; exact Sim.unlink t s h0 p c
set_option maxHeartbeats 4000000 in
theorem rUnlink_spec {k : Ctx} {w : World} {r : Nat} {A : List Node_one} {K : Int → List Int} {R : List Ref01_one} {id : Int} (t : Tree A K) (s : Sim A K R) (hlen : A.length ≤ 32768) (hO : Own k w [rarL r R]) :
    Tri Try.prog 63 #[.pointer (some ⟨r, 0, none⟩), .int .i64 id] k w fun v m => v = .int .i64 (unlinkL A id).1 ∧ ∃ R', m = [rarL r R'] ∧ Sim (unlinkL A id).2 (unlinkKs A K id) R' := by
  refine enter (args := [.pointer (some ⟨r, 0, none⟩), .int .i64 id]) Try.func63 rfl rfl ?_
  obtain ⟨p, c, F, hg, hF, hO⟩ := rarL_open hO
  have hl := s.len
  have kerr : (unlinkL A id).1 ≠ 0 → Sim (unlinkL A id).2 (unlinkKs A K id) R := fun h => by rw [unlinkL_err h, unlinkKs, if_neg h]; exact s
  refine K0 (K1 ?_)
  refine l_y rfl rfl (y_assign rfl) ?_
  refine K2 (K3 (K0 (K0 (K1 ?_))))
  refine l_y rfl rfl (y_move rfl) ?_
  refine l_y rfl rfl (y_move rfl) ?_
  refine CK [.b r, .p p] hO rfl (fun k' hx hr hO' => IsA_spec s (hO := hO')) ?_
  rintro _ _ w ⟨rfl, rfl⟩ hO
  simp only [List.cons_append, List.nil_append] at hO
  refine l_y rfl rfl (y_not rfl rfl) ?_
  refine K2 (K3 ?_)
  refine c_split rfl (fun hc11 => ?_) (fun hc11 => ?_)
  · simp only [Bool.not_eq_true', Bool.not_eq_false'] at hc11
    refine K0 (K1 ?_)
    refine l_y rfl rfl (y_assign rfl) ?_
    refine K2 (K3 (K6 (K9 ?_)))
    have e : unlinkL A id = (6, A) := by simp [unlinkL, *]
    exact fin1 rfl rfl ⟨_, ⟨by rw [e], _, rfl, kerr (by rw [e]; simp)⟩, (rarL_shut hF (hO.ks [.b r, .p p, .f])).one⟩
  · simp only [Bool.not_eq_true', Bool.not_eq_false'] at hc11
    refine K5 (K3 (K0 ?_))
    have hid := hasB_true hc11
    have ui := (s.atB hc11).up
    refine K1 ?_
    refine l_y rfl rfl (y_move rfl) ?_
    refine l_y rfl rfl (y_nilCheck rfl rfl) ?_
    refine l_y rfl rfl (y_fldb (o' := 0) rfl) ?_
    refine l_y rfl rfl (D5 hO rfl) ?_
    refine l_y rfl rfl (y_move rfl) ?_
    refine l_y rfl rfl (y_idx rfl rfl) ?_
    refine l_y rfl rfl (y_fld (j' := 8) rfl) ?_
    refine l_y rfl rfl (y_e1 (x0 := 8) hO rfl) ?_
    refine l_y rfl rfl (y_assign rfl) ?_
    refine K2 (K3 (K0 (K0 (K1 ?_))))
    refine l_y rfl rfl (y_move rfl) ?_
    refine Z0 (fun h4_1 => ?_) (fun h4_1 => ?_)
    · refine K2 (K3 (L8 (K0 (K1 ?_))))
      refine l_y rfl rfl (y_assign rfl) ?_
      refine K2 (K3 (K6 (K9 ?_)))
      have e : unlinkL A id = (5, A) := by
        rw [ui] at h4_1
        simp [unlinkL, *]
      exact fin1 rfl rfl ⟨_, ⟨by rw [e], _, rfl, kerr (by rw [e]; simp)⟩, (rarL_shut hF (hO.ks [.b r, .p p, .f])).one⟩
    · refine K2 (K3 (L9 (K5 (K3 (K0 ?_)))))
      obtain ⟨up, hue⟩ : ∃ up, up = (at_ R id.toNat).Up := ⟨_, rfl⟩
      have hpa : (at_ A id.toNat).Node.Parent = up := by rw [hue, ui]
      have h0 : (unlinkL A id).1 = 0 := by
        rw [ui] at h4_1
        rw [unlinkL, if_neg (by rw [hc11]; simp), if_neg h4_1]
      have hupi : InA A up := by rw [← hpa]; exact (t.up id (inA_iff.1 hc11) (by rw [ui] at h4_1; exact h4_1)).1
      have hup := hupi.1
      have hup2 := hupi.2
      have hkk : (at_ R up.toNat).Kids.length ≤ 32768 := by
        have := t.len hupi
        rw [(s.one up hupi).kids]; omega
      have hkids := (hF.atR (i := up.toNat) (by omega)).kids
      have hgk := sli_gs hkids
      have hO : Own k w (sls none 0 3 1 (eI .i64) ([] : List Int) :: _) := sl_nil 3 1 hO
      rw [← hue]
      refine K1 ?_
      refine l_y rfl rfl (y_assign rfl) ?_
      refine K2 (K3 (K0 (K0 (K1 ?_))))
      refine l_y rfl rfl (y_assign rfl) ?_
      refine K2 (K3 (K4 ?_))
      refine c_rounds (X := Nat × Option Addr × Nat × List Int) (fun x => [(0, .pointer (some ⟨r, 0, none⟩)), (1, .int .i64 id), (4, .int .i64 0), (5, .int .i64 up), (6, .slice x.2.1 x.2.2.2.length x.2.2.1), (7, .int .i64 (x.1 : Int))]) (fun x w => Own k w [rB r p R.length c, rS p c R, pool F, sls x.2.1 x.2.2.1 3 1 (eI .i64) x.2.2.2] ∧ (x.1 ≤ (at_ R up.toNat).Kids.length ∧ x.2.2.2 = ((at_ R up.toNat).Kids.take x.1).filter (fun y => y ≠ id))) (fun x => (at_ R up.toNat).Kids.length - x.1) ((0, none, 0, [])) ⟨rfl, rfl, rfl, rfl, rfl, rfl, trivial⟩ ⟨hO.only [.b r, .p p, .f, .p none], ⟨Nat.zero_le _, rfl⟩⟩ ?_
      rintro x w m hm ⟨hO, hi⟩
      have hxl : x.2.2.2.length ≤ 65536 := by
        have h := List.length_filter_le (fun y => decide (y ≠ id)) ((at_ R up.toNat).Kids.take x.1)
        rw [← hi.2, List.length_take] at h
        omega
      refine K0 (K0 (K1 ?_))
      refine l_y rfl rfl (y_move rfl) ?_
      refine l_y rfl rfl (y_move rfl) ?_
      refine l_y rfl rfl (y_nilCheck rfl rfl) ?_
      refine l_y rfl rfl (y_fldb (o' := 0) rfl) ?_
      refine l_y rfl rfl (D5 hO rfl) ?_
      refine l_y rfl rfl (y_move rfl) ?_
      refine l_y rfl rfl (y_idx rfl rfl) ?_
      refine l_y rfl rfl (y_fld (j' := 9) rfl) ?_
      refine l_y rfl rfl (y_e1 (x0 := 9) hO rfl) ?_
      refine l_y rfl rfl (y_lenL rfl) ?_
      refine Z0 (fun h8_10 => ?_) (fun h8_10 => ?_)
      · refine K2 (K3 (L8 (K5 (K3 (K0 (K4 (K0 (K1 ?_))))))))
        refine l_y rfl rfl (y_move rfl) ?_
        refine l_y rfl rfl (y_nilCheck rfl rfl) ?_
        refine l_y rfl rfl (y_fldb (o' := 0) rfl) ?_
        refine l_y rfl rfl (D5 hO rfl) ?_
        refine l_y rfl rfl (y_move rfl) ?_
        refine l_y rfl rfl (y_idx rfl rfl) ?_
        refine l_y rfl rfl (y_fld (j' := 9) rfl) ?_
        refine l_y rfl rfl (y_e1 (x0 := 9) hO rfl) ?_
        refine l_y rfl rfl (y_move rfl) ?_
        refine l_y rfl rfl (y_idx rfl rfl) ?_
        refine l_y rfl rfl (y_p1 (x0 := 0) (enc := (eI .i64)) (xs := (at_ R up.toNat).Kids) hO rfl) ?_
        refine l_y rfl rfl (y_move rfl) ?_
        refine Z1 (fun h10_12 => ?_) (fun h10_12 => ?_)
        · refine K2 (K3 (L8 (K1 ?_)))
          refine l_y rfl rfl (y_move rfl) ?_
          refine l_y rfl rfl (y_move rfl) ?_
          refine l_y rfl rfl (y_nilCheck rfl rfl) ?_
          refine l_y rfl rfl (y_fldb (o' := 0) rfl) ?_
          refine l_y rfl rfl (D5 hO rfl) ?_
          refine l_y rfl rfl (y_move rfl) ?_
          refine l_y rfl rfl (y_idx rfl rfl) ?_
          refine l_y rfl rfl (y_fld (j' := 9) rfl) ?_
          refine l_y rfl rfl (y_e1 (x0 := 9) hO rfl) ?_
          refine l_y rfl rfl (y_move rfl) ?_
          refine l_y rfl rfl (y_idx rfl rfl) ?_
          refine l_y rfl rfl (y_p1 (x0 := 0) (enc := (eI .i64)) (xs := (at_ R up.toNat).Kids) hO rfl) ?_
          refine s_lit (parts := [(0, .tmp 59)]) (enc := (eI .i64)) [(at_ (at_ R up.toNat).Kids ((x.1 : Int) : Int).toNat)] [.int .i64 (at_ (at_ R up.toNat).Kids ((x.1 : Int) : Int).toNat)] hO rfl (fun b60 w hO => ?_)
          refine s_app hO rfl rfl (src_own hO) (fun p61 c61 w hO gs61 => ?_)
          refine l_y rfl rfl (y_assign rfl) ?_
          refine K2 (K8 (K3 (K1 ?_)))
          refine l_y rfl rfl (y_move rfl) ?_
          refine l_y rfl rfl (D4) ?_
          refine l_y rfl rfl (y_assign rfl) ?_
          refine K2 ?_
          have hnl : (x.2.2.2 ++ [(at_ (at_ R up.toNat).Kids ((x.1 : Int) : Int).toNat)]) = ((at_ R up.toNat).Kids.take (x.1 + 1)).filter (fun y => y ≠ id) := by first | (rw [take_succ_at (by omega), List.filter_append, ← hi.2, List.filter_cons, if_pos (by simpa using show ¬ at_ (at_ R up.toNat).Kids x.1 = id from h10_12)]; rfl) | (rw [take_succ_at (by omega), List.filter_append, ← hi.2, List.filter_cons, if_neg (by simpa using show at_ (at_ R up.toNat).Kids x.1 = id from h10_12)]; simp)
          exact q_next ((x.1 + 1, p61, c61, (x.2.2.2 ++ [(at_ (at_ R up.toNat).Kids ((x.1 : Int) : Int).toNat)]))) ⟨rfl, rfl, rfl, rfl, rfl, rfl, trivial⟩ ⟨hO.only [.b r, .p p, .f, .p p61], ⟨by dsimp only; omega, hnl⟩⟩ (by dsimp only; omega)
        · refine K2 (K3 (L9 (K5 (K8 (K3 (K1 ?_))))))
          refine l_y rfl rfl (y_move rfl) ?_
          refine l_y rfl rfl (D4) ?_
          refine l_y rfl rfl (y_assign rfl) ?_
          refine K2 ?_
          have hnl : x.2.2.2 = ((at_ R up.toNat).Kids.take (x.1 + 1)).filter (fun y => y ≠ id) := by first | (rw [take_succ_at (by omega), List.filter_append, ← hi.2, List.filter_cons, if_pos (by simpa using show ¬ at_ (at_ R up.toNat).Kids x.1 = id from h10_12)]; rfl) | (rw [take_succ_at (by omega), List.filter_append, ← hi.2, List.filter_cons, if_neg (by simpa using show at_ (at_ R up.toNat).Kids x.1 = id from h10_12)]; simp)
          exact q_next ((x.1 + 1, x.2.1, x.2.2.1, x.2.2.2)) ⟨rfl, rfl, rfl, rfl, rfl, rfl, trivial⟩ ⟨hO.only [.b r, .p p, .f, .p x.2.1], ⟨by dsimp only; omega, hnl⟩⟩ (by dsimp only; omega)
      · refine K2 (K3 (L9 (K7 (L1 (L1 (L2 (K3 (K0 ?_))))))))
        have hrow : x.2.2.2 = (at_ R ((at_ A id.toNat).Node.Parent).toNat).Kids.filter (fun y => y ≠ id) := by rw [hpa, hi.2, List.take_of_length_le (by omega)]
        obtain ⟨F2, hle, hO, hsa⟩ := (hO.ks [.p x.2.1, .f]).pooled
        refine K1 ?_
        refine l_y rfl rfl (y_move rfl) ?_
        refine l_y rfl rfl (y_nilCheck rfl rfl) ?_
        refine l_y rfl rfl (y_fldb (o' := 0) rfl) ?_
        refine l_y rfl rfl (D5 hO rfl) ?_
        refine l_y rfl rfl (y_move rfl) ?_
        refine l_y rfl rfl (y_move rfl) ?_
        refine l_y rfl rfl (y_idx rfl rfl) ?_
        refine l_y rfl rfl (y_fld (j' := 9) rfl) ?_
        refine s_e1 (x0 := 9) hO rfl rfl (fun w hO => ?_)
        refine K2 (K3 (K0 (K1 ?_)))
        refine l_y rfl rfl (y_move rfl) ?_
        refine l_y rfl rfl (y_nilCheck rfl rfl) ?_
        refine l_y rfl rfl (y_fldb (o' := 0) rfl) ?_
        refine l_y rfl rfl (D5 hO rfl) ?_
        refine l_y rfl rfl (y_move rfl) ?_
        refine l_y rfl rfl (y_idx rfl rfl) ?_
        refine l_y rfl rfl (y_fld (j' := 8) rfl) ?_
        refine s_e1 (x0 := 8) hO rfl rfl (fun w hO => ?_)
        refine K2 (K3 (K0 (K1 ?_)))
        refine l_y rfl rfl (y_assign rfl) ?_
        refine K2 (K3 (K6 ?_))
        refine fin1 rfl rfl ⟨_, ⟨by rw [h0], _, rfl, ?_⟩, (rarL_shut ?_ (hO.ks [.b r, .p p, .f]) ?_).one⟩
        · rw [unlinkKs, if_pos h0]; rw [← hpa]; exact Sim.unlink' t s h0 hrow
        · exact RF.up (RF.kids (hF.le hle) (by omega) hsa) (by rw [setKidsR_len]; omega)
        · simp
def setDataR (R : List Ref01_one) (i : Int) (v : ByteArray) : List Ref01_one := R.set i.toNat { at_ R i.toNat with Data := v }
theorem Sim.data {A : List Node_one} {K : Int → List Int} {R : List Ref01_one} (s : Sim A K R) {id : Int} (hid : InA A id) (v : ByteArray) : Sim (setData A id v) K (setDataR R id v) := by
  refine ⟨by simp [setData, setDataR, s.len], fun y hy => ?_⟩
  have hyA : InA A y := ⟨hy.1, by have := hy.2; simpa [setData] using this⟩
  rw [setData, setDataR, at_setI hid hy.1, at_setR (s.inR hid) hy.1]
  split
  · next e =>
    subst e
    have sy := s.one y hyA
    exact ⟨sy.kind, sy.space, sy.name, sy.attrs, rfl, sy.system, sy.inner, sy.host, sy.up, sy.kids⟩
  · exact s.one y hyA
end Go.Proofs.Ythkmnohghpdjhaa
