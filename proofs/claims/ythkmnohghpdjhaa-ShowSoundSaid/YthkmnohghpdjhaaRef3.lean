/- The walks of the answer's arena: Element; no condition. -/
import Derived.Test.YthkmnohghpdjhaaRef2
set_option linter.unusedVariables false
set_option linter.unusedSimpArgs false
set_option maxRecDepth 100000
namespace Go.Proofs.Ythkmnohghpdjhaa
open Go Go.Hb Go.RowKit
def elR (q : Option Addr) (d : Nat) (sp : Int) (nm : ByteArray) (xs : List Api_attr) : Ref01_one := ⟨1, sp, nm, q, xs, d, ⟨#[]⟩, ⟨#[]⟩, 0, 0, 0, none, [], 0⟩
def setInnerR (R : List Ref01_one) (i v : Int) : List Ref01_one := R.set i.toNat { at_ R i.toNat with Inner := v }
def setHostR (R : List Ref01_one) (i v : Int) : List Ref01_one := R.set i.toNat { at_ R i.toNat with Host := v }
theorem RF.inner {F : Pl} {R : List Ref01_one} (h : RF F R) {i v : Int} (hi : i.toNat < R.length) : RF F (setInnerR R i v) := h.set ⟨(h.atR hi).attrs, (h.atR hi).kids⟩
theorem RF.host {F : Pl} {R : List Ref01_one} (h : RF F R) {i v : Int} (hi : i.toNat < R.length) : RF F (setHostR R i v) := h.set ⟨(h.atR hi).attrs, (h.atR hi).kids⟩
def elementR (R : List Ref01_one) (sp : Int) (nm : ByteArray) (xs : List Api_attr) (q : Option Addr) (d : Nat) : Int × Int × List Ref01_one :=
  if sp < 0 ∨ 2 < sp then (0, 1, R) else if 1024 < xs.length then (0, 2, R)
  else if longB (nm :: attrTexts xs) = true then (0, 2, R) else if tmpl sp nm ∧ 32767 ≤ R.length then (0, 9, R) else if 32768 ≤ R.length then (0, 9, R)
  else if tmpl sp nm then (R.length, 0, setHostR (setInnerR (R ++ [blankR (elR q d sp nm xs)] ++ [blankR fragmentR]) R.length (R ++ [blankR (elR q d sp nm xs)]).length) (R ++ [blankR (elR q d sp nm xs)]).length R.length)
  else (R.length, 0, R ++ [blankR (elR q d sp nm xs)])
theorem rFragOk_spec {k : Ctx} {w : World} {r : Nat} {R : List Ref01_one} (hc : R.length < 32768) (hO : Own k w [rarL r R]) :
    Tri Try.prog 47 #[.pointer (some ⟨r, 0, none⟩)] k w fun v m => v = .tuple #[.int .i64 ((R.length : Nat) : Int), .int .i64 0] ∧ m = [rarL r (R ++ [blankR fragmentR])] := by
  refine (rFragment_spec (by omega) hO).mono ?_
  rintro v m ⟨rfl, rfl⟩
  have e : raddR R fragmentR [] = ((R.length : Int), 0, R ++ [blankR fragmentR]) := by rw [raddR, if_neg (by simp [longB]), if_neg (by omega)]
  rw [e]; exact ⟨rfl, rfl⟩
set_option maxHeartbeats 4000000 in
theorem rElement_spec {k : Ctx} {w : World} {r : Nat} {R : List Ref01_one} {sp : Int} {nm : ByteArray} {xs : List Api_attr} {ap : Option Addr} {ac : Nat} (hc : R.length ≤ 32768) (hs : Sli (Ro k) (.slice ap xs.length ac) (xs.map Api_attr.cells)) (hO : Own k w [rarL r R]) :
    Tri Try.prog 41 #[.pointer (some ⟨r, 0, none⟩), .int .i64 sp, .string nm, .slice ap xs.length ac] k w fun v m => ∃ q d, v = .tuple #[.int .i64 (elementR R sp nm xs q d).1, .int .i64 (elementR R sp nm xs q d).2.1] ∧ m = [rarL r (elementR R sp nm xs q d).2.2] := by
  refine enter (args := [.pointer (some ⟨r, 0, none⟩), .int .i64 sp, .string nm, .slice ap xs.length ac]) Try.func41 rfl rfl ?_
  have hgs := sli_gs hs
  obtain ⟨p, c, F, hg, hF, hO⟩ := rarL_open hO
  refine K0 (K1 ?_)
  refine l_y rfl rfl (y_assign rfl) ?_
  refine l_y rfl rfl (y_assign rfl) ?_
  refine K2 (K3 (K0 (K0 (K1 ?_))))
  refine l_y rfl rfl (y_move rfl) ?_
  refine Z0 (fun h1_1 => ?_) (fun h1_1 => ?_)
  · refine l_y rfl rfl (y_move rfl) ?_
    repeat refine M2 ?_
    refine l_y rfl rfl (y_pick_t rfl rfl) ?_
    refine K2 (K3 (L8 (K0 (K1 ?_))))
    refine l_y rfl rfl (y_assign rfl) ?_
    refine l_y rfl rfl (y_assign rfl) ?_
    refine K2 (K3 (K6 (K9 ?_)))
    have e : elementR R sp nm xs none 0 = (0, 1, R) := by rw [elementR, if_pos (by omega)]
    exact fin2 rfl rfl rfl ⟨_, ⟨none, 0, by rw [e], rfl⟩, by rw [e]; exact (rarL_shut hF hO).one⟩
  · refine l_y rfl rfl (y_move rfl) ?_
    refine l_y rfl rfl (y_move rfl) ?_
    refine Z0 (fun h1_4 => ?_) (fun h1_4 => ?_)
    · refine l_y rfl rfl (y_pick_f rfl rfl) ?_
      refine K2 (K3 (L8 (K0 (K1 ?_))))
      refine l_y rfl rfl (y_assign rfl) ?_
      refine l_y rfl rfl (y_assign rfl) ?_
      refine K2 (K3 (K6 (K9 ?_)))
      have e : elementR R sp nm xs none 0 = (0, 1, R) := by rw [elementR, if_pos (by omega)]
      exact fin2 rfl rfl rfl ⟨_, ⟨none, 0, by rw [e], rfl⟩, by rw [e]; exact (rarL_shut hF hO).one⟩
    · refine l_y rfl rfl (y_pick_f rfl rfl) ?_
      refine K2 (K3 (L9 (K5 (K3 (K0 (K0 (K1 ?_)))))))
      refine l_y rfl rfl (y_move rfl) ?_
      refine l_y rfl rfl (y_lenL rfl) ?_
      refine Z0 (fun h3_2 => ?_) (fun h3_2 => ?_)
      · refine l_y rfl rfl (y_move rfl) ?_
        repeat refine M2 ?_
        refine l_y rfl rfl (y_pick_t rfl rfl) ?_
        refine K2 (K3 (L8 (K0 (K1 ?_))))
        refine l_y rfl rfl (y_assign rfl) ?_
        refine l_y rfl rfl (y_assign rfl) ?_
        refine K2 (K3 (K6 (K9 ?_)))
        have e : elementR R sp nm xs none 0 = (0, 2, R) := by
          rw [elementR, if_neg (by omega)]
          by_cases hl : 1024 < xs.length
          · rw [if_pos hl]
          · rw [if_neg hl, if_pos (by simp [longB]; left; omega)]
        exact fin2 rfl rfl rfl ⟨_, ⟨none, 0, by rw [e], rfl⟩, by rw [e]; exact (rarL_shut hF hO).one⟩
      · refine l_y rfl rfl (y_move rfl) ?_
        refine l_y rfl rfl (y_move rfl) ?_
        refine l_y rfl rfl (y_lenS rfl) ?_
        refine Z0 (fun h3_6 => ?_) (fun h3_6 => ?_)
        · refine l_y rfl rfl (y_pick_f rfl rfl) ?_
          refine K2 (K3 (L8 (K0 (K1 ?_))))
          refine l_y rfl rfl (y_assign rfl) ?_
          refine l_y rfl rfl (y_assign rfl) ?_
          refine K2 (K3 (K6 (K9 ?_)))
          have e : elementR R sp nm xs none 0 = (0, 2, R) := by
            rw [elementR, if_neg (by omega)]
            by_cases hl : 1024 < xs.length
            · rw [if_pos hl]
            · rw [if_neg hl, if_pos (by simp [longB]; left; omega)]
          exact fin2 rfl rfl rfl ⟨_, ⟨none, 0, by rw [e], rfl⟩, by rw [e]; exact (rarL_shut hF hO).one⟩
        · refine l_y rfl rfl (y_pick_f rfl rfl) ?_
          refine K2 (K3 (L9 (K5 (K3 (K0 (K0 (K1 ?_)))))))
          refine l_y rfl rfl (y_assign rfl) ?_
          refine K2 (K3 (K4 ?_))
          refine c_rounds (X := Nat) (fun i => [(0, .pointer (some ⟨r, 0, none⟩)), (1, .int .i64 sp), (2, .string nm), (3, .slice ap xs.length ac), (8, .int .i64 0), (9, .int .i64 0), (10, .int .i64 (i : Int))]) (fun i w => Own k w [rB r p R.length c, rS p c R, pool F] ∧ (i ≤ xs.length ∧ longB (attrTexts (xs.take i)) = false)) (fun i => xs.length - i) (0) ⟨rfl, rfl, rfl, rfl, rfl, rfl, rfl, trivial⟩ ⟨hO.only [.b r, .p p, .f], ⟨Nat.zero_le _, rfl⟩⟩ ?_
          rintro i w m hm ⟨hO, hi⟩
          refine K0 (K0 (K1 ?_))
          refine l_y rfl rfl (y_move rfl) ?_
          refine l_y rfl rfl (y_move rfl) ?_
          refine l_y rfl rfl (y_lenL rfl) ?_
          refine Z0 (fun h6_3 => ?_) (fun h6_3 => ?_)
          · refine K2 (K3 (L8 (K5 (K3 (K0 (K4 (K0 ?_)))))))
            refine da_region (by intro c a d v w h; cases d <;> exact h) ?_
            have hO := hO.drew
            refine da_phase _ [15] (SO.ks [] hO) ?_
            refine dx_u 0 (by kernel_rfl) rfl rfl rfl (fun w => y_move rfl) ?_
            refine dx_u 1 (by kernel_rfl) rfl rfl rfl (fun w => y_move rfl) ?_
            refine dx_u 2 (by kernel_rfl) rfl rfl rfl (fun w => y_idx rfl rfl) ?_
            refine dx_u 3 (by kernel_rfl) rfl rfl rfl (fun w => y_fld (j' := 1) rfl) ?_
            refine dx_y 4 (by kernel_rfl) rfl rfl rfl (fun w ⟨m, hw⟩ => y_r1 (x0 := 1) (enc := Api_attr.cells) (xs := xs) hw rfl) ?_
            refine dx_u 5 (by kernel_rfl) rfl rfl rfl (fun w => y_move rfl) ?_
            refine dx_u 6 (by kernel_rfl) rfl rfl rfl (fun w => y_move rfl) ?_
            refine dx_u 7 (by kernel_rfl) rfl rfl rfl (fun w => y_idx rfl rfl) ?_
            refine dx_u 8 (by kernel_rfl) rfl rfl rfl (fun w => y_fld (j' := 2) rfl) ?_
            refine dx_y 9 (by kernel_rfl) rfl rfl rfl (fun w ⟨m, hw⟩ => y_r1 (x0 := 2) (enc := Api_attr.cells) (xs := xs) hw rfl) ?_
            refine dx_u 10 (by kernel_rfl) rfl rfl rfl (fun w => y_move rfl) ?_
            refine dx_u 11 (by kernel_rfl) rfl rfl rfl (fun w => y_move rfl) ?_
            refine dx_u 12 (by kernel_rfl) rfl rfl rfl (fun w => y_idx rfl rfl) ?_
            refine dx_u 13 (by kernel_rfl) rfl rfl rfl (fun w => y_fld (j' := 3) rfl) ?_
            refine dx_y 14 (by kernel_rfl) rfl rfl rfl (fun w ⟨m, hw⟩ => y_r1 (x0 := 3) (enc := Api_attr.cells) (xs := xs) hw rfl) ?_
            refine dx_close 15 (by kernel_rfl) rfl rfl ?_
            refine s_lit (parts := [(0, .tmp 40), (1, .tmp 45), (2, .tmp 50)]) (enc := eS) [(at_ xs ((i : Int) : Int).toNat).Prefix, (at_ xs ((i : Int) : Int).toNat).Name, (at_ xs ((i : Int) : Int).toNat).Value] [.string (at_ xs ((i : Int) : Int).toNat).Prefix, .string (at_ xs ((i : Int) : Int).toNat).Name, .string (at_ xs ((i : Int) : Int).toNat).Value] hO rfl (fun b51 w hO => ?_)
            refine o_done ?_
            refine da_only 16 (by kernel_rfl) rfl ?_
            refine CK [] hO rfl (fun k' hx hr hO' => rlong_spec (ts := [(at_ xs i).Prefix, (at_ xs i).Name, (at_ xs i).Value]) (sls_roK (p := some ⟨b51, 0, none⟩) hr (sls_fct hO)) (by simp) (hO := hO')) ?_
            rintro _ _ w ⟨rfl, rfl⟩ hO
            simp only [List.nil_append] at hO
            refine o_done ?_
            refine da_end (by kernel_rfl) ?_
            refine K3 ?_
            refine c_split rfl (fun hc52 => ?_) (fun hc52 => ?_)
            · refine K0 (K1 ?_)
              refine l_y rfl rfl (y_assign rfl) ?_
              refine l_y rfl rfl (y_assign rfl) ?_
              refine K2 (K3 (K6 (L0 (K9 (K9 (L0 (K9 ?_)))))))
              have hlt : longB (nm :: attrTexts xs) = true := by
                obtain ⟨s, hs1, hs2⟩ := List.any_eq_true.1 hc52
                refine List.any_eq_true.2 ⟨s, List.mem_cons_of_mem _ (List.mem_flatMap.2 ⟨at_ xs i, at_mem (by omega), hs1⟩), hs2⟩
              have e : elementR R sp nm xs none 0 = (0, 2, R) := by rw [elementR, if_neg (by omega), if_neg (by omega), if_pos hlt]
              exact fin2 rfl rfl rfl ⟨_, ⟨none, 0, by rw [e], rfl⟩, by rw [e]; exact (rarL_shut hF (hO.ks [.b r, .p p, .f])).one⟩
            · refine K5 (K8 (K3 (K1 ?_)))
              refine l_y rfl rfl (y_move rfl) ?_
              refine l_y rfl rfl (D4) ?_
              refine l_y rfl rfl (y_assign rfl) ?_
              refine K2 ?_
              exact q_next (i + 1) ⟨rfl, rfl, rfl, rfl, rfl, rfl, rfl, trivial⟩ ⟨hO.only [.b r, .p p, .f], ⟨by omega, by rw [take_succ_at (by omega)]; simp only [attrTexts, List.flatMap_append, List.flatMap_cons, List.flatMap_nil, List.append_nil, longB, List.any_append, Bool.or_eq_false_iff] at hi hc52 ⊢; exact ⟨hi.2, hc52⟩⟩⟩ (by omega)
          · refine K2 (K3 (L9 (K7 (L1 (L1 (L2 (K3 (K0 ?_))))))))
            have hlf : ¬ longB (nm :: attrTexts xs) = true := by
              have h := hi.2
              rw [show xs.take i = xs by rw [List.take_of_length_le (by omega)]] at h
              simp only [longB, List.any_cons, Bool.or_eq_true, not_or] at h ⊢
              refine ⟨?_, by rw [h]; simp⟩
              simp; omega
            refine K1 ?_
            refine l_y rfl rfl (y_move rfl) ?_
            refine Z0 (fun h10_1 => ?_) (fun h10_1 => ?_)
            · refine l_y rfl rfl (y_move rfl) ?_
              refine l_y rfl rfl (y_move rfl) ?_
              refine Z2 (fun h10_4 => ?_) (fun h10_4 => ?_)
              · refine l_y rfl rfl (y_pick_t rfl rfl) ?_
                refine l_y rfl rfl (y_assign rfl) ?_
                refine K2 (K3 (K0 (K0 (K1 ?_))))
                refine l_y rfl rfl (y_move rfl) ?_
                refine l_y rfl rfl (y_move rfl) ?_
                refine l_y rfl rfl (y_move rfl) ?_
                refine l_y rfl rfl (y_nilCheck rfl rfl) ?_
                refine l_y rfl rfl (y_fldb (o' := 0) rfl) ?_
                refine l_y rfl rfl (D5 hO rfl) ?_
                refine l_y rfl rfl (y_lenL rfl) ?_
                refine l_y rfl rfl (D4) ?_
                refine Z0 (fun h11_8 => ?_) (fun h11_8 => ?_)
                · refine l_y rfl rfl (y_pick_t rfl rfl) ?_
                  refine K2 (K3 (L8 (K0 (K1 ?_))))
                  refine l_y rfl rfl (y_assign rfl) ?_
                  refine l_y rfl rfl (y_assign rfl) ?_
                  refine K2 (K3 (K6 (K9 ?_)))
                  have e : elementR R sp nm xs none 0 = (0, 9, R) := by rw [elementR, if_neg (by omega), if_neg (by omega), if_neg hlf, if_pos ⟨⟨h10_1, h10_4⟩, by omega⟩]
                  exact fin2 rfl rfl rfl ⟨_, ⟨none, 0, by rw [e], rfl⟩, by rw [e]; exact (rarL_shut hF (hO.ks [.b r, .p p, .f])).one⟩
                · refine l_y rfl rfl (y_pick_t rfl rfl) ?_
                  refine K2 (K3 (L9 (K5 (K3 (K0 (K1 ?_))))))
                  refine l_y rfl rfl (y_move rfl) ?_
                  refine l_y rfl rfl (y_move rfl) ?_
                  refine l_y rfl rfl (y_move rfl) ?_
                  refine s_lit0 Api_attr.cells hO (fun b73 w hO => ?_)
                  refine l_y rfl rfl (y_move rfl) ?_
                  refine s_app0 hO rfl rfl (src_ro hO (by assumption)) (fun p75 c75 w hO gs75 => ?_)
                  refine s_build (parts := [(0, .const (.int .i64 1)), (1, .tmp 71), (2, .tmp 72), (3, .tmp 75)]) (cs := [.int .i64 1, .int .i64 sp, .string nm, .slice p75 xs.length c75, .string ⟨#[]⟩, .string ⟨#[]⟩, .int .i64 0, .int .i64 0, .int .i64 0, .slice none 0 0]) rfl rfl (fun a ha => partsOf_sound ha _ _ rfl) (by kernel_rfl) ?_
                  obtain ⟨F2, hle, hO, hsa⟩ := (hO.ks [.p p75, .f]).pooled
                  have hF2 := hF.le hle
                  have hRF : RF1 F2 (blankR (elR p75 c75 sp nm xs)) := ⟨hsa, Sli.nil rfl⟩
                  refine CK [.b r, .p p] hO rfl (fun k' hx hr hO' => radd_spec (o := elR p75 c75 sp nm xs) hc (hO := hO')) ?_
                  rintro _ _ w (⟨h9, rfl, rfl⟩ | ⟨h9, rfl, p2, c2, rfl⟩) hO
                  · simp only [List.cons_append, List.nil_append] at hO
                    refine l_y rfl rfl (y_move rfl) ?_
                    refine l_y rfl rfl (y_extract rfl rfl) ?_
                    refine l_y rfl rfl (y_extract rfl rfl) ?_
                    refine l_y rfl rfl (y_assign rfl) ?_
                    refine l_y rfl rfl (y_assign rfl) ?_
                    refine K2 (K3 (K0 (K0 (K1 ?_))))
                    refine l_y rfl rfl (y_move rfl) ?_
                    refine N3 ?_
                    refine l_y rfl rfl (y_move rfl) ?_
                    repeat refine M2 ?_
                    refine l_y rfl rfl (y_pick_f rfl rfl) ?_
                    refine K2 (K3 (L9 (K5 (K3 (K0 (K1 ?_))))))
                    refine l_y rfl rfl (y_move rfl) ?_
                    refine l_y rfl rfl (y_move rfl) ?_
                    refine l_y rfl rfl (y_assign rfl) ?_
                    refine l_y rfl rfl (y_assign rfl) ?_
                    refine K2 (K3 (K6 ?_))
                    have e : elementR R sp nm xs none 0 = (0, 9, R) := by
                      rw [elementR, if_neg (by omega), if_neg (by omega), if_neg hlf]
                      by_cases ht : tmpl sp nm ∧ 32767 ≤ R.length
                      · rw [if_pos ht]
                      · rw [if_neg ht, if_pos h9]
                    exact fin2 rfl rfl rfl ⟨_, ⟨none, 0, by rw [e], rfl⟩, by rw [e]; exact (rarL_shut hF2 (hO.ks [.b r, .p p, .f])).one⟩
                  · simp only [List.cons_append, List.nil_append] at hO
                    refine l_y rfl rfl (y_move rfl) ?_
                    refine l_y rfl rfl (y_extract rfl rfl) ?_
                    refine l_y rfl rfl (y_extract rfl rfl) ?_
                    refine l_y rfl rfl (y_assign rfl) ?_
                    refine l_y rfl rfl (y_assign rfl) ?_
                    refine K2 (K3 (K0 (K0 (K1 ?_))))
                    refine l_y rfl rfl (y_move rfl) ?_
                    refine N2 ?_
                    refine l_y rfl rfl (y_move rfl) ?_
                    refine l_y rfl rfl (y_move rfl) ?_
                    refine l_y rfl rfl (y_pick_t rfl rfl) ?_
                    refine K2 (K3 (L8 (K0 ?_)))
                    have hO := (rarL_shut (hF2.app hRF) (hO.ks [.b r, .p p2, .f]))
                    refine K1 ?_
                    refine l_y rfl rfl (y_move rfl) ?_
                    refine CK [.o r] hO rfl (fun k' hx hr hO' => rFragOk_spec (by simp; omega) (hO := hO')) ?_
                    rintro _ _ w ⟨rfl, rfl⟩ hO
                    simp only [List.cons_append, List.nil_append] at hO
                    obtain ⟨p3, c3, F3, hg3, hF3, hO⟩ := rarL_open hO
                    refine l_y rfl rfl (y_move rfl) ?_
                    refine l_y rfl rfl (y_extract rfl rfl) ?_
                    refine l_y rfl rfl (y_extract rfl rfl) ?_
                    refine l_y rfl rfl (y_assign rfl) ?_
                    refine l_y rfl rfl (y_assign rfl) ?_
                    refine K2 (K3 (K0 ?_))
                    have hl0 : (R ++ [blankR (elR p75 c75 sp nm xs)]).length = R.length + 1 := by simp
                    have hl1 : (R ++ [blankR (elR p75 c75 sp nm xs)] ++ [blankR fragmentR]).length = R.length + 2 := by simp
                    refine K1 ?_
                    refine l_y rfl rfl (y_move rfl) ?_
                    refine l_y rfl rfl (y_nilCheck rfl rfl) ?_
                    refine l_y rfl rfl (y_fldb (o' := 0) rfl) ?_
                    refine l_y rfl rfl (D5 hO rfl) ?_
                    refine l_y rfl rfl (y_move rfl) ?_
                    refine l_y rfl rfl (y_move rfl) ?_
                    refine l_y rfl rfl (y_idx rfl rfl) ?_
                    refine l_y rfl rfl (y_fld (j' := 6) rfl) ?_
                    refine s_e1 (x0 := 6) hO rfl rfl (fun w hO => ?_)
                    refine K2 (K3 (K1 ?_))
                    refine l_y rfl rfl (y_move rfl) ?_
                    refine l_y rfl rfl (y_nilCheck rfl rfl) ?_
                    refine l_y rfl rfl (y_fldb (o' := 0) rfl) ?_
                    refine l_y rfl rfl (D5 hO rfl) ?_
                    refine l_y rfl rfl (y_move rfl) ?_
                    refine l_y rfl rfl (y_move rfl) ?_
                    refine l_y rfl rfl (y_idx rfl rfl) ?_
                    refine l_y rfl rfl (y_fld (j' := 7) rfl) ?_
                    refine s_e1 (x0 := 7) hO rfl rfl (fun w hO => ?_)
                    refine K2 (K3 (K0 (K1 ?_)))
                    refine l_y rfl rfl (y_move rfl) ?_
                    refine l_y rfl rfl (y_move rfl) ?_
                    refine l_y rfl rfl (y_assign rfl) ?_
                    refine l_y rfl rfl (y_assign rfl) ?_
                    refine K2 (K3 (K6 ?_))
                    have e : elementR R sp nm xs p75 c75 = ((R.length : Int), 0, setHostR (setInnerR (R ++ [blankR (elR p75 c75 sp nm xs)] ++ [blankR fragmentR]) R.length (R ++ [blankR (elR p75 c75 sp nm xs)]).length) (R ++ [blankR (elR p75 c75 sp nm xs)]).length R.length) := by
                      rw [elementR, if_neg (by omega), if_neg (by omega), if_neg hlf, if_neg (by omega), if_neg (by omega), if_pos ⟨h10_1, h10_4⟩]
                    have hF4 := (hF3.inner (i := (R.length : Int)) (v := (R ++ [blankR (elR p75 c75 sp nm xs)]).length) (by omega)).host (i := (R ++ [blankR (elR p75 c75 sp nm xs)]).length) (v := R.length) (by simp only [setInnerR, List.length_set]; omega)
                    exact fin2 rfl rfl rfl ⟨_, ⟨p75, c75, by rw [e], rfl⟩, by rw [e]; exact (rarL_shut hF4 (hO.ks [.b r, .p p3, .f]) (by simp [setHostR, setInnerR])).one⟩
              · refine l_y rfl rfl (y_pick_t rfl rfl) ?_
                refine l_y rfl rfl (y_assign rfl) ?_
                refine K2 (K3 (K0 (K0 (K1 ?_))))
                refine l_y rfl rfl (y_move rfl) ?_
                refine l_y rfl rfl (y_move rfl) ?_
                repeat refine M2 ?_
                refine l_y rfl rfl (y_pick_f rfl rfl) ?_
                refine K2 (K3 (L9 (K5 (K3 (K0 (K1 ?_))))))
                refine l_y rfl rfl (y_move rfl) ?_
                refine l_y rfl rfl (y_move rfl) ?_
                refine l_y rfl rfl (y_move rfl) ?_
                refine s_lit0 Api_attr.cells hO (fun b73 w hO => ?_)
                refine l_y rfl rfl (y_move rfl) ?_
                refine s_app0 hO rfl rfl (src_ro hO (by assumption)) (fun p75 c75 w hO gs75 => ?_)
                refine s_build (parts := [(0, .const (.int .i64 1)), (1, .tmp 71), (2, .tmp 72), (3, .tmp 75)]) (cs := [.int .i64 1, .int .i64 sp, .string nm, .slice p75 xs.length c75, .string ⟨#[]⟩, .string ⟨#[]⟩, .int .i64 0, .int .i64 0, .int .i64 0, .slice none 0 0]) rfl rfl (fun a ha => partsOf_sound ha _ _ rfl) (by kernel_rfl) ?_
                obtain ⟨F2, hle, hO, hsa⟩ := (hO.ks [.p p75, .f]).pooled
                have hF2 := hF.le hle
                have hRF : RF1 F2 (blankR (elR p75 c75 sp nm xs)) := ⟨hsa, Sli.nil rfl⟩
                refine CK [.b r, .p p] hO rfl (fun k' hx hr hO' => radd_spec (o := elR p75 c75 sp nm xs) hc (hO := hO')) ?_
                rintro _ _ w (⟨h9, rfl, rfl⟩ | ⟨h9, rfl, p2, c2, rfl⟩) hO
                · simp only [List.cons_append, List.nil_append] at hO
                  refine l_y rfl rfl (y_move rfl) ?_
                  refine l_y rfl rfl (y_extract rfl rfl) ?_
                  refine l_y rfl rfl (y_extract rfl rfl) ?_
                  refine l_y rfl rfl (y_assign rfl) ?_
                  refine l_y rfl rfl (y_assign rfl) ?_
                  refine K2 (K3 (K0 (K0 (K1 ?_))))
                  refine l_y rfl rfl (y_move rfl) ?_
                  refine N3 ?_
                  refine l_y rfl rfl (y_move rfl) ?_
                  repeat refine M2 ?_
                  refine l_y rfl rfl (y_pick_f rfl rfl) ?_
                  refine K2 (K3 (L9 (K5 (K3 (K0 (K1 ?_))))))
                  refine l_y rfl rfl (y_move rfl) ?_
                  refine l_y rfl rfl (y_move rfl) ?_
                  refine l_y rfl rfl (y_assign rfl) ?_
                  refine l_y rfl rfl (y_assign rfl) ?_
                  refine K2 (K3 (K6 ?_))
                  have e : elementR R sp nm xs none 0 = (0, 9, R) := by
                    rw [elementR, if_neg (by omega), if_neg (by omega), if_neg hlf]
                    by_cases ht : tmpl sp nm ∧ 32767 ≤ R.length
                    · rw [if_pos ht]
                    · rw [if_neg ht, if_pos h9]
                  exact fin2 rfl rfl rfl ⟨_, ⟨none, 0, by rw [e], rfl⟩, by rw [e]; exact (rarL_shut hF2 (hO.ks [.b r, .p p, .f])).one⟩
                · simp only [List.cons_append, List.nil_append] at hO
                  refine l_y rfl rfl (y_move rfl) ?_
                  refine l_y rfl rfl (y_extract rfl rfl) ?_
                  refine l_y rfl rfl (y_extract rfl rfl) ?_
                  refine l_y rfl rfl (y_assign rfl) ?_
                  refine l_y rfl rfl (y_assign rfl) ?_
                  refine K2 (K3 (K0 (K0 (K1 ?_))))
                  refine l_y rfl rfl (y_move rfl) ?_
                  refine N2 ?_
                  refine l_y rfl rfl (y_move rfl) ?_
                  refine l_y rfl rfl (y_move rfl) ?_
                  refine l_y rfl rfl (y_pick_t rfl rfl) ?_
                  refine K2 (K3 (L9 (K5 (K3 (K0 (K1 ?_))))))
                  refine l_y rfl rfl (y_move rfl) ?_
                  refine l_y rfl rfl (y_move rfl) ?_
                  refine l_y rfl rfl (y_assign rfl) ?_
                  refine l_y rfl rfl (y_assign rfl) ?_
                  refine K2 (K3 (K6 ?_))
                  have hnt : ¬ tmpl sp nm := by rintro ⟨q1, q2⟩; first | exact h10_1 q1 | exact h10_4 q2
                  have e : elementR R sp nm xs p75 c75 = ((R.length : Int), 0, R ++ [blankR (elR p75 c75 sp nm xs)]) := by rw [elementR, if_neg (by omega), if_neg (by omega), if_neg hlf, if_neg (fun h => hnt h.1), if_neg (by omega), if_neg hnt]
                  exact fin2 rfl rfl rfl ⟨_, ⟨p75, c75, by rw [e], rfl⟩, by rw [e]; exact (rarL_shut (hF2.app hRF) (hO.ks [.b r, .p p2, .f])).one⟩
            · refine l_y rfl rfl (y_move rfl) ?_
              repeat refine M2 ?_
              refine l_y rfl rfl (y_pick_f rfl rfl) ?_
              refine l_y rfl rfl (y_assign rfl) ?_
              refine K2 (K3 (K0 (K0 (K1 ?_))))
              refine l_y rfl rfl (y_move rfl) ?_
              refine l_y rfl rfl (y_move rfl) ?_
              repeat refine M2 ?_
              refine l_y rfl rfl (y_pick_f rfl rfl) ?_
              refine K2 (K3 (L9 (K5 (K3 (K0 (K1 ?_))))))
              refine l_y rfl rfl (y_move rfl) ?_
              refine l_y rfl rfl (y_move rfl) ?_
              refine l_y rfl rfl (y_move rfl) ?_
              refine s_lit0 Api_attr.cells hO (fun b73 w hO => ?_)
              refine l_y rfl rfl (y_move rfl) ?_
              refine s_app0 hO rfl rfl (src_ro hO (by assumption)) (fun p75 c75 w hO gs75 => ?_)
              refine s_build (parts := [(0, .const (.int .i64 1)), (1, .tmp 71), (2, .tmp 72), (3, .tmp 75)]) (cs := [.int .i64 1, .int .i64 sp, .string nm, .slice p75 xs.length c75, .string ⟨#[]⟩, .string ⟨#[]⟩, .int .i64 0, .int .i64 0, .int .i64 0, .slice none 0 0]) rfl rfl (fun a ha => partsOf_sound ha _ _ rfl) (by kernel_rfl) ?_
              obtain ⟨F2, hle, hO, hsa⟩ := (hO.ks [.p p75, .f]).pooled
              have hF2 := hF.le hle
              have hRF : RF1 F2 (blankR (elR p75 c75 sp nm xs)) := ⟨hsa, Sli.nil rfl⟩
              refine CK [.b r, .p p] hO rfl (fun k' hx hr hO' => radd_spec (o := elR p75 c75 sp nm xs) hc (hO := hO')) ?_
              rintro _ _ w (⟨h9, rfl, rfl⟩ | ⟨h9, rfl, p2, c2, rfl⟩) hO
              · simp only [List.cons_append, List.nil_append] at hO
                refine l_y rfl rfl (y_move rfl) ?_
                refine l_y rfl rfl (y_extract rfl rfl) ?_
                refine l_y rfl rfl (y_extract rfl rfl) ?_
                refine l_y rfl rfl (y_assign rfl) ?_
                refine l_y rfl rfl (y_assign rfl) ?_
                refine K2 (K3 (K0 (K0 (K1 ?_))))
                refine l_y rfl rfl (y_move rfl) ?_
                refine N3 ?_
                refine l_y rfl rfl (y_move rfl) ?_
                repeat refine M2 ?_
                refine l_y rfl rfl (y_pick_f rfl rfl) ?_
                refine K2 (K3 (L9 (K5 (K3 (K0 (K1 ?_))))))
                refine l_y rfl rfl (y_move rfl) ?_
                refine l_y rfl rfl (y_move rfl) ?_
                refine l_y rfl rfl (y_assign rfl) ?_
                refine l_y rfl rfl (y_assign rfl) ?_
                refine K2 (K3 (K6 ?_))
                have e : elementR R sp nm xs none 0 = (0, 9, R) := by
                  rw [elementR, if_neg (by omega), if_neg (by omega), if_neg hlf]
                  by_cases ht : tmpl sp nm ∧ 32767 ≤ R.length
                  · rw [if_pos ht]
                  · rw [if_neg ht, if_pos h9]
                exact fin2 rfl rfl rfl ⟨_, ⟨none, 0, by rw [e], rfl⟩, by rw [e]; exact (rarL_shut hF2 (hO.ks [.b r, .p p, .f])).one⟩
              · simp only [List.cons_append, List.nil_append] at hO
                refine l_y rfl rfl (y_move rfl) ?_
                refine l_y rfl rfl (y_extract rfl rfl) ?_
                refine l_y rfl rfl (y_extract rfl rfl) ?_
                refine l_y rfl rfl (y_assign rfl) ?_
                refine l_y rfl rfl (y_assign rfl) ?_
                refine K2 (K3 (K0 (K0 (K1 ?_))))
                refine l_y rfl rfl (y_move rfl) ?_
                refine N2 ?_
                refine l_y rfl rfl (y_move rfl) ?_
                refine l_y rfl rfl (y_move rfl) ?_
                refine l_y rfl rfl (y_pick_t rfl rfl) ?_
                refine K2 (K3 (L9 (K5 (K3 (K0 (K1 ?_))))))
                refine l_y rfl rfl (y_move rfl) ?_
                refine l_y rfl rfl (y_move rfl) ?_
                refine l_y rfl rfl (y_assign rfl) ?_
                refine l_y rfl rfl (y_assign rfl) ?_
                refine K2 (K3 (K6 ?_))
                have hnt : ¬ tmpl sp nm := by rintro ⟨q1, q2⟩; first | exact h10_1 q1 | exact h10_4 q2
                have e : elementR R sp nm xs p75 c75 = ((R.length : Int), 0, R ++ [blankR (elR p75 c75 sp nm xs)]) := by rw [elementR, if_neg (by omega), if_neg (by omega), if_neg hlf, if_neg (fun h => hnt h.1), if_neg (by omega), if_neg hnt]
                exact fin2 rfl rfl rfl ⟨_, ⟨p75, c75, by rw [e], rfl⟩, by rw [e]; exact (rarL_shut (hF2.app hRF) (hO.ks [.b r, .p p2, .f])).one⟩
end Go.Proofs.Ythkmnohghpdjhaa
