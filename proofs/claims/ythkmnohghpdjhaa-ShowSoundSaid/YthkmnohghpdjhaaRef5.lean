/- The walks of the answer's arena beside the program's: Link, Unlink, SetData; no condition. -/
import Derived.Test.YthkmnohghpdjhaaRef4
set_option linter.unusedVariables false
set_option linter.unusedSimpArgs false
set_option maxRecDepth 100000
namespace Go.Proofs.Ythkmnohghpdjhaa
open Go Go.Hb Go.RowKit
def insP (id before : Int) (l : List Int) : List Int := l.flatMap fun y => if y = before then [id, y] else [y]
theorem insB_P {id before : Int} : ∀ {l : List Int}, insB id before l = insP id before l ++ (if before = -1 then [id] else [])
  | [] => by simp [insB, insP]
  | y :: l => by
    rw [insB, insB_P (l := l)]
    simp only [insP, List.flatMap_cons]
    split <;> simp
theorem insP_succ {id before : Int} {l : List Int} {i : Nat} (h : i < l.length) : insP id before (l.take (i + 1)) = insP id before (l.take i) ++ (if at_ l i = before then [id, at_ l i] else [at_ l i]) := by
  rw [take_succ_at h]; simp [insP]
theorem insP_len {id before : Int} {l : List Int} : (insP id before l).length ≤ 2 * l.length := by
  induction l with
  | nil => simp [insP]
  | cons y l ih =>
    have e : insP id before (y :: l) = (if y = before then [id, y] else [y]) ++ insP id before l := by simp [insP]
    rw [e, List.length_append, List.length_cons]
    split <;> simp only [List.length_cons, List.length_nil] <;> omega
theorem Sim.link' {A : List Node_one} {K : Int → List Int} {R : List Ref01_one} (t : Tree A K) (s : Sim A K R) {up id before : Int} (h0 : (linkL A up id before).1 = 0) {p : Option Addr} {c : Nat} {l : List Int} (hl : l = insB id before (at_ R up.toNat).Kids) :
    Sim (linkL A up id before).2 (linkK K up id before) (setUpR (setKidsR R up p l c) id up) := by rw [hl]; exact Sim.link t s h0 p c
theorem RF1.kidsTo {F : Pl} {o : Ref01_one} (h : RF1 F o) {p : Option Addr} {l : List Int} {c : Nat} (hl : Sli (PH F) (.slice p l.length c) (l.map (eI .i64))) : RF1 F { o with KidsP := p, Kids := l, KidsC := c } := ⟨h.attrs, hl⟩
theorem RF.kids {F : Pl} {R : List Ref01_one} (h : RF F R) {i : Int} {p : Option Addr} {l : List Int} {c : Nat} (hi : i.toNat < R.length) (hl : Sli (PH F) (.slice p l.length c) (l.map (eI .i64))) : RF F (setKidsR R i p l c) := h.set ((h.atR hi).kidsTo hl)
theorem RF.up {F : Pl} {R : List Ref01_one} (h : RF F R) {i v : Int} (hi : i.toNat < R.length) : RF F (setUpR R i v) := h.set ⟨(h.atR hi).attrs, (h.atR hi).kids⟩
set_option maxHeartbeats 4000000 in
theorem rLink_spec {k : Ctx} {w : World} {r : Nat} {A : List Node_one} {K : Int → List Int} {R : List Ref01_one} {up id before : Int} (t : Tree A K) (s : Sim A K R) (hlen : A.length ≤ 32768) (hO : Own k w [rarL r R]) :
    Tri Try.prog 48 #[.pointer (some ⟨r, 0, none⟩), .int .i64 up, .int .i64 id, .int .i64 before] k w fun v m => v = .int .i64 (linkL A up id before).1 ∧ ∃ R', m = [rarL r R'] ∧ Sim (linkL A up id before).2 (linkKs A K up id before) R' := by
  refine enter (args := [.pointer (some ⟨r, 0, none⟩), .int .i64 up, .int .i64 id, .int .i64 before]) Try.func48 rfl rfl ?_
  obtain ⟨p, c, F, hg, hF, hO⟩ := rarL_open hO
  have hl := s.len
  have kerr : (linkL A up id before).1 ≠ 0 → Sim (linkL A up id before).2 (linkKs A K up id before) R := fun h => by rw [linkL_err h, linkKs, if_neg h]; exact s
  refine K0 (K1 ?_)
  refine l_y rfl rfl (y_assign rfl) ?_
  refine K2 (K3 (K0 (K0 (K1 ?_))))
  refine l_y rfl rfl (y_move rfl) ?_
  refine l_y rfl rfl (y_move rfl) ?_
  refine CK [.b r, .p p] hO rfl (fun k' hx hr hO' => IsA_spec s (hO := hO')) ?_
  rintro _ _ w ⟨rfl, rfl⟩ hO
  simp only [List.cons_append, List.nil_append] at hO
  refine l_y rfl rfl (y_not rfl rfl) ?_
  refine l_y rfl rfl (y_move rfl) ?_
  refine l_split 16 rfl (fun hg16 => ?_) (fun hg16 => ?_)
  · simp only [Bool.not_eq_true', Bool.not_eq_false'] at hg16
    repeat refine M2 ?_
    refine l_y rfl rfl (y_pick_t rfl rfl) ?_
    refine l_y rfl rfl (y_move rfl) ?_
    repeat refine M2 ?_
    refine l_y rfl rfl (y_pick_t rfl rfl) ?_
    refine K2 (K3 (L8 (K0 (K1 ?_))))
    refine l_y rfl rfl (y_assign rfl) ?_
    refine K2 (K3 (K6 (K9 ?_)))
    have e : linkL A up id before = (6, A) := by simp [linkL, *]
    exact fin1 rfl rfl ⟨_, ⟨by rw [e], _, rfl, kerr (by rw [e]; simp)⟩, (rarL_shut hF (hO.ks [.b r, .p p, .f])).one⟩
  · simp only [Bool.not_eq_true', Bool.not_eq_false'] at hg16
    refine l_y rfl rfl (y_move rfl) ?_
    refine l_y rfl rfl (y_move rfl) ?_
    refine CK [.b r, .p p] hO rfl (fun k' hx hr hO' => IsA_spec s (hO := hO')) ?_
    rintro _ _ w ⟨rfl, rfl⟩ hO
    simp only [List.cons_append, List.nil_append] at hO
    refine l_y rfl rfl (y_not rfl rfl) ?_
    refine l_y rfl rfl (y_pick_f rfl rfl) ?_
    refine l_y rfl rfl (y_move rfl) ?_
    refine l_split 22 rfl (fun hg22 => ?_) (fun hg22 => ?_)
    · simp only [Bool.not_eq_true', Bool.not_eq_false'] at hg22
      repeat refine M2 ?_
      refine l_y rfl rfl (y_pick_t rfl rfl) ?_
      refine K2 (K3 (L8 (K0 (K1 ?_))))
      refine l_y rfl rfl (y_assign rfl) ?_
      refine K2 (K3 (K6 (K9 ?_)))
      have e : linkL A up id before = (6, A) := by simp [linkL, *]
      exact fin1 rfl rfl ⟨_, ⟨by rw [e], _, rfl, kerr (by rw [e]; simp)⟩, (rarL_shut hF (hO.ks [.b r, .p p, .f])).one⟩
    · simp only [Bool.not_eq_true', Bool.not_eq_false'] at hg22
      refine l_y rfl rfl (y_move rfl) ?_
      refine Z1 (fun h1_12 => ?_) (fun h1_12 => ?_)
      · refine l_y rfl rfl (y_move rfl) ?_
        refine l_y rfl rfl (y_move rfl) ?_
        refine l_y rfl rfl (y_move rfl) ?_
        refine CK [.b r, .p p] hO rfl (fun k' hx hr hO' => IsA_spec s (hO := hO')) ?_
        rintro _ _ w ⟨rfl, rfl⟩ hO
        simp only [List.cons_append, List.nil_append] at hO
        refine l_y rfl rfl (y_not rfl rfl) ?_
        refine l_y rfl rfl (y_pick_t rfl rfl) ?_
        refine l_y rfl rfl (y_pick_f rfl rfl) ?_
        refine K2 (K3 ?_)
        refine c_split rfl (fun hc31 => ?_) (fun hc31 => ?_)
        · simp only [Bool.not_eq_true', Bool.not_eq_false'] at hc31
          refine K0 (K1 ?_)
          refine l_y rfl rfl (y_assign rfl) ?_
          refine K2 (K3 (K6 (K9 ?_)))
          have e : linkL A up id before = (6, A) := by simp [linkL, *]
          exact fin1 rfl rfl ⟨_, ⟨by rw [e], _, rfl, kerr (by rw [e]; simp)⟩, (rarL_shut hF (hO.ks [.b r, .p p, .f])).one⟩
        · simp only [Bool.not_eq_true', Bool.not_eq_false'] at hc31
          refine K5 (K3 (K0 (K0 ?_)))
          have hup := hasB_true hg16
          have hid := hasB_true hg22
          have ki := (s.atB hg22).kind
          have ui := (s.atB hg22).up
          try have hbe := hasB_true hc31
          try have ub := (s.atB hc31).up
          refine K1 ?_
          refine l_y rfl rfl (y_move rfl) ?_
          refine l_y rfl rfl (y_move rfl) ?_
          refine CK [.b r, .p p] hO rfl (fun k' hx hr hO' => rParent_spec s hg (by assumption) (hO := hO')) ?_
          rintro _ _ w ⟨rfl, rfl⟩ hO
          simp only [List.cons_append, List.nil_append] at hO
          refine l_y rfl rfl (y_not rfl rfl) ?_
          refine l_y rfl rfl (y_move rfl) ?_
          refine l_split 36 rfl (fun hg36 => ?_) (fun hg36 => ?_)
          · simp only [Bool.not_eq_true', Bool.not_eq_false'] at hg36
            repeat refine M2 ?_
            refine l_y rfl rfl (y_pick_t rfl rfl) ?_
            refine l_y rfl rfl (y_move rfl) ?_
            repeat refine M2 ?_
            refine l_y rfl rfl (y_pick_t rfl rfl) ?_
            refine K2 (K3 (L8 (K0 (K1 ?_))))
            refine l_y rfl rfl (y_assign rfl) ?_
            refine K2 (K3 (K6 (K9 ?_)))
            have e : linkL A up id before = (10, A) := by
              try rw [ki] at h3_13
              try rw [ki] at h3_24
              simp [linkL, *]
            exact fin1 rfl rfl ⟨_, ⟨by rw [e], _, rfl, kerr (by rw [e]; simp)⟩, (rarL_shut hF (hO.ks [.b r, .p p, .f])).one⟩
          · simp only [Bool.not_eq_true', Bool.not_eq_false'] at hg36
            refine l_y rfl rfl (y_move rfl) ?_
            refine l_y rfl rfl (y_nilCheck rfl rfl) ?_
            refine l_y rfl rfl (y_fldb (o' := 0) rfl) ?_
            refine l_y rfl rfl (D5 hO rfl) ?_
            refine l_y rfl rfl (y_move rfl) ?_
            refine l_y rfl rfl (y_idx rfl rfl) ?_
            refine l_y rfl rfl (y_fld (j' := 0) rfl) ?_
            refine l_y rfl rfl (y_e1 (x0 := 0) hO rfl) ?_
            refine Z0 (fun h3_13 => ?_) (fun h3_13 => ?_)
            · refine l_y rfl rfl (y_pick_f rfl rfl) ?_
              refine l_y rfl rfl (y_move rfl) ?_
              repeat refine M2 ?_
              refine l_y rfl rfl (y_pick_t rfl rfl) ?_
              refine K2 (K3 (L8 (K0 (K1 ?_))))
              refine l_y rfl rfl (y_assign rfl) ?_
              refine K2 (K3 (K6 (K9 ?_)))
              have e : linkL A up id before = (10, A) := by
                try rw [ki] at h3_13
                try rw [ki] at h3_24
                simp [linkL, *]
              exact fin1 rfl rfl ⟨_, ⟨by rw [e], _, rfl, kerr (by rw [e]; simp)⟩, (rarL_shut hF (hO.ks [.b r, .p p, .f])).one⟩
            · refine l_y rfl rfl (y_pick_f rfl rfl) ?_
              refine l_y rfl rfl (y_move rfl) ?_
              refine l_y rfl rfl (y_move rfl) ?_
              refine l_y rfl rfl (y_nilCheck rfl rfl) ?_
              refine l_y rfl rfl (y_fldb (o' := 0) rfl) ?_
              refine l_y rfl rfl (D5 hO rfl) ?_
              refine l_y rfl rfl (y_move rfl) ?_
              refine l_y rfl rfl (y_idx rfl rfl) ?_
              refine l_y rfl rfl (y_fld (j' := 0) rfl) ?_
              refine l_y rfl rfl (y_e1 (x0 := 0) hO rfl) ?_
              refine Z0 (fun h3_24 => ?_) (fun h3_24 => ?_)
              · refine l_y rfl rfl (y_pick_f rfl rfl) ?_
                refine K2 (K3 (L8 (K0 (K1 ?_))))
                refine l_y rfl rfl (y_assign rfl) ?_
                refine K2 (K3 (K6 (K9 ?_)))
                have e : linkL A up id before = (10, A) := by
                  try rw [ki] at h3_13
                  try rw [ki] at h3_24
                  simp [linkL, *]
                exact fin1 rfl rfl ⟨_, ⟨by rw [e], _, rfl, kerr (by rw [e]; simp)⟩, (rarL_shut hF (hO.ks [.b r, .p p, .f])).one⟩
              · refine l_y rfl rfl (y_pick_f rfl rfl) ?_
                refine K2 (K3 (L9 (K5 (K3 (K0 (K0 (K1 ?_)))))))
                refine l_y rfl rfl (y_move rfl) ?_
                refine l_y rfl rfl (y_nilCheck rfl rfl) ?_
                refine l_y rfl rfl (y_fldb (o' := 0) rfl) ?_
                refine l_y rfl rfl (D5 hO rfl) ?_
                refine l_y rfl rfl (y_move rfl) ?_
                refine l_y rfl rfl (y_idx rfl rfl) ?_
                refine l_y rfl rfl (y_fld (j' := 8) rfl) ?_
                refine l_y rfl rfl (y_e1 (x0 := 8) hO rfl) ?_
                refine Z1 (fun h5_8 => ?_) (fun h5_8 => ?_)
                · refine l_y rfl rfl (y_move rfl) ?_
                  repeat refine M2 ?_
                  refine l_y rfl rfl (y_pick_t rfl rfl) ?_
                  refine K2 (K3 (L8 (K0 (K1 ?_))))
                  refine l_y rfl rfl (y_assign rfl) ?_
                  refine K2 (K3 (K6 (K9 ?_)))
                  have e : linkL A up id before = (11, A) := by
                    try rw [ki] at h3_13
                    try rw [ki] at h3_24
                    try rw [ui] at h5_8
                    simp [linkL, *]
                  exact fin1 rfl rfl ⟨_, ⟨by rw [e], _, rfl, kerr (by rw [e]; simp)⟩, (rarL_shut hF (hO.ks [.b r, .p p, .f])).one⟩
                · refine l_y rfl rfl (y_move rfl) ?_
                  refine l_y rfl rfl (y_move rfl) ?_
                  refine l_y rfl rfl (y_move rfl) ?_
                  refine l_y rfl rfl (y_move rfl) ?_
                  refine CK [.b r, .p p] hO rfl (fun k' hx hr hO' => rAbove_spec s hg t.rank (hO := hO')) ?_
                  rintro _ _ w ⟨rfl, rfl⟩ hO
                  simp only [List.cons_append, List.nil_append] at hO
                  refine l_y rfl rfl (y_pick_f rfl rfl) ?_
                  refine K2 (K3 ?_)
                  refine c_split rfl (fun hc72 => ?_) (fun hc72 => ?_)
                  · refine K0 (K1 ?_)
                    refine l_y rfl rfl (y_assign rfl) ?_
                    refine K2 (K3 (K6 (K9 ?_)))
                    have e : linkL A up id before = (11, A) := by
                      try rw [ki] at h3_13
                      try rw [ki] at h3_24
                      try rw [ui] at h5_8
                      simp [linkL, *]
                    exact fin1 rfl rfl ⟨_, ⟨by rw [e], _, rfl, kerr (by rw [e]; simp)⟩, (rarL_shut hF (hO.ks [.b r, .p p, .f])).one⟩
                  · refine K5 (K3 (K0 (K0 (K1 ?_))))
                    refine l_y rfl rfl (y_move rfl) ?_
                    refine Z1 (fun h7_1 => ?_) (fun h7_1 => ?_)
                    · first
                      | (exfalso; omega)
                      | skip
                        refine l_y rfl rfl (y_move rfl) ?_
                        refine l_y rfl rfl (y_move rfl) ?_
                        refine l_y rfl rfl (y_nilCheck rfl rfl) ?_
                        refine l_y rfl rfl (y_fldb (o' := 0) rfl) ?_
                        refine l_y rfl rfl (D5 hO rfl) ?_
                        refine l_y rfl rfl (y_move rfl) ?_
                        refine l_y rfl rfl (y_idx rfl rfl) ?_
                        refine l_y rfl rfl (y_fld (j' := 8) rfl) ?_
                        refine l_y rfl rfl (y_e1 (x0 := 8) hO rfl) ?_
                        refine l_y rfl rfl (y_move rfl) ?_
                        refine Z1 (fun h7_12 => ?_) (fun h7_12 => ?_)
                        · refine l_y rfl rfl (y_pick_t rfl rfl) ?_
                          refine K2 (K3 (L8 (K0 (K1 ?_))))
                          refine l_y rfl rfl (y_assign rfl) ?_
                          refine K2 (K3 (K6 (K9 ?_)))
                          have e : linkL A up id before = (1, A) := by
                            try rw [ki] at h3_13
                            try rw [ki] at h3_24
                            rw [ui] at h5_8
                            rw [ub] at h7_12
                            simp [linkL, *]
                          exact fin1 rfl rfl ⟨_, ⟨by rw [e], _, rfl, kerr (by rw [e]; simp)⟩, (rarL_shut hF (hO.ks [.b r, .p p, .f])).one⟩
                        · refine l_y rfl rfl (y_pick_t rfl rfl) ?_
                          refine K2 (K3 (L9 (K5 (K3 (K0 ?_)))))
                          have h0 : (linkL A up id before).1 = 0 := by
                            rw [ui] at h5_8
                            try rw [ub] at h7_12
                            rw [ki] at h3_13
                            try rw [ki] at h3_24
                            try rw [ki] at hc57
                            simp [linkL, *]
                          have hkk : (at_ R up.toNat).Kids.length ≤ 32768 := by
                            have := t.len (inA_iff.1 hg16)
                            rw [(s.atB hg16).kids]; omega
                          have hkids := (hF.atR (i := up.toNat) (by omega)).kids
                          have hgk := sli_gs hkids
                          have hO : Own k w (sls none 0 3 1 (eI .i64) ([] : List Int) :: _) := sl_nil 3 1 hO
                          refine K1 ?_
                          refine l_y rfl rfl (y_assign rfl) ?_
                          refine K2 (K3 (K0 (K1 ?_)))
                          refine l_y rfl rfl (y_move rfl) ?_
                          refine l_y rfl rfl (y_nilCheck rfl rfl) ?_
                          refine l_y rfl rfl (y_fldb (o' := 0) rfl) ?_
                          refine l_y rfl rfl (D5 hO rfl) ?_
                          refine l_y rfl rfl (y_move rfl) ?_
                          refine l_y rfl rfl (y_idx rfl rfl) ?_
                          refine l_y rfl rfl (y_fld (j' := 9) rfl) ?_
                          refine l_y rfl rfl (y_e1 (x0 := 9) hO rfl) ?_
                          refine l_y rfl rfl (y_assign rfl) ?_
                          refine K2 (K3 (K0 (K0 (K1 ?_))))
                          refine l_y rfl rfl (y_assign rfl) ?_
                          refine K2 (K3 (K4 ?_))
                          refine c_rounds (X := Nat × Option Addr × Nat × List Int) (fun x => [(0, .pointer (some ⟨r, 0, none⟩)), (1, .int .i64 up), (2, .int .i64 id), (3, .int .i64 before), (8, .int .i64 0), (9, .slice x.2.1 x.2.2.2.length x.2.2.1), (10, .slice (at_ R (up : Int).toNat).KidsP (at_ R (up : Int).toNat).Kids.length (at_ R (up : Int).toNat).KidsC), (11, .int .i64 (x.1 : Int))]) (fun x w => Own k w [rB r p R.length c, rS p c R, pool F, sls x.2.1 x.2.2.1 3 1 (eI .i64) x.2.2.2] ∧ (x.1 ≤ (at_ R up.toNat).Kids.length ∧ x.2.2.2 = insP id before ((at_ R up.toNat).Kids.take x.1))) (fun x => (at_ R up.toNat).Kids.length - x.1) ((0, none, 0, [])) ⟨rfl, rfl, rfl, rfl, rfl, rfl, rfl, rfl, trivial⟩ ⟨hO.only [.b r, .p p, .f, .p none], ⟨Nat.zero_le _, rfl⟩⟩ ?_
                          rintro x w m hm ⟨hO, hi⟩
                          have hxl : x.2.2.2.length ≤ 65536 := by
                            have h := insP_len (id := id) (before := before) (l := (at_ R up.toNat).Kids.take x.1)
                            rw [← hi.2, List.length_take] at h
                            omega
                          refine K0 (K0 (K1 ?_))
                          refine l_y rfl rfl (y_move rfl) ?_
                          refine l_y rfl rfl (y_move rfl) ?_
                          refine l_y rfl rfl (y_lenL rfl) ?_
                          refine Z0 (fun h12_3 => ?_) (fun h12_3 => ?_)
                          · refine K2 (K3 (L8 (K5 (K3 (K0 (K4 (K0 (K0 (K1 ?_)))))))))
                            refine l_y rfl rfl (y_move rfl) ?_
                            refine l_y rfl rfl (y_move rfl) ?_
                            refine l_y rfl rfl (y_idx rfl rfl) ?_
                            refine l_y rfl rfl (y_p1 (x0 := 0) (enc := (eI .i64)) (xs := (at_ R up.toNat).Kids) hO rfl) ?_
                            refine l_y rfl rfl (y_move rfl) ?_
                            refine Z0 (fun h14_5 => ?_) (fun h14_5 => ?_)
                            · refine K2 (K3 (L8 (K1 ?_)))
                              refine l_y rfl rfl (y_move rfl) ?_
                              refine l_y rfl rfl (y_move rfl) ?_
                              refine s_lit (parts := [(0, .tmp 108)]) (enc := (eI .i64)) [id] [.int .i64 id] hO rfl (fun b109 w hO => ?_)
                              refine s_app hO rfl rfl (src_own hO) (fun p110 c110 w hO gs110 => ?_)
                              refine l_y rfl rfl (y_assign rfl) ?_
                              refine K2 (K3 (K1 ?_))
                              refine l_y rfl rfl (y_move rfl) ?_
                              refine l_y rfl rfl (y_move rfl) ?_
                              refine l_y rfl rfl (y_move rfl) ?_
                              refine l_y rfl rfl (y_idx rfl rfl) ?_
                              refine l_y rfl rfl (y_p1 (x0 := 0) (enc := (eI .i64)) (xs := (at_ R up.toNat).Kids) hO rfl) ?_
                              refine s_lit (parts := [(0, .tmp 115)]) (enc := (eI .i64)) [(at_ (at_ R up.toNat).Kids ((x.1 : Int) : Int).toNat)] [.int .i64 (at_ (at_ R up.toNat).Kids ((x.1 : Int) : Int).toNat)] hO rfl (fun b116 w hO => ?_)
                              refine s_app hO rfl rfl (src_own hO) (fun p117 c117 w hO gs117 => ?_)
                              refine l_y rfl rfl (y_assign rfl) ?_
                              refine K2 (K8 (K3 (K1 ?_)))
                              refine l_y rfl rfl (y_move rfl) ?_
                              refine l_y rfl rfl (D4) ?_
                              refine l_y rfl rfl (y_assign rfl) ?_
                              refine K2 ?_
                              have hnl : ((x.2.2.2 ++ [id]) ++ [(at_ (at_ R up.toNat).Kids ((x.1 : Int) : Int).toNat)]) = insP id before ((at_ R up.toNat).Kids.take (x.1 + 1)) := by first | (rw [insP_succ (by omega), ← hi.2, if_pos (show at_ (at_ R up.toNat).Kids x.1 = before from h14_5)]; simp) | (rw [insP_succ (by omega), ← hi.2, if_neg (show ¬ at_ (at_ R up.toNat).Kids x.1 = before from h14_5)]; rfl)
                              exact q_next ((x.1 + 1, p117, c117, ((x.2.2.2 ++ [id]) ++ [(at_ (at_ R up.toNat).Kids ((x.1 : Int) : Int).toNat)]))) ⟨rfl, rfl, rfl, rfl, rfl, rfl, rfl, rfl, trivial⟩ ⟨hO.only [.b r, .p p, .f, .p p117], ⟨by dsimp only; omega, hnl⟩⟩ (by dsimp only; omega)
                            · refine K2 (K3 (L9 (K5 (K3 (K1 ?_)))))
                              refine l_y rfl rfl (y_move rfl) ?_
                              refine l_y rfl rfl (y_move rfl) ?_
                              refine l_y rfl rfl (y_move rfl) ?_
                              refine l_y rfl rfl (y_idx rfl rfl) ?_
                              refine l_y rfl rfl (y_p1 (x0 := 0) (enc := (eI .i64)) (xs := (at_ R up.toNat).Kids) hO rfl) ?_
                              refine s_lit (parts := [(0, .tmp 115)]) (enc := (eI .i64)) [(at_ (at_ R up.toNat).Kids ((x.1 : Int) : Int).toNat)] [.int .i64 (at_ (at_ R up.toNat).Kids ((x.1 : Int) : Int).toNat)] hO rfl (fun b116 w hO => ?_)
                              refine s_app hO rfl rfl (src_own hO) (fun p117 c117 w hO gs117 => ?_)
                              refine l_y rfl rfl (y_assign rfl) ?_
                              refine K2 (K8 (K3 (K1 ?_)))
                              refine l_y rfl rfl (y_move rfl) ?_
                              refine l_y rfl rfl (D4) ?_
                              refine l_y rfl rfl (y_assign rfl) ?_
                              refine K2 ?_
                              have hnl : (x.2.2.2 ++ [(at_ (at_ R up.toNat).Kids ((x.1 : Int) : Int).toNat)]) = insP id before ((at_ R up.toNat).Kids.take (x.1 + 1)) := by first | (rw [insP_succ (by omega), ← hi.2, if_pos (show at_ (at_ R up.toNat).Kids x.1 = before from h14_5)]; simp) | (rw [insP_succ (by omega), ← hi.2, if_neg (show ¬ at_ (at_ R up.toNat).Kids x.1 = before from h14_5)]; rfl)
                              exact q_next ((x.1 + 1, p117, c117, (x.2.2.2 ++ [(at_ (at_ R up.toNat).Kids ((x.1 : Int) : Int).toNat)]))) ⟨rfl, rfl, rfl, rfl, rfl, rfl, rfl, rfl, trivial⟩ ⟨hO.only [.b r, .p p, .f, .p p117], ⟨by dsimp only; omega, hnl⟩⟩ (by dsimp only; omega)
                          · refine K2 (K3 (L9 (K7 (L1 (L1 (L2 (K3 (K0 (K0 ?_)))))))))
                            have hxe : x.2.2.2 = insP id before (at_ R up.toNat).Kids := by rw [hi.2, List.take_of_length_le (by omega)]
                            refine K1 ?_
                            refine l_y rfl rfl (y_move rfl) ?_
                            refine Z0 (fun h17_1 => ?_) (fun h17_1 => ?_)
                            · first
                              | (exfalso; omega)
                              | skip
                                refine K2 (K3 (L8 (K1 ?_)))
                                refine l_y rfl rfl (y_move rfl) ?_
                                refine l_y rfl rfl (y_move rfl) ?_
                                refine s_lit (parts := [(0, .tmp 121)]) (enc := (eI .i64)) [id] [.int .i64 id] hO rfl (fun b122 w hO => ?_)
                                refine s_app hO rfl rfl (src_own hO) (fun p123 c123 w hO gs123 => ?_)
                                refine l_y rfl rfl (y_assign rfl) ?_
                                refine K2 (K3 (K0 ?_))
                                have hrow : (x.2.2.2 ++ [id]) = insB id before (at_ R up.toNat).Kids := by
                                  rw [insB_P, ← hxe]
                                  first | rw [if_pos h17_1] | rw [if_neg h17_1, List.append_nil]
                                obtain ⟨F2, hle, hO, hsa⟩ := (hO.ks [.p p123, .f]).pooled
                                refine K1 ?_
                                refine l_y rfl rfl (y_move rfl) ?_
                                refine l_y rfl rfl (y_nilCheck rfl rfl) ?_
                                refine l_y rfl rfl (y_fldb (o' := 0) rfl) ?_
                                refine l_y rfl rfl (D5 hO rfl) ?_
                                refine l_y rfl rfl (y_move rfl) ?_
                                refine l_y rfl rfl (y_move rfl) ?_
                                refine l_y rfl rfl (y_idx rfl rfl) ?_
                                refine l_y rfl rfl (y_fld (j' := 9) rfl) ?_
                                refine s_e1 (x0 := 9) hO rfl rfl (fun w hO => ?_)
                                refine K2 (K3 (K0 (K1 ?_)))
                                refine l_y rfl rfl (y_move rfl) ?_
                                refine l_y rfl rfl (y_nilCheck rfl rfl) ?_
                                refine l_y rfl rfl (y_fldb (o' := 0) rfl) ?_
                                refine l_y rfl rfl (D5 hO rfl) ?_
                                refine l_y rfl rfl (y_move rfl) ?_
                                refine l_y rfl rfl (y_move rfl) ?_
                                refine l_y rfl rfl (y_idx rfl rfl) ?_
                                refine l_y rfl rfl (y_fld (j' := 8) rfl) ?_
                                refine s_e1 (x0 := 8) hO rfl rfl (fun w hO => ?_)
                                refine K2 (K3 (K0 (K1 ?_)))
                                refine l_y rfl rfl (y_assign rfl) ?_
                                refine K2 (K3 (K6 ?_))
                                refine fin1 rfl rfl ⟨_, ⟨by rw [h0], _, rfl, ?_⟩, (rarL_shut ?_ (hO.ks [.b r, .p p, .f]) ?_).one⟩
                                · rw [linkKs, if_pos h0]; exact Sim.link' t s h0 hrow
                                · exact RF.up (RF.kids (hF.le hle) (by omega) hsa) (by rw [setKidsR_len]; omega)
                                · simp
                            · first
                              | (exfalso; omega)
                              | skip
                                refine K2 (K3 (L9 (K5 (K3 (K0 ?_)))))
                                have hrow : x.2.2.2 = insB id before (at_ R up.toNat).Kids := by
                                  rw [insB_P, ← hxe]
                                  first | rw [if_pos h17_1] | rw [if_neg h17_1, List.append_nil]
                                obtain ⟨F2, hle, hO, hsa⟩ := (hO.ks [.p x.2.1, .f]).pooled
                                refine K1 ?_
                                refine l_y rfl rfl (y_move rfl) ?_
                                refine l_y rfl rfl (y_nilCheck rfl rfl) ?_
                                refine l_y rfl rfl (y_fldb (o' := 0) rfl) ?_
                                refine l_y rfl rfl (D5 hO rfl) ?_
                                refine l_y rfl rfl (y_move rfl) ?_
                                refine l_y rfl rfl (y_move rfl) ?_
                                refine l_y rfl rfl (y_idx rfl rfl) ?_
                                refine l_y rfl rfl (y_fld (j' := 9) rfl) ?_
                                refine s_e1 (x0 := 9) hO rfl rfl (fun w hO => ?_)
                                refine K2 (K3 (K0 (K1 ?_)))
                                refine l_y rfl rfl (y_move rfl) ?_
                                refine l_y rfl rfl (y_nilCheck rfl rfl) ?_
                                refine l_y rfl rfl (y_fldb (o' := 0) rfl) ?_
                                refine l_y rfl rfl (D5 hO rfl) ?_
                                refine l_y rfl rfl (y_move rfl) ?_
                                refine l_y rfl rfl (y_move rfl) ?_
                                refine l_y rfl rfl (y_idx rfl rfl) ?_
                                refine l_y rfl rfl (y_fld (j' := 8) rfl) ?_
                                refine s_e1 (x0 := 8) hO rfl rfl (fun w hO => ?_)
                                refine K2 (K3 (K0 (K1 ?_)))
                                refine l_y rfl rfl (y_assign rfl) ?_
                                refine K2 (K3 (K6 ?_))
                                refine fin1 rfl rfl ⟨_, ⟨by rw [h0], _, rfl, ?_⟩, (rarL_shut ?_ (hO.ks [.b r, .p p, .f]) ?_).one⟩
                                · rw [linkKs, if_pos h0]; exact Sim.link' t s h0 hrow
                                · exact RF.up (RF.kids (hF.le hle) (by omega) hsa) (by rw [setKidsR_len]; omega)
                                · simp
                    · first
                      | (exfalso; omega)
                      | skip
                        refine l_y rfl rfl (y_move rfl) ?_
                        repeat refine M2 ?_
                        refine l_y rfl rfl (y_pick_f rfl rfl) ?_
                        refine K2 (K3 (L9 (K5 (K3 (K0 ?_)))))
                        have h0 : (linkL A up id before).1 = 0 := by
                          rw [ui] at h5_8
                          try rw [ub] at h7_12
                          rw [ki] at h3_13
                          try rw [ki] at h3_24
                          try rw [ki] at hc57
                          simp [linkL, *]
                        have hkk : (at_ R up.toNat).Kids.length ≤ 32768 := by
                          have := t.len (inA_iff.1 hg16)
                          rw [(s.atB hg16).kids]; omega
                        have hkids := (hF.atR (i := up.toNat) (by omega)).kids
                        have hgk := sli_gs hkids
                        have hO : Own k w (sls none 0 3 1 (eI .i64) ([] : List Int) :: _) := sl_nil 3 1 hO
                        refine K1 ?_
                        refine l_y rfl rfl (y_assign rfl) ?_
                        refine K2 (K3 (K0 (K1 ?_)))
                        refine l_y rfl rfl (y_move rfl) ?_
                        refine l_y rfl rfl (y_nilCheck rfl rfl) ?_
                        refine l_y rfl rfl (y_fldb (o' := 0) rfl) ?_
                        refine l_y rfl rfl (D5 hO rfl) ?_
                        refine l_y rfl rfl (y_move rfl) ?_
                        refine l_y rfl rfl (y_idx rfl rfl) ?_
                        refine l_y rfl rfl (y_fld (j' := 9) rfl) ?_
                        refine l_y rfl rfl (y_e1 (x0 := 9) hO rfl) ?_
                        refine l_y rfl rfl (y_assign rfl) ?_
                        refine K2 (K3 (K0 (K0 (K1 ?_))))
                        refine l_y rfl rfl (y_assign rfl) ?_
                        refine K2 (K3 (K4 ?_))
                        refine c_rounds (X := Nat × Option Addr × Nat × List Int) (fun x => [(0, .pointer (some ⟨r, 0, none⟩)), (1, .int .i64 up), (2, .int .i64 id), (3, .int .i64 before), (8, .int .i64 0), (9, .slice x.2.1 x.2.2.2.length x.2.2.1), (10, .slice (at_ R (up : Int).toNat).KidsP (at_ R (up : Int).toNat).Kids.length (at_ R (up : Int).toNat).KidsC), (11, .int .i64 (x.1 : Int))]) (fun x w => Own k w [rB r p R.length c, rS p c R, pool F, sls x.2.1 x.2.2.1 3 1 (eI .i64) x.2.2.2] ∧ (x.1 ≤ (at_ R up.toNat).Kids.length ∧ x.2.2.2 = insP id before ((at_ R up.toNat).Kids.take x.1))) (fun x => (at_ R up.toNat).Kids.length - x.1) ((0, none, 0, [])) ⟨rfl, rfl, rfl, rfl, rfl, rfl, rfl, rfl, trivial⟩ ⟨hO.only [.b r, .p p, .f, .p none], ⟨Nat.zero_le _, rfl⟩⟩ ?_
                        rintro x w m hm ⟨hO, hi⟩
                        have hxl : x.2.2.2.length ≤ 65536 := by
                          have h := insP_len (id := id) (before := before) (l := (at_ R up.toNat).Kids.take x.1)
                          rw [← hi.2, List.length_take] at h
                          omega
                        refine K0 (K0 (K1 ?_))
                        refine l_y rfl rfl (y_move rfl) ?_
                        refine l_y rfl rfl (y_move rfl) ?_
                        refine l_y rfl rfl (y_lenL rfl) ?_
                        refine Z0 (fun h12_3 => ?_) (fun h12_3 => ?_)
                        · refine K2 (K3 (L8 (K5 (K3 (K0 (K4 (K0 (K0 (K1 ?_)))))))))
                          refine l_y rfl rfl (y_move rfl) ?_
                          refine l_y rfl rfl (y_move rfl) ?_
                          refine l_y rfl rfl (y_idx rfl rfl) ?_
                          refine l_y rfl rfl (y_p1 (x0 := 0) (enc := (eI .i64)) (xs := (at_ R up.toNat).Kids) hO rfl) ?_
                          refine l_y rfl rfl (y_move rfl) ?_
                          refine Z0 (fun h14_5 => ?_) (fun h14_5 => ?_)
                          · refine K2 (K3 (L8 (K1 ?_)))
                            refine l_y rfl rfl (y_move rfl) ?_
                            refine l_y rfl rfl (y_move rfl) ?_
                            refine s_lit (parts := [(0, .tmp 108)]) (enc := (eI .i64)) [id] [.int .i64 id] hO rfl (fun b109 w hO => ?_)
                            refine s_app hO rfl rfl (src_own hO) (fun p110 c110 w hO gs110 => ?_)
                            refine l_y rfl rfl (y_assign rfl) ?_
                            refine K2 (K3 (K1 ?_))
                            refine l_y rfl rfl (y_move rfl) ?_
                            refine l_y rfl rfl (y_move rfl) ?_
                            refine l_y rfl rfl (y_move rfl) ?_
                            refine l_y rfl rfl (y_idx rfl rfl) ?_
                            refine l_y rfl rfl (y_p1 (x0 := 0) (enc := (eI .i64)) (xs := (at_ R up.toNat).Kids) hO rfl) ?_
                            refine s_lit (parts := [(0, .tmp 115)]) (enc := (eI .i64)) [(at_ (at_ R up.toNat).Kids ((x.1 : Int) : Int).toNat)] [.int .i64 (at_ (at_ R up.toNat).Kids ((x.1 : Int) : Int).toNat)] hO rfl (fun b116 w hO => ?_)
                            refine s_app hO rfl rfl (src_own hO) (fun p117 c117 w hO gs117 => ?_)
                            refine l_y rfl rfl (y_assign rfl) ?_
                            refine K2 (K8 (K3 (K1 ?_)))
                            refine l_y rfl rfl (y_move rfl) ?_
                            refine l_y rfl rfl (D4) ?_
                            refine l_y rfl rfl (y_assign rfl) ?_
                            refine K2 ?_
                            have hnl : ((x.2.2.2 ++ [id]) ++ [(at_ (at_ R up.toNat).Kids ((x.1 : Int) : Int).toNat)]) = insP id before ((at_ R up.toNat).Kids.take (x.1 + 1)) := by first | (rw [insP_succ (by omega), ← hi.2, if_pos (show at_ (at_ R up.toNat).Kids x.1 = before from h14_5)]; simp) | (rw [insP_succ (by omega), ← hi.2, if_neg (show ¬ at_ (at_ R up.toNat).Kids x.1 = before from h14_5)]; rfl)
                            exact q_next ((x.1 + 1, p117, c117, ((x.2.2.2 ++ [id]) ++ [(at_ (at_ R up.toNat).Kids ((x.1 : Int) : Int).toNat)]))) ⟨rfl, rfl, rfl, rfl, rfl, rfl, rfl, rfl, trivial⟩ ⟨hO.only [.b r, .p p, .f, .p p117], ⟨by dsimp only; omega, hnl⟩⟩ (by dsimp only; omega)
                          · refine K2 (K3 (L9 (K5 (K3 (K1 ?_)))))
                            refine l_y rfl rfl (y_move rfl) ?_
                            refine l_y rfl rfl (y_move rfl) ?_
                            refine l_y rfl rfl (y_move rfl) ?_
                            refine l_y rfl rfl (y_idx rfl rfl) ?_
                            refine l_y rfl rfl (y_p1 (x0 := 0) (enc := (eI .i64)) (xs := (at_ R up.toNat).Kids) hO rfl) ?_
                            refine s_lit (parts := [(0, .tmp 115)]) (enc := (eI .i64)) [(at_ (at_ R up.toNat).Kids ((x.1 : Int) : Int).toNat)] [.int .i64 (at_ (at_ R up.toNat).Kids ((x.1 : Int) : Int).toNat)] hO rfl (fun b116 w hO => ?_)
                            refine s_app hO rfl rfl (src_own hO) (fun p117 c117 w hO gs117 => ?_)
                            refine l_y rfl rfl (y_assign rfl) ?_
                            refine K2 (K8 (K3 (K1 ?_)))
                            refine l_y rfl rfl (y_move rfl) ?_
                            refine l_y rfl rfl (D4) ?_
                            refine l_y rfl rfl (y_assign rfl) ?_
                            refine K2 ?_
                            have hnl : (x.2.2.2 ++ [(at_ (at_ R up.toNat).Kids ((x.1 : Int) : Int).toNat)]) = insP id before ((at_ R up.toNat).Kids.take (x.1 + 1)) := by first | (rw [insP_succ (by omega), ← hi.2, if_pos (show at_ (at_ R up.toNat).Kids x.1 = before from h14_5)]; simp) | (rw [insP_succ (by omega), ← hi.2, if_neg (show ¬ at_ (at_ R up.toNat).Kids x.1 = before from h14_5)]; rfl)
                            exact q_next ((x.1 + 1, p117, c117, (x.2.2.2 ++ [(at_ (at_ R up.toNat).Kids ((x.1 : Int) : Int).toNat)]))) ⟨rfl, rfl, rfl, rfl, rfl, rfl, rfl, rfl, trivial⟩ ⟨hO.only [.b r, .p p, .f, .p p117], ⟨by dsimp only; omega, hnl⟩⟩ (by dsimp only; omega)
                        · refine K2 (K3 (L9 (K7 (L1 (L1 (L2 (K3 (K0 (K0 ?_)))))))))
                          have hxe : x.2.2.2 = insP id before (at_ R up.toNat).Kids := by rw [hi.2, List.take_of_length_le (by omega)]
                          refine K1 ?_
                          refine l_y rfl rfl (y_move rfl) ?_
                          refine Z0 (fun h17_1 => ?_) (fun h17_1 => ?_)
                          · first
                            | (exfalso; omega)
                            | skip
                              refine K2 (K3 (L8 (K1 ?_)))
                              refine l_y rfl rfl (y_move rfl) ?_
                              refine l_y rfl rfl (y_move rfl) ?_
                              refine s_lit (parts := [(0, .tmp 121)]) (enc := (eI .i64)) [id] [.int .i64 id] hO rfl (fun b122 w hO => ?_)
                              refine s_app hO rfl rfl (src_own hO) (fun p123 c123 w hO gs123 => ?_)
                              refine l_y rfl rfl (y_assign rfl) ?_
                              refine K2 (K3 (K0 ?_))
                              have hrow : (x.2.2.2 ++ [id]) = insB id before (at_ R up.toNat).Kids := by
                                rw [insB_P, ← hxe]
                                first | rw [if_pos h17_1] | rw [if_neg h17_1, List.append_nil]
                              obtain ⟨F2, hle, hO, hsa⟩ := (hO.ks [.p p123, .f]).pooled
                              refine K1 ?_
                              refine l_y rfl rfl (y_move rfl) ?_
                              refine l_y rfl rfl (y_nilCheck rfl rfl) ?_
                              refine l_y rfl rfl (y_fldb (o' := 0) rfl) ?_
                              refine l_y rfl rfl (D5 hO rfl) ?_
                              refine l_y rfl rfl (y_move rfl) ?_
                              refine l_y rfl rfl (y_move rfl) ?_
                              refine l_y rfl rfl (y_idx rfl rfl) ?_
                              refine l_y rfl rfl (y_fld (j' := 9) rfl) ?_
                              refine s_e1 (x0 := 9) hO rfl rfl (fun w hO => ?_)
                              refine K2 (K3 (K0 (K1 ?_)))
                              refine l_y rfl rfl (y_move rfl) ?_
                              refine l_y rfl rfl (y_nilCheck rfl rfl) ?_
                              refine l_y rfl rfl (y_fldb (o' := 0) rfl) ?_
                              refine l_y rfl rfl (D5 hO rfl) ?_
                              refine l_y rfl rfl (y_move rfl) ?_
                              refine l_y rfl rfl (y_move rfl) ?_
                              refine l_y rfl rfl (y_idx rfl rfl) ?_
                              refine l_y rfl rfl (y_fld (j' := 8) rfl) ?_
                              refine s_e1 (x0 := 8) hO rfl rfl (fun w hO => ?_)
                              refine K2 (K3 (K0 (K1 ?_)))
                              refine l_y rfl rfl (y_assign rfl) ?_
                              refine K2 (K3 (K6 ?_))
                              refine fin1 rfl rfl ⟨_, ⟨by rw [h0], _, rfl, ?_⟩, (rarL_shut ?_ (hO.ks [.b r, .p p, .f]) ?_).one⟩
                              · rw [linkKs, if_pos h0]; exact Sim.link' t s h0 hrow
                              · exact RF.up (RF.kids (hF.le hle) (by omega) hsa) (by rw [setKidsR_len]; omega)
                              · simp
                          · first
                            | (exfalso; omega)
                            | skip
                              refine K2 (K3 (L9 (K5 (K3 (K0 ?_)))))
                              have hrow : x.2.2.2 = insB id before (at_ R up.toNat).Kids := by
                                rw [insB_P, ← hxe]
                                first | rw [if_pos h17_1] | rw [if_neg h17_1, List.append_nil]
                              obtain ⟨F2, hle, hO, hsa⟩ := (hO.ks [.p x.2.1, .f]).pooled
                              refine K1 ?_
                              refine l_y rfl rfl (y_move rfl) ?_
                              refine l_y rfl rfl (y_nilCheck rfl rfl) ?_
                              refine l_y rfl rfl (y_fldb (o' := 0) rfl) ?_
                              refine l_y rfl rfl (D5 hO rfl) ?_
                              refine l_y rfl rfl (y_move rfl) ?_
                              refine l_y rfl rfl (y_move rfl) ?_
                              refine l_y rfl rfl (y_idx rfl rfl) ?_
                              refine l_y rfl rfl (y_fld (j' := 9) rfl) ?_
                              refine s_e1 (x0 := 9) hO rfl rfl (fun w hO => ?_)
                              refine K2 (K3 (K0 (K1 ?_)))
                              refine l_y rfl rfl (y_move rfl) ?_
                              refine l_y rfl rfl (y_nilCheck rfl rfl) ?_
                              refine l_y rfl rfl (y_fldb (o' := 0) rfl) ?_
                              refine l_y rfl rfl (D5 hO rfl) ?_
                              refine l_y rfl rfl (y_move rfl) ?_
                              refine l_y rfl rfl (y_move rfl) ?_
                              refine l_y rfl rfl (y_idx rfl rfl) ?_
                              refine l_y rfl rfl (y_fld (j' := 8) rfl) ?_
                              refine s_e1 (x0 := 8) hO rfl rfl (fun w hO => ?_)
                              refine K2 (K3 (K0 (K1 ?_)))
                              refine l_y rfl rfl (y_assign rfl) ?_
                              refine K2 (K3 (K6 ?_))
                              refine fin1 rfl rfl ⟨_, ⟨by rw [h0], _, rfl, ?_⟩, (rarL_shut ?_ (hO.ks [.b r, .p p, .f]) ?_).one⟩
                              · rw [linkKs, if_pos h0]; exact Sim.link' t s h0 hrow
                              · exact RF.up (RF.kids (hF.le hle) (by omega) hsa) (by rw [setKidsR_len]; omega)
                              · simp
      · refine l_y rfl rfl (y_move rfl) ?_
        repeat refine M2 ?_
        refine l_y rfl rfl (y_pick_f rfl rfl) ?_
        refine l_y rfl rfl (y_pick_f rfl rfl) ?_
        refine K2 (K3 (L9 (K5 (K3 (K0 (K0 ?_))))))
        have hup := hasB_true hg16
        have hid := hasB_true hg22
        have ki := (s.atB hg22).kind
        have ui := (s.atB hg22).up
        try have hbe := hasB_true hc31
        try have ub := (s.atB hc31).up
        refine K1 ?_
        refine l_y rfl rfl (y_move rfl) ?_
        refine l_y rfl rfl (y_move rfl) ?_
        refine CK [.b r, .p p] hO rfl (fun k' hx hr hO' => rParent_spec s hg (by assumption) (hO := hO')) ?_
        rintro _ _ w ⟨rfl, rfl⟩ hO
        simp only [List.cons_append, List.nil_append] at hO
        refine l_y rfl rfl (y_not rfl rfl) ?_
        refine l_y rfl rfl (y_move rfl) ?_
        refine l_split 36 rfl (fun hg36 => ?_) (fun hg36 => ?_)
        · simp only [Bool.not_eq_true', Bool.not_eq_false'] at hg36
          repeat refine M2 ?_
          refine l_y rfl rfl (y_pick_t rfl rfl) ?_
          refine l_y rfl rfl (y_move rfl) ?_
          repeat refine M2 ?_
          refine l_y rfl rfl (y_pick_t rfl rfl) ?_
          refine K2 (K3 (L8 (K0 (K1 ?_))))
          refine l_y rfl rfl (y_assign rfl) ?_
          refine K2 (K3 (K6 (K9 ?_)))
          have e : linkL A up id before = (10, A) := by
            try rw [ki] at h3_13
            try rw [ki] at h3_24
            simp [linkL, *]
          exact fin1 rfl rfl ⟨_, ⟨by rw [e], _, rfl, kerr (by rw [e]; simp)⟩, (rarL_shut hF (hO.ks [.b r, .p p, .f])).one⟩
        · simp only [Bool.not_eq_true', Bool.not_eq_false'] at hg36
          refine l_y rfl rfl (y_move rfl) ?_
          refine l_y rfl rfl (y_nilCheck rfl rfl) ?_
          refine l_y rfl rfl (y_fldb (o' := 0) rfl) ?_
          refine l_y rfl rfl (D5 hO rfl) ?_
          refine l_y rfl rfl (y_move rfl) ?_
          refine l_y rfl rfl (y_idx rfl rfl) ?_
          refine l_y rfl rfl (y_fld (j' := 0) rfl) ?_
          refine l_y rfl rfl (y_e1 (x0 := 0) hO rfl) ?_
          refine Z0 (fun h3_13 => ?_) (fun h3_13 => ?_)
          · refine l_y rfl rfl (y_pick_f rfl rfl) ?_
            refine l_y rfl rfl (y_move rfl) ?_
            repeat refine M2 ?_
            refine l_y rfl rfl (y_pick_t rfl rfl) ?_
            refine K2 (K3 (L8 (K0 (K1 ?_))))
            refine l_y rfl rfl (y_assign rfl) ?_
            refine K2 (K3 (K6 (K9 ?_)))
            have e : linkL A up id before = (10, A) := by
              try rw [ki] at h3_13
              try rw [ki] at h3_24
              simp [linkL, *]
            exact fin1 rfl rfl ⟨_, ⟨by rw [e], _, rfl, kerr (by rw [e]; simp)⟩, (rarL_shut hF (hO.ks [.b r, .p p, .f])).one⟩
          · refine l_y rfl rfl (y_pick_f rfl rfl) ?_
            refine l_y rfl rfl (y_move rfl) ?_
            refine l_y rfl rfl (y_move rfl) ?_
            refine l_y rfl rfl (y_nilCheck rfl rfl) ?_
            refine l_y rfl rfl (y_fldb (o' := 0) rfl) ?_
            refine l_y rfl rfl (D5 hO rfl) ?_
            refine l_y rfl rfl (y_move rfl) ?_
            refine l_y rfl rfl (y_idx rfl rfl) ?_
            refine l_y rfl rfl (y_fld (j' := 0) rfl) ?_
            refine l_y rfl rfl (y_e1 (x0 := 0) hO rfl) ?_
            refine Z0 (fun h3_24 => ?_) (fun h3_24 => ?_)
            · refine l_y rfl rfl (y_pick_f rfl rfl) ?_
              refine K2 (K3 (L8 (K0 (K1 ?_))))
              refine l_y rfl rfl (y_assign rfl) ?_
              refine K2 (K3 (K6 (K9 ?_)))
              have e : linkL A up id before = (10, A) := by
                try rw [ki] at h3_13
                try rw [ki] at h3_24
                simp [linkL, *]
              exact fin1 rfl rfl ⟨_, ⟨by rw [e], _, rfl, kerr (by rw [e]; simp)⟩, (rarL_shut hF (hO.ks [.b r, .p p, .f])).one⟩
            · refine l_y rfl rfl (y_pick_f rfl rfl) ?_
              refine K2 (K3 (L9 (K5 (K3 (K0 (K0 (K1 ?_)))))))
              refine l_y rfl rfl (y_move rfl) ?_
              refine l_y rfl rfl (y_nilCheck rfl rfl) ?_
              refine l_y rfl rfl (y_fldb (o' := 0) rfl) ?_
              refine l_y rfl rfl (D5 hO rfl) ?_
              refine l_y rfl rfl (y_move rfl) ?_
              refine l_y rfl rfl (y_idx rfl rfl) ?_
              refine l_y rfl rfl (y_fld (j' := 8) rfl) ?_
              refine l_y rfl rfl (y_e1 (x0 := 8) hO rfl) ?_
              refine Z1 (fun h5_8 => ?_) (fun h5_8 => ?_)
              · refine l_y rfl rfl (y_move rfl) ?_
                repeat refine M2 ?_
                refine l_y rfl rfl (y_pick_t rfl rfl) ?_
                refine K2 (K3 (L8 (K0 (K1 ?_))))
                refine l_y rfl rfl (y_assign rfl) ?_
                refine K2 (K3 (K6 (K9 ?_)))
                have e : linkL A up id before = (11, A) := by
                  try rw [ki] at h3_13
                  try rw [ki] at h3_24
                  try rw [ui] at h5_8
                  simp [linkL, *]
                exact fin1 rfl rfl ⟨_, ⟨by rw [e], _, rfl, kerr (by rw [e]; simp)⟩, (rarL_shut hF (hO.ks [.b r, .p p, .f])).one⟩
              · refine l_y rfl rfl (y_move rfl) ?_
                refine l_y rfl rfl (y_move rfl) ?_
                refine l_y rfl rfl (y_move rfl) ?_
                refine l_y rfl rfl (y_move rfl) ?_
                refine CK [.b r, .p p] hO rfl (fun k' hx hr hO' => rAbove_spec s hg t.rank (hO := hO')) ?_
                rintro _ _ w ⟨rfl, rfl⟩ hO
                simp only [List.cons_append, List.nil_append] at hO
                refine l_y rfl rfl (y_pick_f rfl rfl) ?_
                refine K2 (K3 ?_)
                refine c_split rfl (fun hc72 => ?_) (fun hc72 => ?_)
                · refine K0 (K1 ?_)
                  refine l_y rfl rfl (y_assign rfl) ?_
                  refine K2 (K3 (K6 (K9 ?_)))
                  have e : linkL A up id before = (11, A) := by
                    try rw [ki] at h3_13
                    try rw [ki] at h3_24
                    try rw [ui] at h5_8
                    simp [linkL, *]
                  exact fin1 rfl rfl ⟨_, ⟨by rw [e], _, rfl, kerr (by rw [e]; simp)⟩, (rarL_shut hF (hO.ks [.b r, .p p, .f])).one⟩
                · refine K5 (K3 (K0 (K0 (K1 ?_))))
                  refine l_y rfl rfl (y_move rfl) ?_
                  refine Z1 (fun h7_1 => ?_) (fun h7_1 => ?_)
                  · first
                    | (exfalso; omega)
                    | skip
                      refine l_y rfl rfl (y_move rfl) ?_
                      refine l_y rfl rfl (y_move rfl) ?_
                      refine l_y rfl rfl (y_nilCheck rfl rfl) ?_
                      refine l_y rfl rfl (y_fldb (o' := 0) rfl) ?_
                      refine l_y rfl rfl (D5 hO rfl) ?_
                      refine l_y rfl rfl (y_move rfl) ?_
                      refine l_y rfl rfl (y_idx rfl rfl) ?_
                      refine l_y rfl rfl (y_fld (j' := 8) rfl) ?_
                      refine l_y rfl rfl (y_e1 (x0 := 8) hO rfl) ?_
                      refine l_y rfl rfl (y_move rfl) ?_
                      refine Z1 (fun h7_12 => ?_) (fun h7_12 => ?_)
                      · refine l_y rfl rfl (y_pick_t rfl rfl) ?_
                        refine K2 (K3 (L8 (K0 (K1 ?_))))
                        refine l_y rfl rfl (y_assign rfl) ?_
                        refine K2 (K3 (K6 (K9 ?_)))
                        have e : linkL A up id before = (1, A) := by
                          try rw [ki] at h3_13
                          try rw [ki] at h3_24
                          rw [ui] at h5_8
                          rw [ub] at h7_12
                          simp [linkL, *]
                        exact fin1 rfl rfl ⟨_, ⟨by rw [e], _, rfl, kerr (by rw [e]; simp)⟩, (rarL_shut hF (hO.ks [.b r, .p p, .f])).one⟩
                      · refine l_y rfl rfl (y_pick_t rfl rfl) ?_
                        refine K2 (K3 (L9 (K5 (K3 (K0 ?_)))))
                        have h0 : (linkL A up id before).1 = 0 := by
                          rw [ui] at h5_8
                          try rw [ub] at h7_12
                          rw [ki] at h3_13
                          try rw [ki] at h3_24
                          try rw [ki] at hc57
                          simp [linkL, *]
                        have hkk : (at_ R up.toNat).Kids.length ≤ 32768 := by
                          have := t.len (inA_iff.1 hg16)
                          rw [(s.atB hg16).kids]; omega
                        have hkids := (hF.atR (i := up.toNat) (by omega)).kids
                        have hgk := sli_gs hkids
                        have hO : Own k w (sls none 0 3 1 (eI .i64) ([] : List Int) :: _) := sl_nil 3 1 hO
                        refine K1 ?_
                        refine l_y rfl rfl (y_assign rfl) ?_
                        refine K2 (K3 (K0 (K1 ?_)))
                        refine l_y rfl rfl (y_move rfl) ?_
                        refine l_y rfl rfl (y_nilCheck rfl rfl) ?_
                        refine l_y rfl rfl (y_fldb (o' := 0) rfl) ?_
                        refine l_y rfl rfl (D5 hO rfl) ?_
                        refine l_y rfl rfl (y_move rfl) ?_
                        refine l_y rfl rfl (y_idx rfl rfl) ?_
                        refine l_y rfl rfl (y_fld (j' := 9) rfl) ?_
                        refine l_y rfl rfl (y_e1 (x0 := 9) hO rfl) ?_
                        refine l_y rfl rfl (y_assign rfl) ?_
                        refine K2 (K3 (K0 (K0 (K1 ?_))))
                        refine l_y rfl rfl (y_assign rfl) ?_
                        refine K2 (K3 (K4 ?_))
                        refine c_rounds (X := Nat × Option Addr × Nat × List Int) (fun x => [(0, .pointer (some ⟨r, 0, none⟩)), (1, .int .i64 up), (2, .int .i64 id), (3, .int .i64 before), (8, .int .i64 0), (9, .slice x.2.1 x.2.2.2.length x.2.2.1), (10, .slice (at_ R (up : Int).toNat).KidsP (at_ R (up : Int).toNat).Kids.length (at_ R (up : Int).toNat).KidsC), (11, .int .i64 (x.1 : Int))]) (fun x w => Own k w [rB r p R.length c, rS p c R, pool F, sls x.2.1 x.2.2.1 3 1 (eI .i64) x.2.2.2] ∧ (x.1 ≤ (at_ R up.toNat).Kids.length ∧ x.2.2.2 = insP id before ((at_ R up.toNat).Kids.take x.1))) (fun x => (at_ R up.toNat).Kids.length - x.1) ((0, none, 0, [])) ⟨rfl, rfl, rfl, rfl, rfl, rfl, rfl, rfl, trivial⟩ ⟨hO.only [.b r, .p p, .f, .p none], ⟨Nat.zero_le _, rfl⟩⟩ ?_
                        rintro x w m hm ⟨hO, hi⟩
                        have hxl : x.2.2.2.length ≤ 65536 := by
                          have h := insP_len (id := id) (before := before) (l := (at_ R up.toNat).Kids.take x.1)
                          rw [← hi.2, List.length_take] at h
                          omega
                        refine K0 (K0 (K1 ?_))
                        refine l_y rfl rfl (y_move rfl) ?_
                        refine l_y rfl rfl (y_move rfl) ?_
                        refine l_y rfl rfl (y_lenL rfl) ?_
                        refine Z0 (fun h12_3 => ?_) (fun h12_3 => ?_)
                        · refine K2 (K3 (L8 (K5 (K3 (K0 (K4 (K0 (K0 (K1 ?_)))))))))
                          refine l_y rfl rfl (y_move rfl) ?_
                          refine l_y rfl rfl (y_move rfl) ?_
                          refine l_y rfl rfl (y_idx rfl rfl) ?_
                          refine l_y rfl rfl (y_p1 (x0 := 0) (enc := (eI .i64)) (xs := (at_ R up.toNat).Kids) hO rfl) ?_
                          refine l_y rfl rfl (y_move rfl) ?_
                          refine Z0 (fun h14_5 => ?_) (fun h14_5 => ?_)
                          · refine K2 (K3 (L8 (K1 ?_)))
                            refine l_y rfl rfl (y_move rfl) ?_
                            refine l_y rfl rfl (y_move rfl) ?_
                            refine s_lit (parts := [(0, .tmp 108)]) (enc := (eI .i64)) [id] [.int .i64 id] hO rfl (fun b109 w hO => ?_)
                            refine s_app hO rfl rfl (src_own hO) (fun p110 c110 w hO gs110 => ?_)
                            refine l_y rfl rfl (y_assign rfl) ?_
                            refine K2 (K3 (K1 ?_))
                            refine l_y rfl rfl (y_move rfl) ?_
                            refine l_y rfl rfl (y_move rfl) ?_
                            refine l_y rfl rfl (y_move rfl) ?_
                            refine l_y rfl rfl (y_idx rfl rfl) ?_
                            refine l_y rfl rfl (y_p1 (x0 := 0) (enc := (eI .i64)) (xs := (at_ R up.toNat).Kids) hO rfl) ?_
                            refine s_lit (parts := [(0, .tmp 115)]) (enc := (eI .i64)) [(at_ (at_ R up.toNat).Kids ((x.1 : Int) : Int).toNat)] [.int .i64 (at_ (at_ R up.toNat).Kids ((x.1 : Int) : Int).toNat)] hO rfl (fun b116 w hO => ?_)
                            refine s_app hO rfl rfl (src_own hO) (fun p117 c117 w hO gs117 => ?_)
                            refine l_y rfl rfl (y_assign rfl) ?_
                            refine K2 (K8 (K3 (K1 ?_)))
                            refine l_y rfl rfl (y_move rfl) ?_
                            refine l_y rfl rfl (D4) ?_
                            refine l_y rfl rfl (y_assign rfl) ?_
                            refine K2 ?_
                            have hnl : ((x.2.2.2 ++ [id]) ++ [(at_ (at_ R up.toNat).Kids ((x.1 : Int) : Int).toNat)]) = insP id before ((at_ R up.toNat).Kids.take (x.1 + 1)) := by first | (rw [insP_succ (by omega), ← hi.2, if_pos (show at_ (at_ R up.toNat).Kids x.1 = before from h14_5)]; simp) | (rw [insP_succ (by omega), ← hi.2, if_neg (show ¬ at_ (at_ R up.toNat).Kids x.1 = before from h14_5)]; rfl)
                            exact q_next ((x.1 + 1, p117, c117, ((x.2.2.2 ++ [id]) ++ [(at_ (at_ R up.toNat).Kids ((x.1 : Int) : Int).toNat)]))) ⟨rfl, rfl, rfl, rfl, rfl, rfl, rfl, rfl, trivial⟩ ⟨hO.only [.b r, .p p, .f, .p p117], ⟨by dsimp only; omega, hnl⟩⟩ (by dsimp only; omega)
                          · refine K2 (K3 (L9 (K5 (K3 (K1 ?_)))))
                            refine l_y rfl rfl (y_move rfl) ?_
                            refine l_y rfl rfl (y_move rfl) ?_
                            refine l_y rfl rfl (y_move rfl) ?_
                            refine l_y rfl rfl (y_idx rfl rfl) ?_
                            refine l_y rfl rfl (y_p1 (x0 := 0) (enc := (eI .i64)) (xs := (at_ R up.toNat).Kids) hO rfl) ?_
                            refine s_lit (parts := [(0, .tmp 115)]) (enc := (eI .i64)) [(at_ (at_ R up.toNat).Kids ((x.1 : Int) : Int).toNat)] [.int .i64 (at_ (at_ R up.toNat).Kids ((x.1 : Int) : Int).toNat)] hO rfl (fun b116 w hO => ?_)
                            refine s_app hO rfl rfl (src_own hO) (fun p117 c117 w hO gs117 => ?_)
                            refine l_y rfl rfl (y_assign rfl) ?_
                            refine K2 (K8 (K3 (K1 ?_)))
                            refine l_y rfl rfl (y_move rfl) ?_
                            refine l_y rfl rfl (D4) ?_
                            refine l_y rfl rfl (y_assign rfl) ?_
                            refine K2 ?_
                            have hnl : (x.2.2.2 ++ [(at_ (at_ R up.toNat).Kids ((x.1 : Int) : Int).toNat)]) = insP id before ((at_ R up.toNat).Kids.take (x.1 + 1)) := by first | (rw [insP_succ (by omega), ← hi.2, if_pos (show at_ (at_ R up.toNat).Kids x.1 = before from h14_5)]; simp) | (rw [insP_succ (by omega), ← hi.2, if_neg (show ¬ at_ (at_ R up.toNat).Kids x.1 = before from h14_5)]; rfl)
                            exact q_next ((x.1 + 1, p117, c117, (x.2.2.2 ++ [(at_ (at_ R up.toNat).Kids ((x.1 : Int) : Int).toNat)]))) ⟨rfl, rfl, rfl, rfl, rfl, rfl, rfl, rfl, trivial⟩ ⟨hO.only [.b r, .p p, .f, .p p117], ⟨by dsimp only; omega, hnl⟩⟩ (by dsimp only; omega)
                        · refine K2 (K3 (L9 (K7 (L1 (L1 (L2 (K3 (K0 (K0 ?_)))))))))
                          have hxe : x.2.2.2 = insP id before (at_ R up.toNat).Kids := by rw [hi.2, List.take_of_length_le (by omega)]
                          refine K1 ?_
                          refine l_y rfl rfl (y_move rfl) ?_
                          refine Z0 (fun h17_1 => ?_) (fun h17_1 => ?_)
                          · first
                            | (exfalso; omega)
                            | skip
                              refine K2 (K3 (L8 (K1 ?_)))
                              refine l_y rfl rfl (y_move rfl) ?_
                              refine l_y rfl rfl (y_move rfl) ?_
                              refine s_lit (parts := [(0, .tmp 121)]) (enc := (eI .i64)) [id] [.int .i64 id] hO rfl (fun b122 w hO => ?_)
                              refine s_app hO rfl rfl (src_own hO) (fun p123 c123 w hO gs123 => ?_)
                              refine l_y rfl rfl (y_assign rfl) ?_
                              refine K2 (K3 (K0 ?_))
                              have hrow : (x.2.2.2 ++ [id]) = insB id before (at_ R up.toNat).Kids := by
                                rw [insB_P, ← hxe]
                                first | rw [if_pos h17_1] | rw [if_neg h17_1, List.append_nil]
                              obtain ⟨F2, hle, hO, hsa⟩ := (hO.ks [.p p123, .f]).pooled
                              refine K1 ?_
                              refine l_y rfl rfl (y_move rfl) ?_
                              refine l_y rfl rfl (y_nilCheck rfl rfl) ?_
                              refine l_y rfl rfl (y_fldb (o' := 0) rfl) ?_
                              refine l_y rfl rfl (D5 hO rfl) ?_
                              refine l_y rfl rfl (y_move rfl) ?_
                              refine l_y rfl rfl (y_move rfl) ?_
                              refine l_y rfl rfl (y_idx rfl rfl) ?_
                              refine l_y rfl rfl (y_fld (j' := 9) rfl) ?_
                              refine s_e1 (x0 := 9) hO rfl rfl (fun w hO => ?_)
                              refine K2 (K3 (K0 (K1 ?_)))
                              refine l_y rfl rfl (y_move rfl) ?_
                              refine l_y rfl rfl (y_nilCheck rfl rfl) ?_
                              refine l_y rfl rfl (y_fldb (o' := 0) rfl) ?_
                              refine l_y rfl rfl (D5 hO rfl) ?_
                              refine l_y rfl rfl (y_move rfl) ?_
                              refine l_y rfl rfl (y_move rfl) ?_
                              refine l_y rfl rfl (y_idx rfl rfl) ?_
                              refine l_y rfl rfl (y_fld (j' := 8) rfl) ?_
                              refine s_e1 (x0 := 8) hO rfl rfl (fun w hO => ?_)
                              refine K2 (K3 (K0 (K1 ?_)))
                              refine l_y rfl rfl (y_assign rfl) ?_
                              refine K2 (K3 (K6 ?_))
                              refine fin1 rfl rfl ⟨_, ⟨by rw [h0], _, rfl, ?_⟩, (rarL_shut ?_ (hO.ks [.b r, .p p, .f]) ?_).one⟩
                              · rw [linkKs, if_pos h0]; exact Sim.link' t s h0 hrow
                              · exact RF.up (RF.kids (hF.le hle) (by omega) hsa) (by rw [setKidsR_len]; omega)
                              · simp
                          · first
                            | (exfalso; omega)
                            | skip
                              refine K2 (K3 (L9 (K5 (K3 (K0 ?_)))))
                              have hrow : x.2.2.2 = insB id before (at_ R up.toNat).Kids := by
                                rw [insB_P, ← hxe]
                                first | rw [if_pos h17_1] | rw [if_neg h17_1, List.append_nil]
                              obtain ⟨F2, hle, hO, hsa⟩ := (hO.ks [.p x.2.1, .f]).pooled
                              refine K1 ?_
                              refine l_y rfl rfl (y_move rfl) ?_
                              refine l_y rfl rfl (y_nilCheck rfl rfl) ?_
                              refine l_y rfl rfl (y_fldb (o' := 0) rfl) ?_
                              refine l_y rfl rfl (D5 hO rfl) ?_
                              refine l_y rfl rfl (y_move rfl) ?_
                              refine l_y rfl rfl (y_move rfl) ?_
                              refine l_y rfl rfl (y_idx rfl rfl) ?_
                              refine l_y rfl rfl (y_fld (j' := 9) rfl) ?_
                              refine s_e1 (x0 := 9) hO rfl rfl (fun w hO => ?_)
                              refine K2 (K3 (K0 (K1 ?_)))
                              refine l_y rfl rfl (y_move rfl) ?_
                              refine l_y rfl rfl (y_nilCheck rfl rfl) ?_
                              refine l_y rfl rfl (y_fldb (o' := 0) rfl) ?_
                              refine l_y rfl rfl (D5 hO rfl) ?_
                              refine l_y rfl rfl (y_move rfl) ?_
                              refine l_y rfl rfl (y_move rfl) ?_
                              refine l_y rfl rfl (y_idx rfl rfl) ?_
                              refine l_y rfl rfl (y_fld (j' := 8) rfl) ?_
                              refine s_e1 (x0 := 8) hO rfl rfl (fun w hO => ?_)
                              refine K2 (K3 (K0 (K1 ?_)))
                              refine l_y rfl rfl (y_assign rfl) ?_
                              refine K2 (K3 (K6 ?_))
                              refine fin1 rfl rfl ⟨_, ⟨by rw [h0], _, rfl, ?_⟩, (rarL_shut ?_ (hO.ks [.b r, .p p, .f]) ?_).one⟩
                              · rw [linkKs, if_pos h0]; exact Sim.link' t s h0 hrow
                              · exact RF.up (RF.kids (hF.le hle) (by omega) hsa) (by rw [setKidsR_len]; omega)
                              · simp
                  · first
                    | (exfalso; omega)
                    | skip
                      refine l_y rfl rfl (y_move rfl) ?_
                      repeat refine M2 ?_
                      refine l_y rfl rfl (y_pick_f rfl rfl) ?_
                      refine K2 (K3 (L9 (K5 (K3 (K0 ?_)))))
                      have h0 : (linkL A up id before).1 = 0 := by
                        rw [ui] at h5_8
                        try rw [ub] at h7_12
                        rw [ki] at h3_13
                        try rw [ki] at h3_24
                        try rw [ki] at hc57
                        simp [linkL, *]
                      have hkk : (at_ R up.toNat).Kids.length ≤ 32768 := by
                        have := t.len (inA_iff.1 hg16)
                        rw [(s.atB hg16).kids]; omega
                      have hkids := (hF.atR (i := up.toNat) (by omega)).kids
                      have hgk := sli_gs hkids
                      have hO : Own k w (sls none 0 3 1 (eI .i64) ([] : List Int) :: _) := sl_nil 3 1 hO
                      refine K1 ?_
                      refine l_y rfl rfl (y_assign rfl) ?_
                      refine K2 (K3 (K0 (K1 ?_)))
                      refine l_y rfl rfl (y_move rfl) ?_
                      refine l_y rfl rfl (y_nilCheck rfl rfl) ?_
                      refine l_y rfl rfl (y_fldb (o' := 0) rfl) ?_
                      refine l_y rfl rfl (D5 hO rfl) ?_
                      refine l_y rfl rfl (y_move rfl) ?_
                      refine l_y rfl rfl (y_idx rfl rfl) ?_
                      refine l_y rfl rfl (y_fld (j' := 9) rfl) ?_
                      refine l_y rfl rfl (y_e1 (x0 := 9) hO rfl) ?_
                      refine l_y rfl rfl (y_assign rfl) ?_
                      refine K2 (K3 (K0 (K0 (K1 ?_))))
                      refine l_y rfl rfl (y_assign rfl) ?_
                      refine K2 (K3 (K4 ?_))
                      refine c_rounds (X := Nat × Option Addr × Nat × List Int) (fun x => [(0, .pointer (some ⟨r, 0, none⟩)), (1, .int .i64 up), (2, .int .i64 id), (3, .int .i64 before), (8, .int .i64 0), (9, .slice x.2.1 x.2.2.2.length x.2.2.1), (10, .slice (at_ R (up : Int).toNat).KidsP (at_ R (up : Int).toNat).Kids.length (at_ R (up : Int).toNat).KidsC), (11, .int .i64 (x.1 : Int))]) (fun x w => Own k w [rB r p R.length c, rS p c R, pool F, sls x.2.1 x.2.2.1 3 1 (eI .i64) x.2.2.2] ∧ (x.1 ≤ (at_ R up.toNat).Kids.length ∧ x.2.2.2 = insP id before ((at_ R up.toNat).Kids.take x.1))) (fun x => (at_ R up.toNat).Kids.length - x.1) ((0, none, 0, [])) ⟨rfl, rfl, rfl, rfl, rfl, rfl, rfl, rfl, trivial⟩ ⟨hO.only [.b r, .p p, .f, .p none], ⟨Nat.zero_le _, rfl⟩⟩ ?_
                      rintro x w m hm ⟨hO, hi⟩
                      have hxl : x.2.2.2.length ≤ 65536 := by
                        have h := insP_len (id := id) (before := before) (l := (at_ R up.toNat).Kids.take x.1)
                        rw [← hi.2, List.length_take] at h
                        omega
                      refine K0 (K0 (K1 ?_))
                      refine l_y rfl rfl (y_move rfl) ?_
                      refine l_y rfl rfl (y_move rfl) ?_
                      refine l_y rfl rfl (y_lenL rfl) ?_
                      refine Z0 (fun h12_3 => ?_) (fun h12_3 => ?_)
                      · refine K2 (K3 (L8 (K5 (K3 (K0 (K4 (K0 (K0 (K1 ?_)))))))))
                        refine l_y rfl rfl (y_move rfl) ?_
                        refine l_y rfl rfl (y_move rfl) ?_
                        refine l_y rfl rfl (y_idx rfl rfl) ?_
                        refine l_y rfl rfl (y_p1 (x0 := 0) (enc := (eI .i64)) (xs := (at_ R up.toNat).Kids) hO rfl) ?_
                        refine l_y rfl rfl (y_move rfl) ?_
                        refine Z0 (fun h14_5 => ?_) (fun h14_5 => ?_)
                        · refine K2 (K3 (L8 (K1 ?_)))
                          refine l_y rfl rfl (y_move rfl) ?_
                          refine l_y rfl rfl (y_move rfl) ?_
                          refine s_lit (parts := [(0, .tmp 108)]) (enc := (eI .i64)) [id] [.int .i64 id] hO rfl (fun b109 w hO => ?_)
                          refine s_app hO rfl rfl (src_own hO) (fun p110 c110 w hO gs110 => ?_)
                          refine l_y rfl rfl (y_assign rfl) ?_
                          refine K2 (K3 (K1 ?_))
                          refine l_y rfl rfl (y_move rfl) ?_
                          refine l_y rfl rfl (y_move rfl) ?_
                          refine l_y rfl rfl (y_move rfl) ?_
                          refine l_y rfl rfl (y_idx rfl rfl) ?_
                          refine l_y rfl rfl (y_p1 (x0 := 0) (enc := (eI .i64)) (xs := (at_ R up.toNat).Kids) hO rfl) ?_
                          refine s_lit (parts := [(0, .tmp 115)]) (enc := (eI .i64)) [(at_ (at_ R up.toNat).Kids ((x.1 : Int) : Int).toNat)] [.int .i64 (at_ (at_ R up.toNat).Kids ((x.1 : Int) : Int).toNat)] hO rfl (fun b116 w hO => ?_)
                          refine s_app hO rfl rfl (src_own hO) (fun p117 c117 w hO gs117 => ?_)
                          refine l_y rfl rfl (y_assign rfl) ?_
                          refine K2 (K8 (K3 (K1 ?_)))
                          refine l_y rfl rfl (y_move rfl) ?_
                          refine l_y rfl rfl (D4) ?_
                          refine l_y rfl rfl (y_assign rfl) ?_
                          refine K2 ?_
                          have hnl : ((x.2.2.2 ++ [id]) ++ [(at_ (at_ R up.toNat).Kids ((x.1 : Int) : Int).toNat)]) = insP id before ((at_ R up.toNat).Kids.take (x.1 + 1)) := by first | (rw [insP_succ (by omega), ← hi.2, if_pos (show at_ (at_ R up.toNat).Kids x.1 = before from h14_5)]; simp) | (rw [insP_succ (by omega), ← hi.2, if_neg (show ¬ at_ (at_ R up.toNat).Kids x.1 = before from h14_5)]; rfl)
                          exact q_next ((x.1 + 1, p117, c117, ((x.2.2.2 ++ [id]) ++ [(at_ (at_ R up.toNat).Kids ((x.1 : Int) : Int).toNat)]))) ⟨rfl, rfl, rfl, rfl, rfl, rfl, rfl, rfl, trivial⟩ ⟨hO.only [.b r, .p p, .f, .p p117], ⟨by dsimp only; omega, hnl⟩⟩ (by dsimp only; omega)
                        · refine K2 (K3 (L9 (K5 (K3 (K1 ?_)))))
                          refine l_y rfl rfl (y_move rfl) ?_
                          refine l_y rfl rfl (y_move rfl) ?_
                          refine l_y rfl rfl (y_move rfl) ?_
                          refine l_y rfl rfl (y_idx rfl rfl) ?_
                          refine l_y rfl rfl (y_p1 (x0 := 0) (enc := (eI .i64)) (xs := (at_ R up.toNat).Kids) hO rfl) ?_
                          refine s_lit (parts := [(0, .tmp 115)]) (enc := (eI .i64)) [(at_ (at_ R up.toNat).Kids ((x.1 : Int) : Int).toNat)] [.int .i64 (at_ (at_ R up.toNat).Kids ((x.1 : Int) : Int).toNat)] hO rfl (fun b116 w hO => ?_)
                          refine s_app hO rfl rfl (src_own hO) (fun p117 c117 w hO gs117 => ?_)
                          refine l_y rfl rfl (y_assign rfl) ?_
                          refine K2 (K8 (K3 (K1 ?_)))
                          refine l_y rfl rfl (y_move rfl) ?_
                          refine l_y rfl rfl (D4) ?_
                          refine l_y rfl rfl (y_assign rfl) ?_
                          refine K2 ?_
                          have hnl : (x.2.2.2 ++ [(at_ (at_ R up.toNat).Kids ((x.1 : Int) : Int).toNat)]) = insP id before ((at_ R up.toNat).Kids.take (x.1 + 1)) := by first | (rw [insP_succ (by omega), ← hi.2, if_pos (show at_ (at_ R up.toNat).Kids x.1 = before from h14_5)]; simp) | (rw [insP_succ (by omega), ← hi.2, if_neg (show ¬ at_ (at_ R up.toNat).Kids x.1 = before from h14_5)]; rfl)
                          exact q_next ((x.1 + 1, p117, c117, (x.2.2.2 ++ [(at_ (at_ R up.toNat).Kids ((x.1 : Int) : Int).toNat)]))) ⟨rfl, rfl, rfl, rfl, rfl, rfl, rfl, rfl, trivial⟩ ⟨hO.only [.b r, .p p, .f, .p p117], ⟨by dsimp only; omega, hnl⟩⟩ (by dsimp only; omega)
                      · refine K2 (K3 (L9 (K7 (L1 (L1 (L2 (K3 (K0 (K0 ?_)))))))))
                        have hxe : x.2.2.2 = insP id before (at_ R up.toNat).Kids := by rw [hi.2, List.take_of_length_le (by omega)]
                        refine K1 ?_
                        refine l_y rfl rfl (y_move rfl) ?_
                        refine Z0 (fun h17_1 => ?_) (fun h17_1 => ?_)
                        · first
                          | (exfalso; omega)
                          | skip
                            refine K2 (K3 (L8 (K1 ?_)))
                            refine l_y rfl rfl (y_move rfl) ?_
                            refine l_y rfl rfl (y_move rfl) ?_
                            refine s_lit (parts := [(0, .tmp 121)]) (enc := (eI .i64)) [id] [.int .i64 id] hO rfl (fun b122 w hO => ?_)
                            refine s_app hO rfl rfl (src_own hO) (fun p123 c123 w hO gs123 => ?_)
                            refine l_y rfl rfl (y_assign rfl) ?_
                            refine K2 (K3 (K0 ?_))
                            have hrow : (x.2.2.2 ++ [id]) = insB id before (at_ R up.toNat).Kids := by
                              rw [insB_P, ← hxe]
                              first | rw [if_pos h17_1] | rw [if_neg h17_1, List.append_nil]
                            obtain ⟨F2, hle, hO, hsa⟩ := (hO.ks [.p p123, .f]).pooled
                            refine K1 ?_
                            refine l_y rfl rfl (y_move rfl) ?_
                            refine l_y rfl rfl (y_nilCheck rfl rfl) ?_
                            refine l_y rfl rfl (y_fldb (o' := 0) rfl) ?_
                            refine l_y rfl rfl (D5 hO rfl) ?_
                            refine l_y rfl rfl (y_move rfl) ?_
                            refine l_y rfl rfl (y_move rfl) ?_
                            refine l_y rfl rfl (y_idx rfl rfl) ?_
                            refine l_y rfl rfl (y_fld (j' := 9) rfl) ?_
                            refine s_e1 (x0 := 9) hO rfl rfl (fun w hO => ?_)
                            refine K2 (K3 (K0 (K1 ?_)))
                            refine l_y rfl rfl (y_move rfl) ?_
                            refine l_y rfl rfl (y_nilCheck rfl rfl) ?_
                            refine l_y rfl rfl (y_fldb (o' := 0) rfl) ?_
                            refine l_y rfl rfl (D5 hO rfl) ?_
                            refine l_y rfl rfl (y_move rfl) ?_
                            refine l_y rfl rfl (y_move rfl) ?_
                            refine l_y rfl rfl (y_idx rfl rfl) ?_
                            refine l_y rfl rfl (y_fld (j' := 8) rfl) ?_
                            refine s_e1 (x0 := 8) hO rfl rfl (fun w hO => ?_)
                            refine K2 (K3 (K0 (K1 ?_)))
                            refine l_y rfl rfl (y_assign rfl) ?_
                            refine K2 (K3 (K6 ?_))
                            refine fin1 rfl rfl ⟨_, ⟨by rw [h0], _, rfl, ?_⟩, (rarL_shut ?_ (hO.ks [.b r, .p p, .f]) ?_).one⟩
                            · rw [linkKs, if_pos h0]; exact Sim.link' t s h0 hrow
                            · exact RF.up (RF.kids (hF.le hle) (by omega) hsa) (by rw [setKidsR_len]; omega)
                            · simp
                        · first
                          | (exfalso; omega)
                          | skip
                            refine K2 (K3 (L9 (K5 (K3 (K0 ?_)))))
                            have hrow : x.2.2.2 = insB id before (at_ R up.toNat).Kids := by
                              rw [insB_P, ← hxe]
                              first | rw [if_pos h17_1] | rw [if_neg h17_1, List.append_nil]
                            obtain ⟨F2, hle, hO, hsa⟩ := (hO.ks [.p x.2.1, .f]).pooled
                            refine K1 ?_
                            refine l_y rfl rfl (y_move rfl) ?_
                            refine l_y rfl rfl (y_nilCheck rfl rfl) ?_
                            refine l_y rfl rfl (y_fldb (o' := 0) rfl) ?_
                            refine l_y rfl rfl (D5 hO rfl) ?_
                            refine l_y rfl rfl (y_move rfl) ?_
                            refine l_y rfl rfl (y_move rfl) ?_
                            refine l_y rfl rfl (y_idx rfl rfl) ?_
                            refine l_y rfl rfl (y_fld (j' := 9) rfl) ?_
                            refine s_e1 (x0 := 9) hO rfl rfl (fun w hO => ?_)
                            refine K2 (K3 (K0 (K1 ?_)))
                            refine l_y rfl rfl (y_move rfl) ?_
                            refine l_y rfl rfl (y_nilCheck rfl rfl) ?_
                            refine l_y rfl rfl (y_fldb (o' := 0) rfl) ?_
                            refine l_y rfl rfl (D5 hO rfl) ?_
                            refine l_y rfl rfl (y_move rfl) ?_
                            refine l_y rfl rfl (y_move rfl) ?_
                            refine l_y rfl rfl (y_idx rfl rfl) ?_
                            refine l_y rfl rfl (y_fld (j' := 8) rfl) ?_
                            refine s_e1 (x0 := 8) hO rfl rfl (fun w hO => ?_)
                            refine K2 (K3 (K0 (K1 ?_)))
                            refine l_y rfl rfl (y_assign rfl) ?_
                            refine K2 (K3 (K6 ?_))
                            refine fin1 rfl rfl ⟨_, ⟨by rw [h0], _, rfl, ?_⟩, (rarL_shut ?_ (hO.ks [.b r, .p p, .f]) ?_).one⟩
                            · rw [linkKs, if_pos h0]; exact Sim.link' t s h0 hrow
                            · exact RF.up (RF.kids (hF.le hle) (by omega) hsa) (by rw [setKidsR_len]; omega)
                            · simp
end Go.Proofs.Ythkmnohghpdjhaa
