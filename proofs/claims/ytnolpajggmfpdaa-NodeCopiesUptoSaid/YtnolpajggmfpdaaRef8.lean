/- The walks of the answer's arena beside the program's: what is told of a node; no condition. -/
import Derived.Test.YtnolpajggmfpdaaLinks
set_option linter.unusedVariables false
set_option linter.unusedSimpArgs false
set_option maxRecDepth 100000
namespace Go.Proofs.Ytnolpajggmfpdaa
open Go Go.Hb Go.RowKit
theorem rplace_spec {k : Ctx} {w : World} {r : Nat} {R : List Ref01_one} {p : Option Addr} {c : Nat} {F : Pl} {id up : Int} {pre suf : List Int} (hg : Gs p R.length) (hF : RF F R) (h0 : 0 ≤ id) (h1 : id < R.length) (hue : (at_ R id.toNat).Up = up) (hu0 : 0 ≤ up) (hu1 : up < R.length)
    (hrow : (at_ R up.toNat).Kids = pre ++ id :: suf) (hni : id ∉ pre) (hlen : (at_ R up.toNat).Kids.length ≤ 1000000) (hO : Own k w [rB r p R.length c, rS p c R, pool F]) :
    Tri Try.prog 65 #[.pointer (some ⟨r, 0, none⟩), .int .i64 id] k w fun v m => v = .int .i64 (pre.length : Int) ∧ m = [rB r p R.length c, rS p c R, pool F] := by
  refine enter (args := [.pointer (some ⟨r, 0, none⟩), .int .i64 id]) Try.func65 rfl rfl ?_
  subst hue
  have hkids := (hF.atR (i := ((at_ R id.toNat).Up).toNat) (by omega)).kids
  have hgk := sli_gs hkids
  have hpl : pre.length < (at_ R ((at_ R id.toNat).Up).toNat).Kids.length := by rw [hrow]; simp
  have hat : at_ (at_ R ((at_ R id.toNat).Up).toNat).Kids pre.length = id := by rw [hrow, at_app_r (Nat.le_refl _), Nat.sub_self, at_cons_zero]
  refine K0 (K1 ?_)
  refine l_y rfl rfl (y_assign rfl) ?_
  refine K2 (K3 (K0 ?_))
  refine da_region (by intro c a d v w h; cases d <;> exact h) ?_
  have hO := hO.drew
  refine da_phase _ [] (SO.ks [.b r, .p p] hO) ?_
  refine dx_u 0 (by kernel_rfl) rfl rfl rfl (fun w => y_move rfl) ?_
  refine dx_u 1 (by kernel_rfl) rfl rfl rfl (fun w => y_nilCheck rfl rfl) ?_
  refine dx_u 2 (by kernel_rfl) rfl rfl rfl (fun w => y_fldb (o' := 0) rfl) ?_
  refine dx_y 3 (by kernel_rfl) rfl rfl rfl (fun w ⟨m, hw⟩ => D5 hw rfl) ?_
  refine dx_u 4 (by kernel_rfl) rfl rfl rfl (fun w => y_move rfl) ?_
  refine dx_u 5 (by kernel_rfl) rfl rfl rfl (fun w => y_nilCheck rfl rfl) ?_
  refine dx_u 6 (by kernel_rfl) rfl rfl rfl (fun w => y_fldb (o' := 0) rfl) ?_
  refine dx_y 7 (by kernel_rfl) rfl rfl rfl (fun w ⟨m, hw⟩ => D5 hw rfl) ?_
  refine dx_u 8 (by kernel_rfl) rfl rfl rfl (fun w => y_move rfl) ?_
  refine dx_u 9 (by kernel_rfl) rfl rfl rfl (fun w => y_idx rfl rfl) ?_
  refine dx_u 10 (by kernel_rfl) rfl rfl rfl (fun w => y_fld (j' := 8) rfl) ?_
  refine dx_y 11 (by kernel_rfl) rfl rfl rfl (fun w ⟨m, hw⟩ => y_e1 (x0 := 8) hw rfl) ?_
  refine dx_u 12 (by kernel_rfl) rfl rfl rfl (fun w => y_idx rfl rfl) ?_
  refine dx_u 13 (by kernel_rfl) rfl rfl rfl (fun w => y_fld (j' := 9) rfl) ?_
  refine dx_y 14 (by kernel_rfl) rfl rfl rfl (fun w ⟨m, hw⟩ => y_e1 (x0 := 9) hw rfl) ?_
  refine dx_u 15 (by kernel_rfl) rfl rfl rfl (fun w => y_assign rfl) ?_
  refine dx_end (by kernel_rfl) ?_
  refine K3 (K0 (K0 ?_))
  skip
  refine K1 ?_
  refine l_y rfl rfl (y_assign rfl) ?_
  refine K2 (K3 (K4 ?_))
  refine c_rounds (X := Nat) (fun j => [(1, .int .i64 id), (4, .int .i64 0), (5, .slice (at_ R ((at_ R (id : Int).toNat).Up : Int).toNat).KidsP (at_ R ((at_ R (id : Int).toNat).Up : Int).toNat).Kids.length (at_ R ((at_ R (id : Int).toNat).Up : Int).toNat).KidsC), (6, .int .i64 (j : Int))]) (fun j w => Own k w [rB r p R.length c, rS p c R, pool F] ∧ (j ≤ pre.length)) (fun j => pre.length - j) (0) ⟨rfl, rfl, rfl, rfl, trivial⟩ ⟨hO.only [.b r, .p p, .f], Nat.zero_le _⟩ ?_
  rintro j w m hm ⟨hO, hj⟩
  refine K0 (K0 (K1 ?_))
  refine l_y rfl rfl (y_move rfl) ?_
  refine l_y rfl rfl (y_move rfl) ?_
  refine l_y rfl rfl (y_lenL rfl) ?_
  refine Z0 (fun h3_3 => ?_) (fun h3_3 => ?_)
  · refine K2 (K3 (L8 (K5 (K3 (K0 (K4 (K0 (K1 ?_))))))))
    refine l_y rfl rfl (y_move rfl) ?_
    refine l_y rfl rfl (y_move rfl) ?_
    refine l_y rfl rfl (y_idx rfl rfl) ?_
    refine l_y rfl rfl (y_p1 (x0 := 0) (enc := (eI .i64)) (xs := (at_ R ((at_ R id.toNat).Up).toNat).Kids) hO rfl) ?_
    refine l_y rfl rfl (y_move rfl) ?_
    refine Z0 (fun h5_5 => ?_) (fun h5_5 => ?_)
    · refine K2 (K3 (L8 (K0 (K1 ?_))))
      refine l_y rfl rfl (y_move rfl) ?_
      refine l_y rfl rfl (y_assign rfl) ?_
      refine K2 (K3 (K6 (L0 (K9 (K9 (L0 (K9 ?_)))))))
      have he : j = pre.length := by
        by_cases e : j < pre.length
        · have h2 : at_ pre j = id := by
            rw [← h5_5, hrow]
            exact (at_app_l e).symm
          exact absurd (h2 ▸ at_mem e) hni
        · omega
      exact fin1 rfl rfl ⟨_, ⟨by rw [he], rfl⟩, hO⟩
    · refine K2 (K3 (L9 (K5 (K8 (K3 (K1 ?_))))))
      refine l_y rfl rfl (y_move rfl) ?_
      refine l_y rfl rfl (D4) ?_
      refine l_y rfl rfl (y_assign rfl) ?_
      refine K2 ?_
      have hne : j ≠ pre.length := fun e => h5_5 (by rw [e]; exact hat)
      exact q_next (j + 1) ⟨rfl, rfl, rfl, rfl, trivial⟩ ⟨hO.only [.b r, .p p, .f], by omega⟩ (by omega)
  · refine K2 (K3 (L9 (K7 (L1 (L1 (L2 (K3 (K0 (K1 ?_)))))))))
    refine l_y rfl rfl (y_assign rfl) ?_
    refine K2 (K3 (K6 ?_))
    exfalso
    omega
theorem last_at {pre l : List Int} {id : Int} {suf : List Int} (h : l = pre ++ id :: suf) : (0 < (pre.length : Int) → lastL pre = at_ l ((pre.length : Int) - 1).toNat) ∧ (¬ 0 < (pre.length : Int) → lastL pre = -1) := by
  subst h
  constructor
  · intro h
    have e : ((pre.length : Int) - 1).toNat = pre.length - 1 := by omega
    rw [e, at_app_l (by omega)]
    have := lastL_take (l := pre) (j := pre.length - 1) (by omega)
    rwa [show pre.length - 1 + 1 = pre.length by omega, List.take_length] at this
  · intro h
    have : pre = [] := List.eq_nil_of_length_eq_zero (by omega)
    subst this; rfl
theorem next_at {pre l : List Int} {id : Int} {suf : List Int} (h : l = pre ++ id :: suf) : ((pre.length : Int) + 1 < (l.length : Int) → headL suf = at_ l ((pre.length : Int) + 1).toNat) ∧ (¬ (pre.length : Int) + 1 < (l.length : Int) → headL suf = -1) := by
  subst h
  constructor
  · intro h
    have e : ((pre.length : Int) + 1).toNat = pre.length + 1 := by omega
    rw [e, at_app_r (by omega), show pre.length + 1 - pre.length = 1 by omega]
    cases suf with
    | nil => simp at h
    | cons y suf => rfl
  · intro h
    cases suf with
    | nil => rfl
    | cons y suf => simp at h; omega
theorem ends_at {l : List Int} : (0 < (l.length : Int) → headL l = at_ l (0 : Int).toNat ∧ lastL l = at_ l ((l.length : Int) - 1).toNat) ∧ (¬ 0 < (l.length : Int) → headL l = -1 ∧ lastL l = -1) := by
  constructor
  · intro h
    refine ⟨?_, ?_⟩
    · cases l with
      | nil => simp at h
      | cons y l => rfl
    · have e : ((l.length : Int) - 1).toNat = l.length - 1 := by omega
      have := lastL_take (l := l) (j := l.length - 1) (by omega)
      rw [show l.length - 1 + 1 = l.length by omega, List.take_length] at this
      rw [e, this]
  · intro h
    have : l = [] := List.eq_nil_of_length_eq_zero (by omega)
    subst this; exact ⟨rfl, rfl⟩
theorem cells_eq {a : Node_one} {ks : List Int} {o : Ref01_one} (s : Sim1 a ks o) {q : Option Addr} {d : Nat} {f la pv nx : Int} (h1 : f = a.Node.First) (h2 : la = a.Node.Last) (h3 : pv = a.Node.Prev) (h4 : nx = a.Node.Next) :
    [Value.int .i64 o.Kind, .int .i64 o.Space, .string o.Name, .slice q o.Attrs.length d, .string o.Data, .string o.System, .int .i64 o.Up, .int .i64 f, .int .i64 la, .int .i64 pv, .int .i64 nx, .int .i64 o.Inner] = Api_node.cells (ownN a.Node q d) := by
  subst h1 h2 h3 h4
  rw [s.kind, s.space, s.name, s.attrs, s.data, s.system, s.up, s.inner]; rfl
set_option maxHeartbeats 8000000 in
theorem rNode_spec {k : Ctx} {w : World} {r : Nat} {A : List Node_one} {K : Int → List Int} {R : List Ref01_one} {id : Int} (t : Tree A K) (s : Sim A K R) (hmax : A.length ≤ 32768) (hO : Own k w [rarL r R]) :
    Tri Try.prog 50 #[.pointer (some ⟨r, 0, none⟩), .int .i64 id] k w fun v m =>
      (hasB A id = false ∧ v = .tuple #[.agg (Api_node.cells default).toArray, .int .i64 6] ∧ m = [rarL r R]) ∨
      (hasB A id = true ∧ ∃ q d, v = .tuple #[.agg (Api_node.cells (ownN (at_ A id.toNat).Node q d)).toArray, .int .i64 0] ∧ m = [rarL r R, sls q d 24 4 Api_attr.cells (at_ A id.toNat).Node.Attrs]) := by
  refine enter (args := [.pointer (some ⟨r, 0, none⟩), .int .i64 id]) Try.func50 rfl rfl ?_
  obtain ⟨p, c, F, hg, hF, hO⟩ := rarL_open hO
  have hl := s.len
  refine K0 (K1 ?_)
  refine s_alloc (vs := [.int .i64 0, .int .i64 0, .string ⟨#[]⟩, .slice none 0 0, .string ⟨#[]⟩, .string ⟨#[]⟩, .int .i64 0, .int .i64 0, .int .i64 0, .int .i64 0, .int .i64 0, .int .i64 0]) hO rfl rfl rfl fun b4 w hO => ?_
  refine l_y rfl rfl (y_assign rfl) ?_
  refine K2 (K3 (K0 (K0 (K1 ?_))))
  refine l_y rfl rfl (y_move rfl) ?_
  refine l_y rfl rfl (y_move rfl) ?_
  refine CK [.b r, .p p] hO rfl (fun k' hx hr hO' => IsA_spec s (hO := hO')) ?_
  rintro _ _ w ⟨rfl, rfl⟩ hO
  simp only [List.cons_append, List.nil_append] at hO
  refine l_y rfl rfl (y_not rfl rfl) ?_
  refine K2 (K3 ?_)
  refine c_split rfl (fun hc13 => ?_) (fun hc13 => ?_)
  · simp only [Bool.not_eq_true', Bool.not_eq_false'] at hc13
    refine K0 (K1 ?_)
    refine s_build (parts := []) (cs := [.int .i64 0, .int .i64 0, .string ⟨#[]⟩, .slice none 0 0, .string ⟨#[]⟩, .string ⟨#[]⟩, .int .i64 0, .int .i64 0, .int .i64 0, .int .i64 0, .int .i64 0, .int .i64 0]) rfl rfl (fun a ha => partsOf_sound ha _ _ rfl) (by kernel_rfl) ?_
    refine Y3 hO rfl rfl (fun w hO => ?_)
    refine l_y rfl rfl (y_assign rfl) ?_
    refine K2 (K3 (K6 (K9 ?_)))
    exact finC1 hO rfl rfl rfl ⟨_, .inl ⟨hc13, rfl, rfl⟩, (rarL_shut hF (hO.ks [.b r, .p p, .f])).one⟩
  · simp only [Bool.not_eq_true', Bool.not_eq_false'] at hc13
    refine K5 (K3 (K0 ?_))
    have hid := hasB_true hc13
    have hiA := inA_iff.1 hc13
    have s1 := s.atB hc13
    have hal : (at_ R id.toNat).Attrs.length ≤ 1024 := by rw [s1.attrs]; exact t.attrs _ (by omega)
    have hat := (hF.atR (i := id.toNat) (by omega)).attrs
    have hga := sli_gs hat
    have hkids := (hF.atR (i := id.toNat) (by omega)).kids
    have hgk := sli_gs hkids
    have hkl := t.len hiA
    rw [← s1.kids] at hkl
    have hL := t.lnk id hiA
    have he := ends_at (l := (at_ R id.toNat).Kids)
    rw [s1.kids, ← hL.first, ← hL.last, ← s1.kids] at he
    refine K1 ?_
    refine l_y rfl rfl (y_move rfl) ?_
    refine l_y rfl rfl (y_nilCheck rfl rfl) ?_
    refine l_y rfl rfl (y_fldb (o' := 0) rfl) ?_
    refine l_y rfl rfl (D5 hO rfl) ?_
    refine l_y rfl rfl (y_move rfl) ?_
    refine l_y rfl rfl (y_idx rfl rfl) ?_
    refine l_y rfl rfl (y_eA (x0 := 0) (cs := [.int .i64 (at_ R (id : Int).toNat).Kind, .int .i64 (at_ R (id : Int).toNat).Space, .string (at_ R (id : Int).toNat).Name, .slice (at_ R (id : Int).toNat).AttrsP (at_ R (id : Int).toNat).Attrs.length (at_ R (id : Int).toNat).AttrsC, .string (at_ R (id : Int).toNat).Data, .string (at_ R (id : Int).toNat).System, .int .i64 (at_ R (id : Int).toNat).Inner, .int .i64 (at_ R (id : Int).toNat).Host, .int .i64 (at_ R (id : Int).toNat).Up, .slice (at_ R (id : Int).toNat).KidsP (at_ R (id : Int).toNat).Kids.length (at_ R (id : Int).toNat).KidsC]) hO rfl) ?_
    refine s_alloc (vs := [.int .i64 0, .int .i64 0, .string ⟨#[]⟩, .slice none 0 0, .string ⟨#[]⟩, .string ⟨#[]⟩, .int .i64 0, .int .i64 0, .int .i64 0, .slice none 0 0]) hO rfl rfl rfl fun b6 w hO => ?_
    refine Y3 hO rfl rfl (fun w hO => ?_)
    refine K2 (K3 (K0 ?_))
    refine da_region (by intro c a d v w h; cases d <;> exact h) ?_
    have hO := hO.drew
    refine da_phase _ [20] (SO.ks [.b b6] hO) ?_
    refine dx_u 0 (by kernel_rfl) rfl rfl rfl (fun w => y_fldb (o' := 0) rfl) ?_
    refine dx_y 1 (by kernel_rfl) rfl rfl rfl (fun w ⟨m, hw⟩ => D5 hw rfl) ?_
    refine dx_u 2 (by kernel_rfl) rfl rfl rfl (fun w => y_fldb (o' := 1) rfl) ?_
    refine dx_y 3 (by kernel_rfl) rfl rfl rfl (fun w ⟨m, hw⟩ => D5 hw rfl) ?_
    refine dx_u 4 (by kernel_rfl) rfl rfl rfl (fun w => y_fldb (o' := 2) rfl) ?_
    refine dx_y 5 (by kernel_rfl) rfl rfl rfl (fun w ⟨m, hw⟩ => D5 hw rfl) ?_
    refine dx_u 7 (by kernel_rfl) rfl rfl rfl (fun w => y_fldb (o' := 3) rfl) ?_
    refine dx_y 8 (by kernel_rfl) rfl rfl rfl (fun w ⟨m, hw⟩ => D5 hw rfl) ?_
    refine dx_u 10 (by kernel_rfl) rfl rfl rfl (fun w => y_fldb (o' := 4) rfl) ?_
    refine dx_y 11 (by kernel_rfl) rfl rfl rfl (fun w ⟨m, hw⟩ => D5 hw rfl) ?_
    refine dx_u 12 (by kernel_rfl) rfl rfl rfl (fun w => y_fldb (o' := 5) rfl) ?_
    refine dx_y 13 (by kernel_rfl) rfl rfl rfl (fun w ⟨m, hw⟩ => D5 hw rfl) ?_
    refine dx_u 14 (by kernel_rfl) rfl rfl rfl (fun w => y_fldb (o' := 8) rfl) ?_
    refine dx_y 15 (by kernel_rfl) rfl rfl rfl (fun w ⟨m, hw⟩ => D5 hw rfl) ?_
    refine dx_u 16 (by kernel_rfl) rfl rfl rfl (fun w => y_fldb (o' := 6) rfl) ?_
    refine dx_y 17 (by kernel_rfl) rfl rfl rfl (fun w ⟨m, hw⟩ => D5 hw rfl) ?_
    refine dx_two 6 19 (by kernel_rfl) rfl rfl rfl rfl ?_ ?_
    · refine s_lit0 Api_attr.cells hO (fun b28 w hO => ?_)
      refine o_done ?_
      refine ⟨SO.ks [.b b6] hO, ?_⟩
      refine dx_two 9 19 (by kernel_rfl) rfl rfl rfl rfl ?_ ?_
      · refine s_app0 hO rfl rfl (src_pool hO (by assumption)) (fun p31 c31 w hO gs31 => ?_)
        refine o_done ?_
        refine ⟨SO.ks [.b b6] hO, ?_⟩
        refine dx_two 18 19 (by kernel_rfl) rfl rfl rfl rfl ?_ ?_
        · refine s_build (parts := [(0, .tmp 23), (1, .tmp 25), (2, .tmp 27), (3, .tmp 31), (4, .tmp 33), (5, .tmp 35), (6, .tmp 37), (7, .const (.int .i64 (-1))), (8, .const (.int .i64 (-1))), (9, .const (.int .i64 (-1))), (10, .const (.int .i64 (-1))), (11, .tmp 39)]) (cs := [.int .i64 (at_ R (id : Int).toNat).Kind, .int .i64 (at_ R (id : Int).toNat).Space, .string (at_ R (id : Int).toNat).Name, .slice p31 (at_ R id.toNat).Attrs.length c31, .string (at_ R (id : Int).toNat).Data, .string (at_ R (id : Int).toNat).System, .int .i64 (at_ R (id : Int).toNat).Up, .int .i64 (-1), .int .i64 (-1), .int .i64 (-1), .int .i64 (-1), .int .i64 (at_ R (id : Int).toNat).Inner]) rfl rfl (fun a ha => partsOf_sound ha _ _ rfl) (by kernel_rfl) ?_
          refine o_done ?_
          refine ⟨SO.ks [.b b6] hO, ?_⟩
          refine dx_only 19 (by kernel_rfl) rfl rfl ?_
          refine s_alloc (vs := [.int .i64 0, .int .i64 0, .string ⟨#[]⟩, .slice none 0 0, .string ⟨#[]⟩, .string ⟨#[]⟩, .int .i64 0, .int .i64 0, .int .i64 0, .int .i64 0, .int .i64 0, .int .i64 0]) hO rfl rfl rfl fun b7 w hO => ?_
          refine o_done ?_
          refine ⟨SO.ks [.b b6] hO, ?_⟩
          refine dx_close 20 (by kernel_rfl) rfl rfl ?_
          refine Y3 hO rfl rfl (fun w hO => ?_)
          refine o_done ?_
          refine da_end (by kernel_rfl) ?_
          refine K3 (K0 (K0 (K1 ?_)))
          refine l_y rfl rfl (y_fldb (o' := 9) rfl) ?_
          refine l_y rfl rfl (D5 hO rfl) ?_
          refine l_y rfl rfl (y_lenL rfl) ?_
          refine Z0 (fun h5_3 => ?_) (fun h5_3 => ?_)
          · refine K2 (K3 (L8 (K0 (K1 ?_))))
            refine l_y rfl rfl (y_fldb (o' := 9) rfl) ?_
            refine l_y rfl rfl (D5 hO rfl) ?_
            refine l_y rfl rfl (y_idx rfl rfl) ?_
            refine l_y rfl rfl (y_p1 (x0 := 0) (enc := (eI .i64)) (xs := (at_ R id.toNat).Kids) hO rfl) ?_
            refine l_y rfl rfl (y_fldb (o' := 7) rfl) ?_
            refine Y1 hO rfl rfl (fun w hO => ?_)
            simp only [List.set_cons_zero, List.set_cons_succ] at hO
            refine K2 (K3 (K1 ?_))
            refine l_y rfl rfl (y_fldb (o' := 9) rfl) ?_
            refine l_y rfl rfl (D5 hO rfl) ?_
            refine l_y rfl rfl (y_fldb (o' := 9) rfl) ?_
            refine l_y rfl rfl (D5 hO rfl) ?_
            refine l_y rfl rfl (y_lenL rfl) ?_
            refine l_y rfl rfl (D4) ?_
            refine l_y rfl rfl (y_idx rfl rfl) ?_
            refine l_y rfl rfl (y_p1 (x0 := 0) (enc := (eI .i64)) (xs := (at_ R id.toNat).Kids) hO rfl) ?_
            refine l_y rfl rfl (y_fldb (o' := 8) rfl) ?_
            refine Y1 hO rfl rfl (fun w hO => ?_)
            simp only [List.set_cons_zero, List.set_cons_succ] at hO
            refine K2 (K3 (K0 (K0 (K1 ?_))))
            refine l_y rfl rfl (y_fldb (o' := 8) rfl) ?_
            refine l_y rfl rfl (D5 hO rfl) ?_
            refine Z1 (fun h8_2 => ?_) (fun h8_2 => ?_)
            · refine K2 (K3 (L8 (K0 ?_)))
              have hpar : (nodeA A id).Parent ≠ -1 := by rw [nodeA, ← s1.up]; exact h8_2
              obtain ⟨pre, suf, hk, hpv, hnx⟩ := t.nbr hiA hpar
              have hupA := (t.up id hiA hpar).1
              have hup1 := hupA.1
              have hup2 := hupA.2
              rw [nodeA, ← s1.up] at hup1 hup2 hk hupA
              have su := s.one _ hupA
              have hrow : (at_ R ((at_ R id.toNat).Up).toNat).Kids = pre ++ id :: suf := by rw [su.kids, hk]
              have hnd := t.nodup _ hupA
              rw [hk] at hnd
              have hni : id ∉ pre := fun hm => (List.nodup_append.1 hnd).2.2 id hm id (by simp) rfl
              have hkl2 := t.len hupA
              rw [← su.kids] at hkl2
              have hkids2 := (hF.atR (i := ((at_ R id.toNat).Up).toNat) (by omega)).kids
              have hgk2 := sli_gs hkids2
              have hpl : pre.length < (at_ R ((at_ R id.toNat).Up).toNat).Kids.length := by rw [hrow]; simp
              have hla := last_at hrow
              have hna := next_at hrow
              rw [← hpv] at hla
              rw [← hnx] at hna
              refine da_region (by intro c a d v w h; cases d <;> exact h) ?_
              have hO := hO.drew
              refine da_phase _ [] (SO.ks [.b r, .b b6, .p p] hO) ?_
              refine dx_u 0 (by kernel_rfl) rfl rfl rfl (fun w => y_move rfl) ?_
              refine dx_u 1 (by kernel_rfl) rfl rfl rfl (fun w => y_nilCheck rfl rfl) ?_
              refine dx_u 2 (by kernel_rfl) rfl rfl rfl (fun w => y_fldb (o' := 0) rfl) ?_
              refine dx_y 3 (by kernel_rfl) rfl rfl rfl (fun w ⟨m, hw⟩ => D5 hw rfl) ?_
              refine dx_u 4 (by kernel_rfl) rfl rfl rfl (fun w => y_fldb (o' := 8) rfl) ?_
              refine dx_y 5 (by kernel_rfl) rfl rfl rfl (fun w ⟨m, hw⟩ => D5 hw rfl) ?_
              refine dx_u 6 (by kernel_rfl) rfl rfl rfl (fun w => y_idx rfl rfl) ?_
              refine dx_u 7 (by kernel_rfl) rfl rfl rfl (fun w => y_fld (j' := 9) rfl) ?_
              refine dx_y 8 (by kernel_rfl) rfl rfl rfl (fun w ⟨m, hw⟩ => y_e1 (x0 := 9) hw rfl) ?_
              refine dx_u 9 (by kernel_rfl) rfl rfl rfl (fun w => y_assign rfl) ?_
              refine dx_end (by kernel_rfl) ?_
              refine K3 (K0 (K1 ?_))
              refine l_y rfl rfl (y_move rfl) ?_
              refine l_y rfl rfl (y_move rfl) ?_
              refine CK [.b r, .p p, .f] hO rfl (fun k' hx hr hO' => rplace_spec hg hF (by omega) (by omega) rfl (by omega) (by omega) hrow hni (by omega) (hO := hO')) ?_
              rintro _ _ w ⟨rfl, rfl⟩ hO
              simp only [List.cons_append, List.nil_append] at hO
              refine l_y rfl rfl (y_assign rfl) ?_
              refine K2 (K3 (K0 (K0 (K1 ?_))))
              refine l_y rfl rfl (y_move rfl) ?_
              refine Z0 (fun h11_1 => ?_) (fun h11_1 => ?_)
              · refine K2 (K3 (L8 (K1 ?_)))
                refine l_y rfl rfl (y_move rfl) ?_
                refine l_y rfl rfl (y_move rfl) ?_
                refine l_y rfl rfl (D4) ?_
                refine l_y rfl rfl (y_idx rfl rfl) ?_
                refine l_y rfl rfl (y_p1 (x0 := 0) (enc := (eI .i64)) (xs := (at_ R ((at_ R id.toNat).Up).toNat).Kids) hO rfl) ?_
                refine l_y rfl rfl (y_fldb (o' := 9) rfl) ?_
                refine Y1 hO rfl rfl (fun w hO => ?_)
                simp only [List.set_cons_zero, List.set_cons_succ] at hO
                refine K2 (K3 (K0 (K1 ?_)))
                refine l_y rfl rfl (y_move rfl) ?_
                refine l_y rfl rfl (D4) ?_
                refine l_y rfl rfl (y_move rfl) ?_
                refine l_y rfl rfl (y_lenL rfl) ?_
                refine Z0 (fun h13_4 => ?_) (fun h13_4 => ?_)
                · refine K2 (K3 (L8 (K1 ?_)))
                  refine l_y rfl rfl (y_move rfl) ?_
                  refine l_y rfl rfl (y_move rfl) ?_
                  refine l_y rfl rfl (D4) ?_
                  refine l_y rfl rfl (y_idx rfl rfl) ?_
                  refine l_y rfl rfl (y_p1 (x0 := 0) (enc := (eI .i64)) (xs := (at_ R ((at_ R id.toNat).Up).toNat).Kids) hO rfl) ?_
                  refine l_y rfl rfl (y_fldb (o' := 10) rfl) ?_
                  refine Y1 hO rfl rfl (fun w hO => ?_)
                  simp only [List.set_cons_zero, List.set_cons_succ] at hO
                  refine K2 (K3 (K0 (K1 ?_)))
                  refine l_y rfl rfl (D8 (cs := [.int .i64 (at_ R (id : Int).toNat).Kind, .int .i64 (at_ R (id : Int).toNat).Space, .string (at_ R (id : Int).toNat).Name, .slice p31 (at_ R id.toNat).Attrs.length c31, .string (at_ R (id : Int).toNat).Data, .string (at_ R (id : Int).toNat).System, .int .i64 (at_ R (id : Int).toNat).Up, .int .i64 (at_ (at_ R id.toNat).Kids (0 : Int).toNat), .int .i64 (at_ (at_ R id.toNat).Kids (((((at_ R (id : Int).toNat).Kids.length : Nat) : Int) - 1) : Int).toNat), .int .i64 (at_ (at_ R ((at_ R id.toNat).Up).toNat).Kids (((pre.length : Int) - 1) : Int).toNat), .int .i64 (at_ (at_ R ((at_ R id.toNat).Up).toNat).Kids (((pre.length : Int) + 1) : Int).toNat), .int .i64 (at_ R (id : Int).toNat).Inner]) hO rfl) ?_
                  refine Y3 hO rfl rfl (fun w hO => ?_)
                  refine l_y rfl rfl (y_assign rfl) ?_
                  refine K2 (K3 (K6 ?_))
                  refine finC1 hO rfl rfl rfl ⟨_, .inr ⟨hc13, p31, c31, congrArg (fun l => Value.tuple #[.agg (List.toArray l), .int .i64 0]) (cells_eq s1 ?_ ?_ ?_ ?_), rfl⟩, by rw [← s1.attrs]; exact ((rarL_shut hF (hO.ks [.b r, .p p, .f])).ks [.o r, .p p31]).two⟩
                  · first | exact (he.1 (by omega)).1.symm | exact (he.2 (by omega)).1.symm
                  · first | exact (he.1 (by omega)).2.symm | exact (he.2 (by omega)).2.symm
                  · first | exact (hla.1 (by omega)).symm | exact (hla.2 (by omega)).symm | exact (t.free id hiA (by rw [nodeA, ← s1.up]; omega)).1.symm
                  · first | exact (hna.1 (by omega)).symm | exact (hna.2 (by omega)).symm | exact (t.free id hiA (by rw [nodeA, ← s1.up]; omega)).2.symm
                · refine K2 (K3 (L9 (K5 (K3 (K0 (K1 ?_))))))
                  refine l_y rfl rfl (D8 (cs := [.int .i64 (at_ R (id : Int).toNat).Kind, .int .i64 (at_ R (id : Int).toNat).Space, .string (at_ R (id : Int).toNat).Name, .slice p31 (at_ R id.toNat).Attrs.length c31, .string (at_ R (id : Int).toNat).Data, .string (at_ R (id : Int).toNat).System, .int .i64 (at_ R (id : Int).toNat).Up, .int .i64 (at_ (at_ R id.toNat).Kids (0 : Int).toNat), .int .i64 (at_ (at_ R id.toNat).Kids (((((at_ R (id : Int).toNat).Kids.length : Nat) : Int) - 1) : Int).toNat), .int .i64 (at_ (at_ R ((at_ R id.toNat).Up).toNat).Kids (((pre.length : Int) - 1) : Int).toNat), .int .i64 (-1), .int .i64 (at_ R (id : Int).toNat).Inner]) hO rfl) ?_
                  refine Y3 hO rfl rfl (fun w hO => ?_)
                  refine l_y rfl rfl (y_assign rfl) ?_
                  refine K2 (K3 (K6 ?_))
                  refine finC1 hO rfl rfl rfl ⟨_, .inr ⟨hc13, p31, c31, congrArg (fun l => Value.tuple #[.agg (List.toArray l), .int .i64 0]) (cells_eq s1 ?_ ?_ ?_ ?_), rfl⟩, by rw [← s1.attrs]; exact ((rarL_shut hF (hO.ks [.b r, .p p, .f])).ks [.o r, .p p31]).two⟩
                  · first | exact (he.1 (by omega)).1.symm | exact (he.2 (by omega)).1.symm
                  · first | exact (he.1 (by omega)).2.symm | exact (he.2 (by omega)).2.symm
                  · first | exact (hla.1 (by omega)).symm | exact (hla.2 (by omega)).symm | exact (t.free id hiA (by rw [nodeA, ← s1.up]; omega)).1.symm
                  · first | exact (hna.1 (by omega)).symm | exact (hna.2 (by omega)).symm | exact (t.free id hiA (by rw [nodeA, ← s1.up]; omega)).2.symm
              · refine K2 (K3 (L9 (K5 (K3 (K0 (K1 ?_))))))
                refine l_y rfl rfl (y_move rfl) ?_
                refine l_y rfl rfl (D4) ?_
                refine l_y rfl rfl (y_move rfl) ?_
                refine l_y rfl rfl (y_lenL rfl) ?_
                refine Z0 (fun h13_4 => ?_) (fun h13_4 => ?_)
                · refine K2 (K3 (L8 (K1 ?_)))
                  refine l_y rfl rfl (y_move rfl) ?_
                  refine l_y rfl rfl (y_move rfl) ?_
                  refine l_y rfl rfl (D4) ?_
                  refine l_y rfl rfl (y_idx rfl rfl) ?_
                  refine l_y rfl rfl (y_p1 (x0 := 0) (enc := (eI .i64)) (xs := (at_ R ((at_ R id.toNat).Up).toNat).Kids) hO rfl) ?_
                  refine l_y rfl rfl (y_fldb (o' := 10) rfl) ?_
                  refine Y1 hO rfl rfl (fun w hO => ?_)
                  simp only [List.set_cons_zero, List.set_cons_succ] at hO
                  refine K2 (K3 (K0 (K1 ?_)))
                  refine l_y rfl rfl (D8 (cs := [.int .i64 (at_ R (id : Int).toNat).Kind, .int .i64 (at_ R (id : Int).toNat).Space, .string (at_ R (id : Int).toNat).Name, .slice p31 (at_ R id.toNat).Attrs.length c31, .string (at_ R (id : Int).toNat).Data, .string (at_ R (id : Int).toNat).System, .int .i64 (at_ R (id : Int).toNat).Up, .int .i64 (at_ (at_ R id.toNat).Kids (0 : Int).toNat), .int .i64 (at_ (at_ R id.toNat).Kids (((((at_ R (id : Int).toNat).Kids.length : Nat) : Int) - 1) : Int).toNat), .int .i64 (-1), .int .i64 (at_ (at_ R ((at_ R id.toNat).Up).toNat).Kids (((pre.length : Int) + 1) : Int).toNat), .int .i64 (at_ R (id : Int).toNat).Inner]) hO rfl) ?_
                  refine Y3 hO rfl rfl (fun w hO => ?_)
                  refine l_y rfl rfl (y_assign rfl) ?_
                  refine K2 (K3 (K6 ?_))
                  refine finC1 hO rfl rfl rfl ⟨_, .inr ⟨hc13, p31, c31, congrArg (fun l => Value.tuple #[.agg (List.toArray l), .int .i64 0]) (cells_eq s1 ?_ ?_ ?_ ?_), rfl⟩, by rw [← s1.attrs]; exact ((rarL_shut hF (hO.ks [.b r, .p p, .f])).ks [.o r, .p p31]).two⟩
                  · first | exact (he.1 (by omega)).1.symm | exact (he.2 (by omega)).1.symm
                  · first | exact (he.1 (by omega)).2.symm | exact (he.2 (by omega)).2.symm
                  · first | exact (hla.1 (by omega)).symm | exact (hla.2 (by omega)).symm | exact (t.free id hiA (by rw [nodeA, ← s1.up]; omega)).1.symm
                  · first | exact (hna.1 (by omega)).symm | exact (hna.2 (by omega)).symm | exact (t.free id hiA (by rw [nodeA, ← s1.up]; omega)).2.symm
                · refine K2 (K3 (L9 (K5 (K3 (K0 (K1 ?_))))))
                  refine l_y rfl rfl (D8 (cs := [.int .i64 (at_ R (id : Int).toNat).Kind, .int .i64 (at_ R (id : Int).toNat).Space, .string (at_ R (id : Int).toNat).Name, .slice p31 (at_ R id.toNat).Attrs.length c31, .string (at_ R (id : Int).toNat).Data, .string (at_ R (id : Int).toNat).System, .int .i64 (at_ R (id : Int).toNat).Up, .int .i64 (at_ (at_ R id.toNat).Kids (0 : Int).toNat), .int .i64 (at_ (at_ R id.toNat).Kids (((((at_ R (id : Int).toNat).Kids.length : Nat) : Int) - 1) : Int).toNat), .int .i64 (-1), .int .i64 (-1), .int .i64 (at_ R (id : Int).toNat).Inner]) hO rfl) ?_
                  refine Y3 hO rfl rfl (fun w hO => ?_)
                  refine l_y rfl rfl (y_assign rfl) ?_
                  refine K2 (K3 (K6 ?_))
                  refine finC1 hO rfl rfl rfl ⟨_, .inr ⟨hc13, p31, c31, congrArg (fun l => Value.tuple #[.agg (List.toArray l), .int .i64 0]) (cells_eq s1 ?_ ?_ ?_ ?_), rfl⟩, by rw [← s1.attrs]; exact ((rarL_shut hF (hO.ks [.b r, .p p, .f])).ks [.o r, .p p31]).two⟩
                  · first | exact (he.1 (by omega)).1.symm | exact (he.2 (by omega)).1.symm
                  · first | exact (he.1 (by omega)).2.symm | exact (he.2 (by omega)).2.symm
                  · first | exact (hla.1 (by omega)).symm | exact (hla.2 (by omega)).symm | exact (t.free id hiA (by rw [nodeA, ← s1.up]; omega)).1.symm
                  · first | exact (hna.1 (by omega)).symm | exact (hna.2 (by omega)).symm | exact (t.free id hiA (by rw [nodeA, ← s1.up]; omega)).2.symm
            · refine K2 (K3 (L9 (K5 (K3 (K0 (K1 ?_))))))
              refine l_y rfl rfl (D8 (cs := [.int .i64 (at_ R (id : Int).toNat).Kind, .int .i64 (at_ R (id : Int).toNat).Space, .string (at_ R (id : Int).toNat).Name, .slice p31 (at_ R id.toNat).Attrs.length c31, .string (at_ R (id : Int).toNat).Data, .string (at_ R (id : Int).toNat).System, .int .i64 (at_ R (id : Int).toNat).Up, .int .i64 (at_ (at_ R id.toNat).Kids (0 : Int).toNat), .int .i64 (at_ (at_ R id.toNat).Kids (((((at_ R (id : Int).toNat).Kids.length : Nat) : Int) - 1) : Int).toNat), .int .i64 (-1), .int .i64 (-1), .int .i64 (at_ R (id : Int).toNat).Inner]) hO rfl) ?_
              refine Y3 hO rfl rfl (fun w hO => ?_)
              refine l_y rfl rfl (y_assign rfl) ?_
              refine K2 (K3 (K6 ?_))
              refine finC1 hO rfl rfl rfl ⟨_, .inr ⟨hc13, p31, c31, congrArg (fun l => Value.tuple #[.agg (List.toArray l), .int .i64 0]) (cells_eq s1 ?_ ?_ ?_ ?_), rfl⟩, by rw [← s1.attrs]; exact ((rarL_shut hF (hO.ks [.b r, .p p, .f])).ks [.o r, .p p31]).two⟩
              · first | exact (he.1 (by omega)).1.symm | exact (he.2 (by omega)).1.symm
              · first | exact (he.1 (by omega)).2.symm | exact (he.2 (by omega)).2.symm
              · first | exact (hla.1 (by omega)).symm | exact (hla.2 (by omega)).symm | exact (t.free id hiA (by rw [nodeA, ← s1.up]; omega)).1.symm
              · first | exact (hna.1 (by omega)).symm | exact (hna.2 (by omega)).symm | exact (t.free id hiA (by rw [nodeA, ← s1.up]; omega)).2.symm
          · refine K2 (K3 (L9 (K5 (K3 (K0 (K0 (K1 ?_)))))))
            refine l_y rfl rfl (y_fldb (o' := 8) rfl) ?_
            refine l_y rfl rfl (D5 hO rfl) ?_
            refine Z1 (fun h8_2 => ?_) (fun h8_2 => ?_)
            · refine K2 (K3 (L8 (K0 ?_)))
              have hpar : (nodeA A id).Parent ≠ -1 := by rw [nodeA, ← s1.up]; exact h8_2
              obtain ⟨pre, suf, hk, hpv, hnx⟩ := t.nbr hiA hpar
              have hupA := (t.up id hiA hpar).1
              have hup1 := hupA.1
              have hup2 := hupA.2
              rw [nodeA, ← s1.up] at hup1 hup2 hk hupA
              have su := s.one _ hupA
              have hrow : (at_ R ((at_ R id.toNat).Up).toNat).Kids = pre ++ id :: suf := by rw [su.kids, hk]
              have hnd := t.nodup _ hupA
              rw [hk] at hnd
              have hni : id ∉ pre := fun hm => (List.nodup_append.1 hnd).2.2 id hm id (by simp) rfl
              have hkl2 := t.len hupA
              rw [← su.kids] at hkl2
              have hkids2 := (hF.atR (i := ((at_ R id.toNat).Up).toNat) (by omega)).kids
              have hgk2 := sli_gs hkids2
              have hpl : pre.length < (at_ R ((at_ R id.toNat).Up).toNat).Kids.length := by rw [hrow]; simp
              have hla := last_at hrow
              have hna := next_at hrow
              rw [← hpv] at hla
              rw [← hnx] at hna
              refine da_region (by intro c a d v w h; cases d <;> exact h) ?_
              have hO := hO.drew
              refine da_phase _ [] (SO.ks [.b r, .b b6, .p p] hO) ?_
              refine dx_u 0 (by kernel_rfl) rfl rfl rfl (fun w => y_move rfl) ?_
              refine dx_u 1 (by kernel_rfl) rfl rfl rfl (fun w => y_nilCheck rfl rfl) ?_
              refine dx_u 2 (by kernel_rfl) rfl rfl rfl (fun w => y_fldb (o' := 0) rfl) ?_
              refine dx_y 3 (by kernel_rfl) rfl rfl rfl (fun w ⟨m, hw⟩ => D5 hw rfl) ?_
              refine dx_u 4 (by kernel_rfl) rfl rfl rfl (fun w => y_fldb (o' := 8) rfl) ?_
              refine dx_y 5 (by kernel_rfl) rfl rfl rfl (fun w ⟨m, hw⟩ => D5 hw rfl) ?_
              refine dx_u 6 (by kernel_rfl) rfl rfl rfl (fun w => y_idx rfl rfl) ?_
              refine dx_u 7 (by kernel_rfl) rfl rfl rfl (fun w => y_fld (j' := 9) rfl) ?_
              refine dx_y 8 (by kernel_rfl) rfl rfl rfl (fun w ⟨m, hw⟩ => y_e1 (x0 := 9) hw rfl) ?_
              refine dx_u 9 (by kernel_rfl) rfl rfl rfl (fun w => y_assign rfl) ?_
              refine dx_end (by kernel_rfl) ?_
              refine K3 (K0 (K1 ?_))
              refine l_y rfl rfl (y_move rfl) ?_
              refine l_y rfl rfl (y_move rfl) ?_
              refine CK [.b r, .p p, .f] hO rfl (fun k' hx hr hO' => rplace_spec hg hF (by omega) (by omega) rfl (by omega) (by omega) hrow hni (by omega) (hO := hO')) ?_
              rintro _ _ w ⟨rfl, rfl⟩ hO
              simp only [List.cons_append, List.nil_append] at hO
              refine l_y rfl rfl (y_assign rfl) ?_
              refine K2 (K3 (K0 (K0 (K1 ?_))))
              refine l_y rfl rfl (y_move rfl) ?_
              refine Z0 (fun h11_1 => ?_) (fun h11_1 => ?_)
              · refine K2 (K3 (L8 (K1 ?_)))
                refine l_y rfl rfl (y_move rfl) ?_
                refine l_y rfl rfl (y_move rfl) ?_
                refine l_y rfl rfl (D4) ?_
                refine l_y rfl rfl (y_idx rfl rfl) ?_
                refine l_y rfl rfl (y_p1 (x0 := 0) (enc := (eI .i64)) (xs := (at_ R ((at_ R id.toNat).Up).toNat).Kids) hO rfl) ?_
                refine l_y rfl rfl (y_fldb (o' := 9) rfl) ?_
                refine Y1 hO rfl rfl (fun w hO => ?_)
                simp only [List.set_cons_zero, List.set_cons_succ] at hO
                refine K2 (K3 (K0 (K1 ?_)))
                refine l_y rfl rfl (y_move rfl) ?_
                refine l_y rfl rfl (D4) ?_
                refine l_y rfl rfl (y_move rfl) ?_
                refine l_y rfl rfl (y_lenL rfl) ?_
                refine Z0 (fun h13_4 => ?_) (fun h13_4 => ?_)
                · refine K2 (K3 (L8 (K1 ?_)))
                  refine l_y rfl rfl (y_move rfl) ?_
                  refine l_y rfl rfl (y_move rfl) ?_
                  refine l_y rfl rfl (D4) ?_
                  refine l_y rfl rfl (y_idx rfl rfl) ?_
                  refine l_y rfl rfl (y_p1 (x0 := 0) (enc := (eI .i64)) (xs := (at_ R ((at_ R id.toNat).Up).toNat).Kids) hO rfl) ?_
                  refine l_y rfl rfl (y_fldb (o' := 10) rfl) ?_
                  refine Y1 hO rfl rfl (fun w hO => ?_)
                  simp only [List.set_cons_zero, List.set_cons_succ] at hO
                  refine K2 (K3 (K0 (K1 ?_)))
                  refine l_y rfl rfl (D8 (cs := [.int .i64 (at_ R (id : Int).toNat).Kind, .int .i64 (at_ R (id : Int).toNat).Space, .string (at_ R (id : Int).toNat).Name, .slice p31 (at_ R id.toNat).Attrs.length c31, .string (at_ R (id : Int).toNat).Data, .string (at_ R (id : Int).toNat).System, .int .i64 (at_ R (id : Int).toNat).Up, .int .i64 (-1), .int .i64 (-1), .int .i64 (at_ (at_ R ((at_ R id.toNat).Up).toNat).Kids (((pre.length : Int) - 1) : Int).toNat), .int .i64 (at_ (at_ R ((at_ R id.toNat).Up).toNat).Kids (((pre.length : Int) + 1) : Int).toNat), .int .i64 (at_ R (id : Int).toNat).Inner]) hO rfl) ?_
                  refine Y3 hO rfl rfl (fun w hO => ?_)
                  refine l_y rfl rfl (y_assign rfl) ?_
                  refine K2 (K3 (K6 ?_))
                  refine finC1 hO rfl rfl rfl ⟨_, .inr ⟨hc13, p31, c31, congrArg (fun l => Value.tuple #[.agg (List.toArray l), .int .i64 0]) (cells_eq s1 ?_ ?_ ?_ ?_), rfl⟩, by rw [← s1.attrs]; exact ((rarL_shut hF (hO.ks [.b r, .p p, .f])).ks [.o r, .p p31]).two⟩
                  · first | exact (he.1 (by omega)).1.symm | exact (he.2 (by omega)).1.symm
                  · first | exact (he.1 (by omega)).2.symm | exact (he.2 (by omega)).2.symm
                  · first | exact (hla.1 (by omega)).symm | exact (hla.2 (by omega)).symm | exact (t.free id hiA (by rw [nodeA, ← s1.up]; omega)).1.symm
                  · first | exact (hna.1 (by omega)).symm | exact (hna.2 (by omega)).symm | exact (t.free id hiA (by rw [nodeA, ← s1.up]; omega)).2.symm
                · refine K2 (K3 (L9 (K5 (K3 (K0 (K1 ?_))))))
                  refine l_y rfl rfl (D8 (cs := [.int .i64 (at_ R (id : Int).toNat).Kind, .int .i64 (at_ R (id : Int).toNat).Space, .string (at_ R (id : Int).toNat).Name, .slice p31 (at_ R id.toNat).Attrs.length c31, .string (at_ R (id : Int).toNat).Data, .string (at_ R (id : Int).toNat).System, .int .i64 (at_ R (id : Int).toNat).Up, .int .i64 (-1), .int .i64 (-1), .int .i64 (at_ (at_ R ((at_ R id.toNat).Up).toNat).Kids (((pre.length : Int) - 1) : Int).toNat), .int .i64 (-1), .int .i64 (at_ R (id : Int).toNat).Inner]) hO rfl) ?_
                  refine Y3 hO rfl rfl (fun w hO => ?_)
                  refine l_y rfl rfl (y_assign rfl) ?_
                  refine K2 (K3 (K6 ?_))
                  refine finC1 hO rfl rfl rfl ⟨_, .inr ⟨hc13, p31, c31, congrArg (fun l => Value.tuple #[.agg (List.toArray l), .int .i64 0]) (cells_eq s1 ?_ ?_ ?_ ?_), rfl⟩, by rw [← s1.attrs]; exact ((rarL_shut hF (hO.ks [.b r, .p p, .f])).ks [.o r, .p p31]).two⟩
                  · first | exact (he.1 (by omega)).1.symm | exact (he.2 (by omega)).1.symm
                  · first | exact (he.1 (by omega)).2.symm | exact (he.2 (by omega)).2.symm
                  · first | exact (hla.1 (by omega)).symm | exact (hla.2 (by omega)).symm | exact (t.free id hiA (by rw [nodeA, ← s1.up]; omega)).1.symm
                  · first | exact (hna.1 (by omega)).symm | exact (hna.2 (by omega)).symm | exact (t.free id hiA (by rw [nodeA, ← s1.up]; omega)).2.symm
              · refine K2 (K3 (L9 (K5 (K3 (K0 (K1 ?_))))))
                refine l_y rfl rfl (y_move rfl) ?_
                refine l_y rfl rfl (D4) ?_
                refine l_y rfl rfl (y_move rfl) ?_
                refine l_y rfl rfl (y_lenL rfl) ?_
                refine Z0 (fun h13_4 => ?_) (fun h13_4 => ?_)
                · refine K2 (K3 (L8 (K1 ?_)))
                  refine l_y rfl rfl (y_move rfl) ?_
                  refine l_y rfl rfl (y_move rfl) ?_
                  refine l_y rfl rfl (D4) ?_
                  refine l_y rfl rfl (y_idx rfl rfl) ?_
                  refine l_y rfl rfl (y_p1 (x0 := 0) (enc := (eI .i64)) (xs := (at_ R ((at_ R id.toNat).Up).toNat).Kids) hO rfl) ?_
                  refine l_y rfl rfl (y_fldb (o' := 10) rfl) ?_
                  refine Y1 hO rfl rfl (fun w hO => ?_)
                  simp only [List.set_cons_zero, List.set_cons_succ] at hO
                  refine K2 (K3 (K0 (K1 ?_)))
                  refine l_y rfl rfl (D8 (cs := [.int .i64 (at_ R (id : Int).toNat).Kind, .int .i64 (at_ R (id : Int).toNat).Space, .string (at_ R (id : Int).toNat).Name, .slice p31 (at_ R id.toNat).Attrs.length c31, .string (at_ R (id : Int).toNat).Data, .string (at_ R (id : Int).toNat).System, .int .i64 (at_ R (id : Int).toNat).Up, .int .i64 (-1), .int .i64 (-1), .int .i64 (-1), .int .i64 (at_ (at_ R ((at_ R id.toNat).Up).toNat).Kids (((pre.length : Int) + 1) : Int).toNat), .int .i64 (at_ R (id : Int).toNat).Inner]) hO rfl) ?_
                  refine Y3 hO rfl rfl (fun w hO => ?_)
                  refine l_y rfl rfl (y_assign rfl) ?_
                  refine K2 (K3 (K6 ?_))
                  refine finC1 hO rfl rfl rfl ⟨_, .inr ⟨hc13, p31, c31, congrArg (fun l => Value.tuple #[.agg (List.toArray l), .int .i64 0]) (cells_eq s1 ?_ ?_ ?_ ?_), rfl⟩, by rw [← s1.attrs]; exact ((rarL_shut hF (hO.ks [.b r, .p p, .f])).ks [.o r, .p p31]).two⟩
                  · first | exact (he.1 (by omega)).1.symm | exact (he.2 (by omega)).1.symm
                  · first | exact (he.1 (by omega)).2.symm | exact (he.2 (by omega)).2.symm
                  · first | exact (hla.1 (by omega)).symm | exact (hla.2 (by omega)).symm | exact (t.free id hiA (by rw [nodeA, ← s1.up]; omega)).1.symm
                  · first | exact (hna.1 (by omega)).symm | exact (hna.2 (by omega)).symm | exact (t.free id hiA (by rw [nodeA, ← s1.up]; omega)).2.symm
                · refine K2 (K3 (L9 (K5 (K3 (K0 (K1 ?_))))))
                  refine l_y rfl rfl (D8 (cs := [.int .i64 (at_ R (id : Int).toNat).Kind, .int .i64 (at_ R (id : Int).toNat).Space, .string (at_ R (id : Int).toNat).Name, .slice p31 (at_ R id.toNat).Attrs.length c31, .string (at_ R (id : Int).toNat).Data, .string (at_ R (id : Int).toNat).System, .int .i64 (at_ R (id : Int).toNat).Up, .int .i64 (-1), .int .i64 (-1), .int .i64 (-1), .int .i64 (-1), .int .i64 (at_ R (id : Int).toNat).Inner]) hO rfl) ?_
                  refine Y3 hO rfl rfl (fun w hO => ?_)
                  refine l_y rfl rfl (y_assign rfl) ?_
                  refine K2 (K3 (K6 ?_))
                  refine finC1 hO rfl rfl rfl ⟨_, .inr ⟨hc13, p31, c31, congrArg (fun l => Value.tuple #[.agg (List.toArray l), .int .i64 0]) (cells_eq s1 ?_ ?_ ?_ ?_), rfl⟩, by rw [← s1.attrs]; exact ((rarL_shut hF (hO.ks [.b r, .p p, .f])).ks [.o r, .p p31]).two⟩
                  · first | exact (he.1 (by omega)).1.symm | exact (he.2 (by omega)).1.symm
                  · first | exact (he.1 (by omega)).2.symm | exact (he.2 (by omega)).2.symm
                  · first | exact (hla.1 (by omega)).symm | exact (hla.2 (by omega)).symm | exact (t.free id hiA (by rw [nodeA, ← s1.up]; omega)).1.symm
                  · first | exact (hna.1 (by omega)).symm | exact (hna.2 (by omega)).symm | exact (t.free id hiA (by rw [nodeA, ← s1.up]; omega)).2.symm
            · refine K2 (K3 (L9 (K5 (K3 (K0 (K1 ?_))))))
              refine l_y rfl rfl (D8 (cs := [.int .i64 (at_ R (id : Int).toNat).Kind, .int .i64 (at_ R (id : Int).toNat).Space, .string (at_ R (id : Int).toNat).Name, .slice p31 (at_ R id.toNat).Attrs.length c31, .string (at_ R (id : Int).toNat).Data, .string (at_ R (id : Int).toNat).System, .int .i64 (at_ R (id : Int).toNat).Up, .int .i64 (-1), .int .i64 (-1), .int .i64 (-1), .int .i64 (-1), .int .i64 (at_ R (id : Int).toNat).Inner]) hO rfl) ?_
              refine Y3 hO rfl rfl (fun w hO => ?_)
              refine l_y rfl rfl (y_assign rfl) ?_
              refine K2 (K3 (K6 ?_))
              refine finC1 hO rfl rfl rfl ⟨_, .inr ⟨hc13, p31, c31, congrArg (fun l => Value.tuple #[.agg (List.toArray l), .int .i64 0]) (cells_eq s1 ?_ ?_ ?_ ?_), rfl⟩, by rw [← s1.attrs]; exact ((rarL_shut hF (hO.ks [.b r, .p p, .f])).ks [.o r, .p p31]).two⟩
              · first | exact (he.1 (by omega)).1.symm | exact (he.2 (by omega)).1.symm
              · first | exact (he.1 (by omega)).2.symm | exact (he.2 (by omega)).2.symm
              · first | exact (hla.1 (by omega)).symm | exact (hla.2 (by omega)).symm | exact (t.free id hiA (by rw [nodeA, ← s1.up]; omega)).1.symm
              · first | exact (hna.1 (by omega)).symm | exact (hna.2 (by omega)).symm | exact (t.free id hiA (by rw [nodeA, ← s1.up]; omega)).2.symm
        · refine s_alloc (vs := [.int .i64 0, .int .i64 0, .string ⟨#[]⟩, .slice none 0 0, .string ⟨#[]⟩, .string ⟨#[]⟩, .int .i64 0, .int .i64 0, .int .i64 0, .int .i64 0, .int .i64 0, .int .i64 0]) hO rfl rfl rfl fun b7 w hO => ?_
          refine o_done ?_
          refine ⟨SO.ks [.b b6] hO, ?_⟩
          refine dx_only 18 (by kernel_rfl) rfl rfl ?_
          refine s_build (parts := [(0, .tmp 23), (1, .tmp 25), (2, .tmp 27), (3, .tmp 31), (4, .tmp 33), (5, .tmp 35), (6, .tmp 37), (7, .const (.int .i64 (-1))), (8, .const (.int .i64 (-1))), (9, .const (.int .i64 (-1))), (10, .const (.int .i64 (-1))), (11, .tmp 39)]) (cs := [.int .i64 (at_ R (id : Int).toNat).Kind, .int .i64 (at_ R (id : Int).toNat).Space, .string (at_ R (id : Int).toNat).Name, .slice p31 (at_ R id.toNat).Attrs.length c31, .string (at_ R (id : Int).toNat).Data, .string (at_ R (id : Int).toNat).System, .int .i64 (at_ R (id : Int).toNat).Up, .int .i64 (-1), .int .i64 (-1), .int .i64 (-1), .int .i64 (-1), .int .i64 (at_ R (id : Int).toNat).Inner]) rfl rfl (fun a ha => partsOf_sound ha _ _ rfl) (by kernel_rfl) ?_
          refine o_done ?_
          refine ⟨SO.ks [.b b6] hO, ?_⟩
          refine dx_close 20 (by kernel_rfl) rfl rfl ?_
          refine Y3 hO rfl rfl (fun w hO => ?_)
          refine o_done ?_
          refine da_end (by kernel_rfl) ?_
          refine K3 (K0 (K0 (K1 ?_)))
          refine l_y rfl rfl (y_fldb (o' := 9) rfl) ?_
          refine l_y rfl rfl (D5 hO rfl) ?_
          refine l_y rfl rfl (y_lenL rfl) ?_
          refine Z0 (fun h5_3 => ?_) (fun h5_3 => ?_)
          · refine K2 (K3 (L8 (K0 (K1 ?_))))
            refine l_y rfl rfl (y_fldb (o' := 9) rfl) ?_
            refine l_y rfl rfl (D5 hO rfl) ?_
            refine l_y rfl rfl (y_idx rfl rfl) ?_
            refine l_y rfl rfl (y_p1 (x0 := 0) (enc := (eI .i64)) (xs := (at_ R id.toNat).Kids) hO rfl) ?_
            refine l_y rfl rfl (y_fldb (o' := 7) rfl) ?_
            refine Y1 hO rfl rfl (fun w hO => ?_)
            simp only [List.set_cons_zero, List.set_cons_succ] at hO
            refine K2 (K3 (K1 ?_))
            refine l_y rfl rfl (y_fldb (o' := 9) rfl) ?_
            refine l_y rfl rfl (D5 hO rfl) ?_
            refine l_y rfl rfl (y_fldb (o' := 9) rfl) ?_
            refine l_y rfl rfl (D5 hO rfl) ?_
            refine l_y rfl rfl (y_lenL rfl) ?_
            refine l_y rfl rfl (D4) ?_
            refine l_y rfl rfl (y_idx rfl rfl) ?_
            refine l_y rfl rfl (y_p1 (x0 := 0) (enc := (eI .i64)) (xs := (at_ R id.toNat).Kids) hO rfl) ?_
            refine l_y rfl rfl (y_fldb (o' := 8) rfl) ?_
            refine Y1 hO rfl rfl (fun w hO => ?_)
            simp only [List.set_cons_zero, List.set_cons_succ] at hO
            refine K2 (K3 (K0 (K0 (K1 ?_))))
            refine l_y rfl rfl (y_fldb (o' := 8) rfl) ?_
            refine l_y rfl rfl (D5 hO rfl) ?_
            refine Z1 (fun h8_2 => ?_) (fun h8_2 => ?_)
            · refine K2 (K3 (L8 (K0 ?_)))
              have hpar : (nodeA A id).Parent ≠ -1 := by rw [nodeA, ← s1.up]; exact h8_2
              obtain ⟨pre, suf, hk, hpv, hnx⟩ := t.nbr hiA hpar
              have hupA := (t.up id hiA hpar).1
              have hup1 := hupA.1
              have hup2 := hupA.2
              rw [nodeA, ← s1.up] at hup1 hup2 hk hupA
              have su := s.one _ hupA
              have hrow : (at_ R ((at_ R id.toNat).Up).toNat).Kids = pre ++ id :: suf := by rw [su.kids, hk]
              have hnd := t.nodup _ hupA
              rw [hk] at hnd
              have hni : id ∉ pre := fun hm => (List.nodup_append.1 hnd).2.2 id hm id (by simp) rfl
              have hkl2 := t.len hupA
              rw [← su.kids] at hkl2
              have hkids2 := (hF.atR (i := ((at_ R id.toNat).Up).toNat) (by omega)).kids
              have hgk2 := sli_gs hkids2
              have hpl : pre.length < (at_ R ((at_ R id.toNat).Up).toNat).Kids.length := by rw [hrow]; simp
              have hla := last_at hrow
              have hna := next_at hrow
              rw [← hpv] at hla
              rw [← hnx] at hna
              refine da_region (by intro c a d v w h; cases d <;> exact h) ?_
              have hO := hO.drew
              refine da_phase _ [] (SO.ks [.b r, .b b6, .p p] hO) ?_
              refine dx_u 0 (by kernel_rfl) rfl rfl rfl (fun w => y_move rfl) ?_
              refine dx_u 1 (by kernel_rfl) rfl rfl rfl (fun w => y_nilCheck rfl rfl) ?_
              refine dx_u 2 (by kernel_rfl) rfl rfl rfl (fun w => y_fldb (o' := 0) rfl) ?_
              refine dx_y 3 (by kernel_rfl) rfl rfl rfl (fun w ⟨m, hw⟩ => D5 hw rfl) ?_
              refine dx_u 4 (by kernel_rfl) rfl rfl rfl (fun w => y_fldb (o' := 8) rfl) ?_
              refine dx_y 5 (by kernel_rfl) rfl rfl rfl (fun w ⟨m, hw⟩ => D5 hw rfl) ?_
              refine dx_u 6 (by kernel_rfl) rfl rfl rfl (fun w => y_idx rfl rfl) ?_
              refine dx_u 7 (by kernel_rfl) rfl rfl rfl (fun w => y_fld (j' := 9) rfl) ?_
              refine dx_y 8 (by kernel_rfl) rfl rfl rfl (fun w ⟨m, hw⟩ => y_e1 (x0 := 9) hw rfl) ?_
              refine dx_u 9 (by kernel_rfl) rfl rfl rfl (fun w => y_assign rfl) ?_
              refine dx_end (by kernel_rfl) ?_
              refine K3 (K0 (K1 ?_))
              refine l_y rfl rfl (y_move rfl) ?_
              refine l_y rfl rfl (y_move rfl) ?_
              refine CK [.b r, .p p, .f] hO rfl (fun k' hx hr hO' => rplace_spec hg hF (by omega) (by omega) rfl (by omega) (by omega) hrow hni (by omega) (hO := hO')) ?_
              rintro _ _ w ⟨rfl, rfl⟩ hO
              simp only [List.cons_append, List.nil_append] at hO
              refine l_y rfl rfl (y_assign rfl) ?_
              refine K2 (K3 (K0 (K0 (K1 ?_))))
              refine l_y rfl rfl (y_move rfl) ?_
              refine Z0 (fun h11_1 => ?_) (fun h11_1 => ?_)
              · refine K2 (K3 (L8 (K1 ?_)))
                refine l_y rfl rfl (y_move rfl) ?_
                refine l_y rfl rfl (y_move rfl) ?_
                refine l_y rfl rfl (D4) ?_
                refine l_y rfl rfl (y_idx rfl rfl) ?_
                refine l_y rfl rfl (y_p1 (x0 := 0) (enc := (eI .i64)) (xs := (at_ R ((at_ R id.toNat).Up).toNat).Kids) hO rfl) ?_
                refine l_y rfl rfl (y_fldb (o' := 9) rfl) ?_
                refine Y1 hO rfl rfl (fun w hO => ?_)
                simp only [List.set_cons_zero, List.set_cons_succ] at hO
                refine K2 (K3 (K0 (K1 ?_)))
                refine l_y rfl rfl (y_move rfl) ?_
                refine l_y rfl rfl (D4) ?_
                refine l_y rfl rfl (y_move rfl) ?_
                refine l_y rfl rfl (y_lenL rfl) ?_
                refine Z0 (fun h13_4 => ?_) (fun h13_4 => ?_)
                · refine K2 (K3 (L8 (K1 ?_)))
                  refine l_y rfl rfl (y_move rfl) ?_
                  refine l_y rfl rfl (y_move rfl) ?_
                  refine l_y rfl rfl (D4) ?_
                  refine l_y rfl rfl (y_idx rfl rfl) ?_
                  refine l_y rfl rfl (y_p1 (x0 := 0) (enc := (eI .i64)) (xs := (at_ R ((at_ R id.toNat).Up).toNat).Kids) hO rfl) ?_
                  refine l_y rfl rfl (y_fldb (o' := 10) rfl) ?_
                  refine Y1 hO rfl rfl (fun w hO => ?_)
                  simp only [List.set_cons_zero, List.set_cons_succ] at hO
                  refine K2 (K3 (K0 (K1 ?_)))
                  refine l_y rfl rfl (D8 (cs := [.int .i64 (at_ R (id : Int).toNat).Kind, .int .i64 (at_ R (id : Int).toNat).Space, .string (at_ R (id : Int).toNat).Name, .slice p31 (at_ R id.toNat).Attrs.length c31, .string (at_ R (id : Int).toNat).Data, .string (at_ R (id : Int).toNat).System, .int .i64 (at_ R (id : Int).toNat).Up, .int .i64 (at_ (at_ R id.toNat).Kids (0 : Int).toNat), .int .i64 (at_ (at_ R id.toNat).Kids (((((at_ R (id : Int).toNat).Kids.length : Nat) : Int) - 1) : Int).toNat), .int .i64 (at_ (at_ R ((at_ R id.toNat).Up).toNat).Kids (((pre.length : Int) - 1) : Int).toNat), .int .i64 (at_ (at_ R ((at_ R id.toNat).Up).toNat).Kids (((pre.length : Int) + 1) : Int).toNat), .int .i64 (at_ R (id : Int).toNat).Inner]) hO rfl) ?_
                  refine Y3 hO rfl rfl (fun w hO => ?_)
                  refine l_y rfl rfl (y_assign rfl) ?_
                  refine K2 (K3 (K6 ?_))
                  refine finC1 hO rfl rfl rfl ⟨_, .inr ⟨hc13, p31, c31, congrArg (fun l => Value.tuple #[.agg (List.toArray l), .int .i64 0]) (cells_eq s1 ?_ ?_ ?_ ?_), rfl⟩, by rw [← s1.attrs]; exact ((rarL_shut hF (hO.ks [.b r, .p p, .f])).ks [.o r, .p p31]).two⟩
                  · first | exact (he.1 (by omega)).1.symm | exact (he.2 (by omega)).1.symm
                  · first | exact (he.1 (by omega)).2.symm | exact (he.2 (by omega)).2.symm
                  · first | exact (hla.1 (by omega)).symm | exact (hla.2 (by omega)).symm | exact (t.free id hiA (by rw [nodeA, ← s1.up]; omega)).1.symm
                  · first | exact (hna.1 (by omega)).symm | exact (hna.2 (by omega)).symm | exact (t.free id hiA (by rw [nodeA, ← s1.up]; omega)).2.symm
                · refine K2 (K3 (L9 (K5 (K3 (K0 (K1 ?_))))))
                  refine l_y rfl rfl (D8 (cs := [.int .i64 (at_ R (id : Int).toNat).Kind, .int .i64 (at_ R (id : Int).toNat).Space, .string (at_ R (id : Int).toNat).Name, .slice p31 (at_ R id.toNat).Attrs.length c31, .string (at_ R (id : Int).toNat).Data, .string (at_ R (id : Int).toNat).System, .int .i64 (at_ R (id : Int).toNat).Up, .int .i64 (at_ (at_ R id.toNat).Kids (0 : Int).toNat), .int .i64 (at_ (at_ R id.toNat).Kids (((((at_ R (id : Int).toNat).Kids.length : Nat) : Int) - 1) : Int).toNat), .int .i64 (at_ (at_ R ((at_ R id.toNat).Up).toNat).Kids (((pre.length : Int) - 1) : Int).toNat), .int .i64 (-1), .int .i64 (at_ R (id : Int).toNat).Inner]) hO rfl) ?_
                  refine Y3 hO rfl rfl (fun w hO => ?_)
                  refine l_y rfl rfl (y_assign rfl) ?_
                  refine K2 (K3 (K6 ?_))
                  refine finC1 hO rfl rfl rfl ⟨_, .inr ⟨hc13, p31, c31, congrArg (fun l => Value.tuple #[.agg (List.toArray l), .int .i64 0]) (cells_eq s1 ?_ ?_ ?_ ?_), rfl⟩, by rw [← s1.attrs]; exact ((rarL_shut hF (hO.ks [.b r, .p p, .f])).ks [.o r, .p p31]).two⟩
                  · first | exact (he.1 (by omega)).1.symm | exact (he.2 (by omega)).1.symm
                  · first | exact (he.1 (by omega)).2.symm | exact (he.2 (by omega)).2.symm
                  · first | exact (hla.1 (by omega)).symm | exact (hla.2 (by omega)).symm | exact (t.free id hiA (by rw [nodeA, ← s1.up]; omega)).1.symm
                  · first | exact (hna.1 (by omega)).symm | exact (hna.2 (by omega)).symm | exact (t.free id hiA (by rw [nodeA, ← s1.up]; omega)).2.symm
              · refine K2 (K3 (L9 (K5 (K3 (K0 (K1 ?_))))))
                refine l_y rfl rfl (y_move rfl) ?_
                refine l_y rfl rfl (D4) ?_
                refine l_y rfl rfl (y_move rfl) ?_
                refine l_y rfl rfl (y_lenL rfl) ?_
                refine Z0 (fun h13_4 => ?_) (fun h13_4 => ?_)
                · refine K2 (K3 (L8 (K1 ?_)))
                  refine l_y rfl rfl (y_move rfl) ?_
                  refine l_y rfl rfl (y_move rfl) ?_
                  refine l_y rfl rfl (D4) ?_
                  refine l_y rfl rfl (y_idx rfl rfl) ?_
                  refine l_y rfl rfl (y_p1 (x0 := 0) (enc := (eI .i64)) (xs := (at_ R ((at_ R id.toNat).Up).toNat).Kids) hO rfl) ?_
                  refine l_y rfl rfl (y_fldb (o' := 10) rfl) ?_
                  refine Y1 hO rfl rfl (fun w hO => ?_)
                  simp only [List.set_cons_zero, List.set_cons_succ] at hO
                  refine K2 (K3 (K0 (K1 ?_)))
                  refine l_y rfl rfl (D8 (cs := [.int .i64 (at_ R (id : Int).toNat).Kind, .int .i64 (at_ R (id : Int).toNat).Space, .string (at_ R (id : Int).toNat).Name, .slice p31 (at_ R id.toNat).Attrs.length c31, .string (at_ R (id : Int).toNat).Data, .string (at_ R (id : Int).toNat).System, .int .i64 (at_ R (id : Int).toNat).Up, .int .i64 (at_ (at_ R id.toNat).Kids (0 : Int).toNat), .int .i64 (at_ (at_ R id.toNat).Kids (((((at_ R (id : Int).toNat).Kids.length : Nat) : Int) - 1) : Int).toNat), .int .i64 (-1), .int .i64 (at_ (at_ R ((at_ R id.toNat).Up).toNat).Kids (((pre.length : Int) + 1) : Int).toNat), .int .i64 (at_ R (id : Int).toNat).Inner]) hO rfl) ?_
                  refine Y3 hO rfl rfl (fun w hO => ?_)
                  refine l_y rfl rfl (y_assign rfl) ?_
                  refine K2 (K3 (K6 ?_))
                  refine finC1 hO rfl rfl rfl ⟨_, .inr ⟨hc13, p31, c31, congrArg (fun l => Value.tuple #[.agg (List.toArray l), .int .i64 0]) (cells_eq s1 ?_ ?_ ?_ ?_), rfl⟩, by rw [← s1.attrs]; exact ((rarL_shut hF (hO.ks [.b r, .p p, .f])).ks [.o r, .p p31]).two⟩
                  · first | exact (he.1 (by omega)).1.symm | exact (he.2 (by omega)).1.symm
                  · first | exact (he.1 (by omega)).2.symm | exact (he.2 (by omega)).2.symm
                  · first | exact (hla.1 (by omega)).symm | exact (hla.2 (by omega)).symm | exact (t.free id hiA (by rw [nodeA, ← s1.up]; omega)).1.symm
                  · first | exact (hna.1 (by omega)).symm | exact (hna.2 (by omega)).symm | exact (t.free id hiA (by rw [nodeA, ← s1.up]; omega)).2.symm
                · refine K2 (K3 (L9 (K5 (K3 (K0 (K1 ?_))))))
                  refine l_y rfl rfl (D8 (cs := [.int .i64 (at_ R (id : Int).toNat).Kind, .int .i64 (at_ R (id : Int).toNat).Space, .string (at_ R (id : Int).toNat).Name, .slice p31 (at_ R id.toNat).Attrs.length c31, .string (at_ R (id : Int).toNat).Data, .string (at_ R (id : Int).toNat).System, .int .i64 (at_ R (id : Int).toNat).Up, .int .i64 (at_ (at_ R id.toNat).Kids (0 : Int).toNat), .int .i64 (at_ (at_ R id.toNat).Kids (((((at_ R (id : Int).toNat).Kids.length : Nat) : Int) - 1) : Int).toNat), .int .i64 (-1), .int .i64 (-1), .int .i64 (at_ R (id : Int).toNat).Inner]) hO rfl) ?_
                  refine Y3 hO rfl rfl (fun w hO => ?_)
                  refine l_y rfl rfl (y_assign rfl) ?_
                  refine K2 (K3 (K6 ?_))
                  refine finC1 hO rfl rfl rfl ⟨_, .inr ⟨hc13, p31, c31, congrArg (fun l => Value.tuple #[.agg (List.toArray l), .int .i64 0]) (cells_eq s1 ?_ ?_ ?_ ?_), rfl⟩, by rw [← s1.attrs]; exact ((rarL_shut hF (hO.ks [.b r, .p p, .f])).ks [.o r, .p p31]).two⟩
                  · first | exact (he.1 (by omega)).1.symm | exact (he.2 (by omega)).1.symm
                  · first | exact (he.1 (by omega)).2.symm | exact (he.2 (by omega)).2.symm
                  · first | exact (hla.1 (by omega)).symm | exact (hla.2 (by omega)).symm | exact (t.free id hiA (by rw [nodeA, ← s1.up]; omega)).1.symm
                  · first | exact (hna.1 (by omega)).symm | exact (hna.2 (by omega)).symm | exact (t.free id hiA (by rw [nodeA, ← s1.up]; omega)).2.symm
            · refine K2 (K3 (L9 (K5 (K3 (K0 (K1 ?_))))))
              refine l_y rfl rfl (D8 (cs := [.int .i64 (at_ R (id : Int).toNat).Kind, .int .i64 (at_ R (id : Int).toNat).Space, .string (at_ R (id : Int).toNat).Name, .slice p31 (at_ R id.toNat).Attrs.length c31, .string (at_ R (id : Int).toNat).Data, .string (at_ R (id : Int).toNat).System, .int .i64 (at_ R (id : Int).toNat).Up, .int .i64 (at_ (at_ R id.toNat).Kids (0 : Int).toNat), .int .i64 (at_ (at_ R id.toNat).Kids (((((at_ R (id : Int).toNat).Kids.length : Nat) : Int) - 1) : Int).toNat), .int .i64 (-1), .int .i64 (-1), .int .i64 (at_ R (id : Int).toNat).Inner]) hO rfl) ?_
              refine Y3 hO rfl rfl (fun w hO => ?_)
              refine l_y rfl rfl (y_assign rfl) ?_
              refine K2 (K3 (K6 ?_))
              refine finC1 hO rfl rfl rfl ⟨_, .inr ⟨hc13, p31, c31, congrArg (fun l => Value.tuple #[.agg (List.toArray l), .int .i64 0]) (cells_eq s1 ?_ ?_ ?_ ?_), rfl⟩, by rw [← s1.attrs]; exact ((rarL_shut hF (hO.ks [.b r, .p p, .f])).ks [.o r, .p p31]).two⟩
              · first | exact (he.1 (by omega)).1.symm | exact (he.2 (by omega)).1.symm
              · first | exact (he.1 (by omega)).2.symm | exact (he.2 (by omega)).2.symm
              · first | exact (hla.1 (by omega)).symm | exact (hla.2 (by omega)).symm | exact (t.free id hiA (by rw [nodeA, ← s1.up]; omega)).1.symm
              · first | exact (hna.1 (by omega)).symm | exact (hna.2 (by omega)).symm | exact (t.free id hiA (by rw [nodeA, ← s1.up]; omega)).2.symm
          · refine K2 (K3 (L9 (K5 (K3 (K0 (K0 (K1 ?_)))))))
            refine l_y rfl rfl (y_fldb (o' := 8) rfl) ?_
            refine l_y rfl rfl (D5 hO rfl) ?_
            refine Z1 (fun h8_2 => ?_) (fun h8_2 => ?_)
            · refine K2 (K3 (L8 (K0 ?_)))
              have hpar : (nodeA A id).Parent ≠ -1 := by rw [nodeA, ← s1.up]; exact h8_2
              obtain ⟨pre, suf, hk, hpv, hnx⟩ := t.nbr hiA hpar
              have hupA := (t.up id hiA hpar).1
              have hup1 := hupA.1
              have hup2 := hupA.2
              rw [nodeA, ← s1.up] at hup1 hup2 hk hupA
              have su := s.one _ hupA
              have hrow : (at_ R ((at_ R id.toNat).Up).toNat).Kids = pre ++ id :: suf := by rw [su.kids, hk]
              have hnd := t.nodup _ hupA
              rw [hk] at hnd
              have hni : id ∉ pre := fun hm => (List.nodup_append.1 hnd).2.2 id hm id (by simp) rfl
              have hkl2 := t.len hupA
              rw [← su.kids] at hkl2
              have hkids2 := (hF.atR (i := ((at_ R id.toNat).Up).toNat) (by omega)).kids
              have hgk2 := sli_gs hkids2
              have hpl : pre.length < (at_ R ((at_ R id.toNat).Up).toNat).Kids.length := by rw [hrow]; simp
              have hla := last_at hrow
              have hna := next_at hrow
              rw [← hpv] at hla
              rw [← hnx] at hna
              refine da_region (by intro c a d v w h; cases d <;> exact h) ?_
              have hO := hO.drew
              refine da_phase _ [] (SO.ks [.b r, .b b6, .p p] hO) ?_
              refine dx_u 0 (by kernel_rfl) rfl rfl rfl (fun w => y_move rfl) ?_
              refine dx_u 1 (by kernel_rfl) rfl rfl rfl (fun w => y_nilCheck rfl rfl) ?_
              refine dx_u 2 (by kernel_rfl) rfl rfl rfl (fun w => y_fldb (o' := 0) rfl) ?_
              refine dx_y 3 (by kernel_rfl) rfl rfl rfl (fun w ⟨m, hw⟩ => D5 hw rfl) ?_
              refine dx_u 4 (by kernel_rfl) rfl rfl rfl (fun w => y_fldb (o' := 8) rfl) ?_
              refine dx_y 5 (by kernel_rfl) rfl rfl rfl (fun w ⟨m, hw⟩ => D5 hw rfl) ?_
              refine dx_u 6 (by kernel_rfl) rfl rfl rfl (fun w => y_idx rfl rfl) ?_
              refine dx_u 7 (by kernel_rfl) rfl rfl rfl (fun w => y_fld (j' := 9) rfl) ?_
              refine dx_y 8 (by kernel_rfl) rfl rfl rfl (fun w ⟨m, hw⟩ => y_e1 (x0 := 9) hw rfl) ?_
              refine dx_u 9 (by kernel_rfl) rfl rfl rfl (fun w => y_assign rfl) ?_
              refine dx_end (by kernel_rfl) ?_
              refine K3 (K0 (K1 ?_))
              refine l_y rfl rfl (y_move rfl) ?_
              refine l_y rfl rfl (y_move rfl) ?_
              refine CK [.b r, .p p, .f] hO rfl (fun k' hx hr hO' => rplace_spec hg hF (by omega) (by omega) rfl (by omega) (by omega) hrow hni (by omega) (hO := hO')) ?_
              rintro _ _ w ⟨rfl, rfl⟩ hO
              simp only [List.cons_append, List.nil_append] at hO
              refine l_y rfl rfl (y_assign rfl) ?_
              refine K2 (K3 (K0 (K0 (K1 ?_))))
              refine l_y rfl rfl (y_move rfl) ?_
              refine Z0 (fun h11_1 => ?_) (fun h11_1 => ?_)
              · refine K2 (K3 (L8 (K1 ?_)))
                refine l_y rfl rfl (y_move rfl) ?_
                refine l_y rfl rfl (y_move rfl) ?_
                refine l_y rfl rfl (D4) ?_
                refine l_y rfl rfl (y_idx rfl rfl) ?_
                refine l_y rfl rfl (y_p1 (x0 := 0) (enc := (eI .i64)) (xs := (at_ R ((at_ R id.toNat).Up).toNat).Kids) hO rfl) ?_
                refine l_y rfl rfl (y_fldb (o' := 9) rfl) ?_
                refine Y1 hO rfl rfl (fun w hO => ?_)
                simp only [List.set_cons_zero, List.set_cons_succ] at hO
                refine K2 (K3 (K0 (K1 ?_)))
                refine l_y rfl rfl (y_move rfl) ?_
                refine l_y rfl rfl (D4) ?_
                refine l_y rfl rfl (y_move rfl) ?_
                refine l_y rfl rfl (y_lenL rfl) ?_
                refine Z0 (fun h13_4 => ?_) (fun h13_4 => ?_)
                · refine K2 (K3 (L8 (K1 ?_)))
                  refine l_y rfl rfl (y_move rfl) ?_
                  refine l_y rfl rfl (y_move rfl) ?_
                  refine l_y rfl rfl (D4) ?_
                  refine l_y rfl rfl (y_idx rfl rfl) ?_
                  refine l_y rfl rfl (y_p1 (x0 := 0) (enc := (eI .i64)) (xs := (at_ R ((at_ R id.toNat).Up).toNat).Kids) hO rfl) ?_
                  refine l_y rfl rfl (y_fldb (o' := 10) rfl) ?_
                  refine Y1 hO rfl rfl (fun w hO => ?_)
                  simp only [List.set_cons_zero, List.set_cons_succ] at hO
                  refine K2 (K3 (K0 (K1 ?_)))
                  refine l_y rfl rfl (D8 (cs := [.int .i64 (at_ R (id : Int).toNat).Kind, .int .i64 (at_ R (id : Int).toNat).Space, .string (at_ R (id : Int).toNat).Name, .slice p31 (at_ R id.toNat).Attrs.length c31, .string (at_ R (id : Int).toNat).Data, .string (at_ R (id : Int).toNat).System, .int .i64 (at_ R (id : Int).toNat).Up, .int .i64 (-1), .int .i64 (-1), .int .i64 (at_ (at_ R ((at_ R id.toNat).Up).toNat).Kids (((pre.length : Int) - 1) : Int).toNat), .int .i64 (at_ (at_ R ((at_ R id.toNat).Up).toNat).Kids (((pre.length : Int) + 1) : Int).toNat), .int .i64 (at_ R (id : Int).toNat).Inner]) hO rfl) ?_
                  refine Y3 hO rfl rfl (fun w hO => ?_)
                  refine l_y rfl rfl (y_assign rfl) ?_
                  refine K2 (K3 (K6 ?_))
                  refine finC1 hO rfl rfl rfl ⟨_, .inr ⟨hc13, p31, c31, congrArg (fun l => Value.tuple #[.agg (List.toArray l), .int .i64 0]) (cells_eq s1 ?_ ?_ ?_ ?_), rfl⟩, by rw [← s1.attrs]; exact ((rarL_shut hF (hO.ks [.b r, .p p, .f])).ks [.o r, .p p31]).two⟩
                  · first | exact (he.1 (by omega)).1.symm | exact (he.2 (by omega)).1.symm
                  · first | exact (he.1 (by omega)).2.symm | exact (he.2 (by omega)).2.symm
                  · first | exact (hla.1 (by omega)).symm | exact (hla.2 (by omega)).symm | exact (t.free id hiA (by rw [nodeA, ← s1.up]; omega)).1.symm
                  · first | exact (hna.1 (by omega)).symm | exact (hna.2 (by omega)).symm | exact (t.free id hiA (by rw [nodeA, ← s1.up]; omega)).2.symm
                · refine K2 (K3 (L9 (K5 (K3 (K0 (K1 ?_))))))
                  refine l_y rfl rfl (D8 (cs := [.int .i64 (at_ R (id : Int).toNat).Kind, .int .i64 (at_ R (id : Int).toNat).Space, .string (at_ R (id : Int).toNat).Name, .slice p31 (at_ R id.toNat).Attrs.length c31, .string (at_ R (id : Int).toNat).Data, .string (at_ R (id : Int).toNat).System, .int .i64 (at_ R (id : Int).toNat).Up, .int .i64 (-1), .int .i64 (-1), .int .i64 (at_ (at_ R ((at_ R id.toNat).Up).toNat).Kids (((pre.length : Int) - 1) : Int).toNat), .int .i64 (-1), .int .i64 (at_ R (id : Int).toNat).Inner]) hO rfl) ?_
                  refine Y3 hO rfl rfl (fun w hO => ?_)
                  refine l_y rfl rfl (y_assign rfl) ?_
                  refine K2 (K3 (K6 ?_))
                  refine finC1 hO rfl rfl rfl ⟨_, .inr ⟨hc13, p31, c31, congrArg (fun l => Value.tuple #[.agg (List.toArray l), .int .i64 0]) (cells_eq s1 ?_ ?_ ?_ ?_), rfl⟩, by rw [← s1.attrs]; exact ((rarL_shut hF (hO.ks [.b r, .p p, .f])).ks [.o r, .p p31]).two⟩
                  · first | exact (he.1 (by omega)).1.symm | exact (he.2 (by omega)).1.symm
                  · first | exact (he.1 (by omega)).2.symm | exact (he.2 (by omega)).2.symm
                  · first | exact (hla.1 (by omega)).symm | exact (hla.2 (by omega)).symm | exact (t.free id hiA (by rw [nodeA, ← s1.up]; omega)).1.symm
                  · first | exact (hna.1 (by omega)).symm | exact (hna.2 (by omega)).symm | exact (t.free id hiA (by rw [nodeA, ← s1.up]; omega)).2.symm
              · refine K2 (K3 (L9 (K5 (K3 (K0 (K1 ?_))))))
                refine l_y rfl rfl (y_move rfl) ?_
                refine l_y rfl rfl (D4) ?_
                refine l_y rfl rfl (y_move rfl) ?_
                refine l_y rfl rfl (y_lenL rfl) ?_
                refine Z0 (fun h13_4 => ?_) (fun h13_4 => ?_)
                · refine K2 (K3 (L8 (K1 ?_)))
                  refine l_y rfl rfl (y_move rfl) ?_
                  refine l_y rfl rfl (y_move rfl) ?_
                  refine l_y rfl rfl (D4) ?_
                  refine l_y rfl rfl (y_idx rfl rfl) ?_
                  refine l_y rfl rfl (y_p1 (x0 := 0) (enc := (eI .i64)) (xs := (at_ R ((at_ R id.toNat).Up).toNat).Kids) hO rfl) ?_
                  refine l_y rfl rfl (y_fldb (o' := 10) rfl) ?_
                  refine Y1 hO rfl rfl (fun w hO => ?_)
                  simp only [List.set_cons_zero, List.set_cons_succ] at hO
                  refine K2 (K3 (K0 (K1 ?_)))
                  refine l_y rfl rfl (D8 (cs := [.int .i64 (at_ R (id : Int).toNat).Kind, .int .i64 (at_ R (id : Int).toNat).Space, .string (at_ R (id : Int).toNat).Name, .slice p31 (at_ R id.toNat).Attrs.length c31, .string (at_ R (id : Int).toNat).Data, .string (at_ R (id : Int).toNat).System, .int .i64 (at_ R (id : Int).toNat).Up, .int .i64 (-1), .int .i64 (-1), .int .i64 (-1), .int .i64 (at_ (at_ R ((at_ R id.toNat).Up).toNat).Kids (((pre.length : Int) + 1) : Int).toNat), .int .i64 (at_ R (id : Int).toNat).Inner]) hO rfl) ?_
                  refine Y3 hO rfl rfl (fun w hO => ?_)
                  refine l_y rfl rfl (y_assign rfl) ?_
                  refine K2 (K3 (K6 ?_))
                  refine finC1 hO rfl rfl rfl ⟨_, .inr ⟨hc13, p31, c31, congrArg (fun l => Value.tuple #[.agg (List.toArray l), .int .i64 0]) (cells_eq s1 ?_ ?_ ?_ ?_), rfl⟩, by rw [← s1.attrs]; exact ((rarL_shut hF (hO.ks [.b r, .p p, .f])).ks [.o r, .p p31]).two⟩
                  · first | exact (he.1 (by omega)).1.symm | exact (he.2 (by omega)).1.symm
                  · first | exact (he.1 (by omega)).2.symm | exact (he.2 (by omega)).2.symm
                  · first | exact (hla.1 (by omega)).symm | exact (hla.2 (by omega)).symm | exact (t.free id hiA (by rw [nodeA, ← s1.up]; omega)).1.symm
                  · first | exact (hna.1 (by omega)).symm | exact (hna.2 (by omega)).symm | exact (t.free id hiA (by rw [nodeA, ← s1.up]; omega)).2.symm
                · refine K2 (K3 (L9 (K5 (K3 (K0 (K1 ?_))))))
                  refine l_y rfl rfl (D8 (cs := [.int .i64 (at_ R (id : Int).toNat).Kind, .int .i64 (at_ R (id : Int).toNat).Space, .string (at_ R (id : Int).toNat).Name, .slice p31 (at_ R id.toNat).Attrs.length c31, .string (at_ R (id : Int).toNat).Data, .string (at_ R (id : Int).toNat).System, .int .i64 (at_ R (id : Int).toNat).Up, .int .i64 (-1), .int .i64 (-1), .int .i64 (-1), .int .i64 (-1), .int .i64 (at_ R (id : Int).toNat).Inner]) hO rfl) ?_
                  refine Y3 hO rfl rfl (fun w hO => ?_)
                  refine l_y rfl rfl (y_assign rfl) ?_
                  refine K2 (K3 (K6 ?_))
                  refine finC1 hO rfl rfl rfl ⟨_, .inr ⟨hc13, p31, c31, congrArg (fun l => Value.tuple #[.agg (List.toArray l), .int .i64 0]) (cells_eq s1 ?_ ?_ ?_ ?_), rfl⟩, by rw [← s1.attrs]; exact ((rarL_shut hF (hO.ks [.b r, .p p, .f])).ks [.o r, .p p31]).two⟩
                  · first | exact (he.1 (by omega)).1.symm | exact (he.2 (by omega)).1.symm
                  · first | exact (he.1 (by omega)).2.symm | exact (he.2 (by omega)).2.symm
                  · first | exact (hla.1 (by omega)).symm | exact (hla.2 (by omega)).symm | exact (t.free id hiA (by rw [nodeA, ← s1.up]; omega)).1.symm
                  · first | exact (hna.1 (by omega)).symm | exact (hna.2 (by omega)).symm | exact (t.free id hiA (by rw [nodeA, ← s1.up]; omega)).2.symm
            · refine K2 (K3 (L9 (K5 (K3 (K0 (K1 ?_))))))
              refine l_y rfl rfl (D8 (cs := [.int .i64 (at_ R (id : Int).toNat).Kind, .int .i64 (at_ R (id : Int).toNat).Space, .string (at_ R (id : Int).toNat).Name, .slice p31 (at_ R id.toNat).Attrs.length c31, .string (at_ R (id : Int).toNat).Data, .string (at_ R (id : Int).toNat).System, .int .i64 (at_ R (id : Int).toNat).Up, .int .i64 (-1), .int .i64 (-1), .int .i64 (-1), .int .i64 (-1), .int .i64 (at_ R (id : Int).toNat).Inner]) hO rfl) ?_
              refine Y3 hO rfl rfl (fun w hO => ?_)
              refine l_y rfl rfl (y_assign rfl) ?_
              refine K2 (K3 (K6 ?_))
              refine finC1 hO rfl rfl rfl ⟨_, .inr ⟨hc13, p31, c31, congrArg (fun l => Value.tuple #[.agg (List.toArray l), .int .i64 0]) (cells_eq s1 ?_ ?_ ?_ ?_), rfl⟩, by rw [← s1.attrs]; exact ((rarL_shut hF (hO.ks [.b r, .p p, .f])).ks [.o r, .p p31]).two⟩
              · first | exact (he.1 (by omega)).1.symm | exact (he.2 (by omega)).1.symm
              · first | exact (he.1 (by omega)).2.symm | exact (he.2 (by omega)).2.symm
              · first | exact (hla.1 (by omega)).symm | exact (hla.2 (by omega)).symm | exact (t.free id hiA (by rw [nodeA, ← s1.up]; omega)).1.symm
              · first | exact (hna.1 (by omega)).symm | exact (hna.2 (by omega)).symm | exact (t.free id hiA (by rw [nodeA, ← s1.up]; omega)).2.symm
      · refine s_alloc (vs := [.int .i64 0, .int .i64 0, .string ⟨#[]⟩, .slice none 0 0, .string ⟨#[]⟩, .string ⟨#[]⟩, .int .i64 0, .int .i64 0, .int .i64 0, .int .i64 0, .int .i64 0, .int .i64 0]) hO rfl rfl rfl fun b7 w hO => ?_
        refine o_done ?_
        refine ⟨SO.ks [.b b6] hO, ?_⟩
        refine dx_only 9 (by kernel_rfl) rfl rfl ?_
        refine s_app0 hO rfl rfl (src_pool hO (by assumption)) (fun p31 c31 w hO gs31 => ?_)
        refine o_done ?_
        refine ⟨SO.ks [.b b6] hO, ?_⟩
        refine dx_only 18 (by kernel_rfl) rfl rfl ?_
        refine s_build (parts := [(0, .tmp 23), (1, .tmp 25), (2, .tmp 27), (3, .tmp 31), (4, .tmp 33), (5, .tmp 35), (6, .tmp 37), (7, .const (.int .i64 (-1))), (8, .const (.int .i64 (-1))), (9, .const (.int .i64 (-1))), (10, .const (.int .i64 (-1))), (11, .tmp 39)]) (cs := [.int .i64 (at_ R (id : Int).toNat).Kind, .int .i64 (at_ R (id : Int).toNat).Space, .string (at_ R (id : Int).toNat).Name, .slice p31 (at_ R id.toNat).Attrs.length c31, .string (at_ R (id : Int).toNat).Data, .string (at_ R (id : Int).toNat).System, .int .i64 (at_ R (id : Int).toNat).Up, .int .i64 (-1), .int .i64 (-1), .int .i64 (-1), .int .i64 (-1), .int .i64 (at_ R (id : Int).toNat).Inner]) rfl rfl (fun a ha => partsOf_sound ha _ _ rfl) (by kernel_rfl) ?_
        refine o_done ?_
        refine ⟨SO.ks [.b b6] hO, ?_⟩
        refine dx_close 20 (by kernel_rfl) rfl rfl ?_
        refine Y3 hO rfl rfl (fun w hO => ?_)
        refine o_done ?_
        refine da_end (by kernel_rfl) ?_
        refine K3 (K0 (K0 (K1 ?_)))
        refine l_y rfl rfl (y_fldb (o' := 9) rfl) ?_
        refine l_y rfl rfl (D5 hO rfl) ?_
        refine l_y rfl rfl (y_lenL rfl) ?_
        refine Z0 (fun h5_3 => ?_) (fun h5_3 => ?_)
        · refine K2 (K3 (L8 (K0 (K1 ?_))))
          refine l_y rfl rfl (y_fldb (o' := 9) rfl) ?_
          refine l_y rfl rfl (D5 hO rfl) ?_
          refine l_y rfl rfl (y_idx rfl rfl) ?_
          refine l_y rfl rfl (y_p1 (x0 := 0) (enc := (eI .i64)) (xs := (at_ R id.toNat).Kids) hO rfl) ?_
          refine l_y rfl rfl (y_fldb (o' := 7) rfl) ?_
          refine Y1 hO rfl rfl (fun w hO => ?_)
          simp only [List.set_cons_zero, List.set_cons_succ] at hO
          refine K2 (K3 (K1 ?_))
          refine l_y rfl rfl (y_fldb (o' := 9) rfl) ?_
          refine l_y rfl rfl (D5 hO rfl) ?_
          refine l_y rfl rfl (y_fldb (o' := 9) rfl) ?_
          refine l_y rfl rfl (D5 hO rfl) ?_
          refine l_y rfl rfl (y_lenL rfl) ?_
          refine l_y rfl rfl (D4) ?_
          refine l_y rfl rfl (y_idx rfl rfl) ?_
          refine l_y rfl rfl (y_p1 (x0 := 0) (enc := (eI .i64)) (xs := (at_ R id.toNat).Kids) hO rfl) ?_
          refine l_y rfl rfl (y_fldb (o' := 8) rfl) ?_
          refine Y1 hO rfl rfl (fun w hO => ?_)
          simp only [List.set_cons_zero, List.set_cons_succ] at hO
          refine K2 (K3 (K0 (K0 (K1 ?_))))
          refine l_y rfl rfl (y_fldb (o' := 8) rfl) ?_
          refine l_y rfl rfl (D5 hO rfl) ?_
          refine Z1 (fun h8_2 => ?_) (fun h8_2 => ?_)
          · refine K2 (K3 (L8 (K0 ?_)))
            have hpar : (nodeA A id).Parent ≠ -1 := by rw [nodeA, ← s1.up]; exact h8_2
            obtain ⟨pre, suf, hk, hpv, hnx⟩ := t.nbr hiA hpar
            have hupA := (t.up id hiA hpar).1
            have hup1 := hupA.1
            have hup2 := hupA.2
            rw [nodeA, ← s1.up] at hup1 hup2 hk hupA
            have su := s.one _ hupA
            have hrow : (at_ R ((at_ R id.toNat).Up).toNat).Kids = pre ++ id :: suf := by rw [su.kids, hk]
            have hnd := t.nodup _ hupA
            rw [hk] at hnd
            have hni : id ∉ pre := fun hm => (List.nodup_append.1 hnd).2.2 id hm id (by simp) rfl
            have hkl2 := t.len hupA
            rw [← su.kids] at hkl2
            have hkids2 := (hF.atR (i := ((at_ R id.toNat).Up).toNat) (by omega)).kids
            have hgk2 := sli_gs hkids2
            have hpl : pre.length < (at_ R ((at_ R id.toNat).Up).toNat).Kids.length := by rw [hrow]; simp
            have hla := last_at hrow
            have hna := next_at hrow
            rw [← hpv] at hla
            rw [← hnx] at hna
            refine da_region (by intro c a d v w h; cases d <;> exact h) ?_
            have hO := hO.drew
            refine da_phase _ [] (SO.ks [.b r, .b b6, .p p] hO) ?_
            refine dx_u 0 (by kernel_rfl) rfl rfl rfl (fun w => y_move rfl) ?_
            refine dx_u 1 (by kernel_rfl) rfl rfl rfl (fun w => y_nilCheck rfl rfl) ?_
            refine dx_u 2 (by kernel_rfl) rfl rfl rfl (fun w => y_fldb (o' := 0) rfl) ?_
            refine dx_y 3 (by kernel_rfl) rfl rfl rfl (fun w ⟨m, hw⟩ => D5 hw rfl) ?_
            refine dx_u 4 (by kernel_rfl) rfl rfl rfl (fun w => y_fldb (o' := 8) rfl) ?_
            refine dx_y 5 (by kernel_rfl) rfl rfl rfl (fun w ⟨m, hw⟩ => D5 hw rfl) ?_
            refine dx_u 6 (by kernel_rfl) rfl rfl rfl (fun w => y_idx rfl rfl) ?_
            refine dx_u 7 (by kernel_rfl) rfl rfl rfl (fun w => y_fld (j' := 9) rfl) ?_
            refine dx_y 8 (by kernel_rfl) rfl rfl rfl (fun w ⟨m, hw⟩ => y_e1 (x0 := 9) hw rfl) ?_
            refine dx_u 9 (by kernel_rfl) rfl rfl rfl (fun w => y_assign rfl) ?_
            refine dx_end (by kernel_rfl) ?_
            refine K3 (K0 (K1 ?_))
            refine l_y rfl rfl (y_move rfl) ?_
            refine l_y rfl rfl (y_move rfl) ?_
            refine CK [.b r, .p p, .f] hO rfl (fun k' hx hr hO' => rplace_spec hg hF (by omega) (by omega) rfl (by omega) (by omega) hrow hni (by omega) (hO := hO')) ?_
            rintro _ _ w ⟨rfl, rfl⟩ hO
            simp only [List.cons_append, List.nil_append] at hO
            refine l_y rfl rfl (y_assign rfl) ?_
            refine K2 (K3 (K0 (K0 (K1 ?_))))
            refine l_y rfl rfl (y_move rfl) ?_
            refine Z0 (fun h11_1 => ?_) (fun h11_1 => ?_)
            · refine K2 (K3 (L8 (K1 ?_)))
              refine l_y rfl rfl (y_move rfl) ?_
              refine l_y rfl rfl (y_move rfl) ?_
              refine l_y rfl rfl (D4) ?_
              refine l_y rfl rfl (y_idx rfl rfl) ?_
              refine l_y rfl rfl (y_p1 (x0 := 0) (enc := (eI .i64)) (xs := (at_ R ((at_ R id.toNat).Up).toNat).Kids) hO rfl) ?_
              refine l_y rfl rfl (y_fldb (o' := 9) rfl) ?_
              refine Y1 hO rfl rfl (fun w hO => ?_)
              simp only [List.set_cons_zero, List.set_cons_succ] at hO
              refine K2 (K3 (K0 (K1 ?_)))
              refine l_y rfl rfl (y_move rfl) ?_
              refine l_y rfl rfl (D4) ?_
              refine l_y rfl rfl (y_move rfl) ?_
              refine l_y rfl rfl (y_lenL rfl) ?_
              refine Z0 (fun h13_4 => ?_) (fun h13_4 => ?_)
              · refine K2 (K3 (L8 (K1 ?_)))
                refine l_y rfl rfl (y_move rfl) ?_
                refine l_y rfl rfl (y_move rfl) ?_
                refine l_y rfl rfl (D4) ?_
                refine l_y rfl rfl (y_idx rfl rfl) ?_
                refine l_y rfl rfl (y_p1 (x0 := 0) (enc := (eI .i64)) (xs := (at_ R ((at_ R id.toNat).Up).toNat).Kids) hO rfl) ?_
                refine l_y rfl rfl (y_fldb (o' := 10) rfl) ?_
                refine Y1 hO rfl rfl (fun w hO => ?_)
                simp only [List.set_cons_zero, List.set_cons_succ] at hO
                refine K2 (K3 (K0 (K1 ?_)))
                refine l_y rfl rfl (D8 (cs := [.int .i64 (at_ R (id : Int).toNat).Kind, .int .i64 (at_ R (id : Int).toNat).Space, .string (at_ R (id : Int).toNat).Name, .slice p31 (at_ R id.toNat).Attrs.length c31, .string (at_ R (id : Int).toNat).Data, .string (at_ R (id : Int).toNat).System, .int .i64 (at_ R (id : Int).toNat).Up, .int .i64 (at_ (at_ R id.toNat).Kids (0 : Int).toNat), .int .i64 (at_ (at_ R id.toNat).Kids (((((at_ R (id : Int).toNat).Kids.length : Nat) : Int) - 1) : Int).toNat), .int .i64 (at_ (at_ R ((at_ R id.toNat).Up).toNat).Kids (((pre.length : Int) - 1) : Int).toNat), .int .i64 (at_ (at_ R ((at_ R id.toNat).Up).toNat).Kids (((pre.length : Int) + 1) : Int).toNat), .int .i64 (at_ R (id : Int).toNat).Inner]) hO rfl) ?_
                refine Y3 hO rfl rfl (fun w hO => ?_)
                refine l_y rfl rfl (y_assign rfl) ?_
                refine K2 (K3 (K6 ?_))
                refine finC1 hO rfl rfl rfl ⟨_, .inr ⟨hc13, p31, c31, congrArg (fun l => Value.tuple #[.agg (List.toArray l), .int .i64 0]) (cells_eq s1 ?_ ?_ ?_ ?_), rfl⟩, by rw [← s1.attrs]; exact ((rarL_shut hF (hO.ks [.b r, .p p, .f])).ks [.o r, .p p31]).two⟩
                · first | exact (he.1 (by omega)).1.symm | exact (he.2 (by omega)).1.symm
                · first | exact (he.1 (by omega)).2.symm | exact (he.2 (by omega)).2.symm
                · first | exact (hla.1 (by omega)).symm | exact (hla.2 (by omega)).symm | exact (t.free id hiA (by rw [nodeA, ← s1.up]; omega)).1.symm
                · first | exact (hna.1 (by omega)).symm | exact (hna.2 (by omega)).symm | exact (t.free id hiA (by rw [nodeA, ← s1.up]; omega)).2.symm
              · refine K2 (K3 (L9 (K5 (K3 (K0 (K1 ?_))))))
                refine l_y rfl rfl (D8 (cs := [.int .i64 (at_ R (id : Int).toNat).Kind, .int .i64 (at_ R (id : Int).toNat).Space, .string (at_ R (id : Int).toNat).Name, .slice p31 (at_ R id.toNat).Attrs.length c31, .string (at_ R (id : Int).toNat).Data, .string (at_ R (id : Int).toNat).System, .int .i64 (at_ R (id : Int).toNat).Up, .int .i64 (at_ (at_ R id.toNat).Kids (0 : Int).toNat), .int .i64 (at_ (at_ R id.toNat).Kids (((((at_ R (id : Int).toNat).Kids.length : Nat) : Int) - 1) : Int).toNat), .int .i64 (at_ (at_ R ((at_ R id.toNat).Up).toNat).Kids (((pre.length : Int) - 1) : Int).toNat), .int .i64 (-1), .int .i64 (at_ R (id : Int).toNat).Inner]) hO rfl) ?_
                refine Y3 hO rfl rfl (fun w hO => ?_)
                refine l_y rfl rfl (y_assign rfl) ?_
                refine K2 (K3 (K6 ?_))
                refine finC1 hO rfl rfl rfl ⟨_, .inr ⟨hc13, p31, c31, congrArg (fun l => Value.tuple #[.agg (List.toArray l), .int .i64 0]) (cells_eq s1 ?_ ?_ ?_ ?_), rfl⟩, by rw [← s1.attrs]; exact ((rarL_shut hF (hO.ks [.b r, .p p, .f])).ks [.o r, .p p31]).two⟩
                · first | exact (he.1 (by omega)).1.symm | exact (he.2 (by omega)).1.symm
                · first | exact (he.1 (by omega)).2.symm | exact (he.2 (by omega)).2.symm
                · first | exact (hla.1 (by omega)).symm | exact (hla.2 (by omega)).symm | exact (t.free id hiA (by rw [nodeA, ← s1.up]; omega)).1.symm
                · first | exact (hna.1 (by omega)).symm | exact (hna.2 (by omega)).symm | exact (t.free id hiA (by rw [nodeA, ← s1.up]; omega)).2.symm
            · refine K2 (K3 (L9 (K5 (K3 (K0 (K1 ?_))))))
              refine l_y rfl rfl (y_move rfl) ?_
              refine l_y rfl rfl (D4) ?_
              refine l_y rfl rfl (y_move rfl) ?_
              refine l_y rfl rfl (y_lenL rfl) ?_
              refine Z0 (fun h13_4 => ?_) (fun h13_4 => ?_)
              · refine K2 (K3 (L8 (K1 ?_)))
                refine l_y rfl rfl (y_move rfl) ?_
                refine l_y rfl rfl (y_move rfl) ?_
                refine l_y rfl rfl (D4) ?_
                refine l_y rfl rfl (y_idx rfl rfl) ?_
                refine l_y rfl rfl (y_p1 (x0 := 0) (enc := (eI .i64)) (xs := (at_ R ((at_ R id.toNat).Up).toNat).Kids) hO rfl) ?_
                refine l_y rfl rfl (y_fldb (o' := 10) rfl) ?_
                refine Y1 hO rfl rfl (fun w hO => ?_)
                simp only [List.set_cons_zero, List.set_cons_succ] at hO
                refine K2 (K3 (K0 (K1 ?_)))
                refine l_y rfl rfl (D8 (cs := [.int .i64 (at_ R (id : Int).toNat).Kind, .int .i64 (at_ R (id : Int).toNat).Space, .string (at_ R (id : Int).toNat).Name, .slice p31 (at_ R id.toNat).Attrs.length c31, .string (at_ R (id : Int).toNat).Data, .string (at_ R (id : Int).toNat).System, .int .i64 (at_ R (id : Int).toNat).Up, .int .i64 (at_ (at_ R id.toNat).Kids (0 : Int).toNat), .int .i64 (at_ (at_ R id.toNat).Kids (((((at_ R (id : Int).toNat).Kids.length : Nat) : Int) - 1) : Int).toNat), .int .i64 (-1), .int .i64 (at_ (at_ R ((at_ R id.toNat).Up).toNat).Kids (((pre.length : Int) + 1) : Int).toNat), .int .i64 (at_ R (id : Int).toNat).Inner]) hO rfl) ?_
                refine Y3 hO rfl rfl (fun w hO => ?_)
                refine l_y rfl rfl (y_assign rfl) ?_
                refine K2 (K3 (K6 ?_))
                refine finC1 hO rfl rfl rfl ⟨_, .inr ⟨hc13, p31, c31, congrArg (fun l => Value.tuple #[.agg (List.toArray l), .int .i64 0]) (cells_eq s1 ?_ ?_ ?_ ?_), rfl⟩, by rw [← s1.attrs]; exact ((rarL_shut hF (hO.ks [.b r, .p p, .f])).ks [.o r, .p p31]).two⟩
                · first | exact (he.1 (by omega)).1.symm | exact (he.2 (by omega)).1.symm
                · first | exact (he.1 (by omega)).2.symm | exact (he.2 (by omega)).2.symm
                · first | exact (hla.1 (by omega)).symm | exact (hla.2 (by omega)).symm | exact (t.free id hiA (by rw [nodeA, ← s1.up]; omega)).1.symm
                · first | exact (hna.1 (by omega)).symm | exact (hna.2 (by omega)).symm | exact (t.free id hiA (by rw [nodeA, ← s1.up]; omega)).2.symm
              · refine K2 (K3 (L9 (K5 (K3 (K0 (K1 ?_))))))
                refine l_y rfl rfl (D8 (cs := [.int .i64 (at_ R (id : Int).toNat).Kind, .int .i64 (at_ R (id : Int).toNat).Space, .string (at_ R (id : Int).toNat).Name, .slice p31 (at_ R id.toNat).Attrs.length c31, .string (at_ R (id : Int).toNat).Data, .string (at_ R (id : Int).toNat).System, .int .i64 (at_ R (id : Int).toNat).Up, .int .i64 (at_ (at_ R id.toNat).Kids (0 : Int).toNat), .int .i64 (at_ (at_ R id.toNat).Kids (((((at_ R (id : Int).toNat).Kids.length : Nat) : Int) - 1) : Int).toNat), .int .i64 (-1), .int .i64 (-1), .int .i64 (at_ R (id : Int).toNat).Inner]) hO rfl) ?_
                refine Y3 hO rfl rfl (fun w hO => ?_)
                refine l_y rfl rfl (y_assign rfl) ?_
                refine K2 (K3 (K6 ?_))
                refine finC1 hO rfl rfl rfl ⟨_, .inr ⟨hc13, p31, c31, congrArg (fun l => Value.tuple #[.agg (List.toArray l), .int .i64 0]) (cells_eq s1 ?_ ?_ ?_ ?_), rfl⟩, by rw [← s1.attrs]; exact ((rarL_shut hF (hO.ks [.b r, .p p, .f])).ks [.o r, .p p31]).two⟩
                · first | exact (he.1 (by omega)).1.symm | exact (he.2 (by omega)).1.symm
                · first | exact (he.1 (by omega)).2.symm | exact (he.2 (by omega)).2.symm
                · first | exact (hla.1 (by omega)).symm | exact (hla.2 (by omega)).symm | exact (t.free id hiA (by rw [nodeA, ← s1.up]; omega)).1.symm
                · first | exact (hna.1 (by omega)).symm | exact (hna.2 (by omega)).symm | exact (t.free id hiA (by rw [nodeA, ← s1.up]; omega)).2.symm
          · refine K2 (K3 (L9 (K5 (K3 (K0 (K1 ?_))))))
            refine l_y rfl rfl (D8 (cs := [.int .i64 (at_ R (id : Int).toNat).Kind, .int .i64 (at_ R (id : Int).toNat).Space, .string (at_ R (id : Int).toNat).Name, .slice p31 (at_ R id.toNat).Attrs.length c31, .string (at_ R (id : Int).toNat).Data, .string (at_ R (id : Int).toNat).System, .int .i64 (at_ R (id : Int).toNat).Up, .int .i64 (at_ (at_ R id.toNat).Kids (0 : Int).toNat), .int .i64 (at_ (at_ R id.toNat).Kids (((((at_ R (id : Int).toNat).Kids.length : Nat) : Int) - 1) : Int).toNat), .int .i64 (-1), .int .i64 (-1), .int .i64 (at_ R (id : Int).toNat).Inner]) hO rfl) ?_
            refine Y3 hO rfl rfl (fun w hO => ?_)
            refine l_y rfl rfl (y_assign rfl) ?_
            refine K2 (K3 (K6 ?_))
            refine finC1 hO rfl rfl rfl ⟨_, .inr ⟨hc13, p31, c31, congrArg (fun l => Value.tuple #[.agg (List.toArray l), .int .i64 0]) (cells_eq s1 ?_ ?_ ?_ ?_), rfl⟩, by rw [← s1.attrs]; exact ((rarL_shut hF (hO.ks [.b r, .p p, .f])).ks [.o r, .p p31]).two⟩
            · first | exact (he.1 (by omega)).1.symm | exact (he.2 (by omega)).1.symm
            · first | exact (he.1 (by omega)).2.symm | exact (he.2 (by omega)).2.symm
            · first | exact (hla.1 (by omega)).symm | exact (hla.2 (by omega)).symm | exact (t.free id hiA (by rw [nodeA, ← s1.up]; omega)).1.symm
            · first | exact (hna.1 (by omega)).symm | exact (hna.2 (by omega)).symm | exact (t.free id hiA (by rw [nodeA, ← s1.up]; omega)).2.symm
        · refine K2 (K3 (L9 (K5 (K3 (K0 (K0 (K1 ?_)))))))
          refine l_y rfl rfl (y_fldb (o' := 8) rfl) ?_
          refine l_y rfl rfl (D5 hO rfl) ?_
          refine Z1 (fun h8_2 => ?_) (fun h8_2 => ?_)
          · refine K2 (K3 (L8 (K0 ?_)))
            have hpar : (nodeA A id).Parent ≠ -1 := by rw [nodeA, ← s1.up]; exact h8_2
            obtain ⟨pre, suf, hk, hpv, hnx⟩ := t.nbr hiA hpar
            have hupA := (t.up id hiA hpar).1
            have hup1 := hupA.1
            have hup2 := hupA.2
            rw [nodeA, ← s1.up] at hup1 hup2 hk hupA
            have su := s.one _ hupA
            have hrow : (at_ R ((at_ R id.toNat).Up).toNat).Kids = pre ++ id :: suf := by rw [su.kids, hk]
            have hnd := t.nodup _ hupA
            rw [hk] at hnd
            have hni : id ∉ pre := fun hm => (List.nodup_append.1 hnd).2.2 id hm id (by simp) rfl
            have hkl2 := t.len hupA
            rw [← su.kids] at hkl2
            have hkids2 := (hF.atR (i := ((at_ R id.toNat).Up).toNat) (by omega)).kids
            have hgk2 := sli_gs hkids2
            have hpl : pre.length < (at_ R ((at_ R id.toNat).Up).toNat).Kids.length := by rw [hrow]; simp
            have hla := last_at hrow
            have hna := next_at hrow
            rw [← hpv] at hla
            rw [← hnx] at hna
            refine da_region (by intro c a d v w h; cases d <;> exact h) ?_
            have hO := hO.drew
            refine da_phase _ [] (SO.ks [.b r, .b b6, .p p] hO) ?_
            refine dx_u 0 (by kernel_rfl) rfl rfl rfl (fun w => y_move rfl) ?_
            refine dx_u 1 (by kernel_rfl) rfl rfl rfl (fun w => y_nilCheck rfl rfl) ?_
            refine dx_u 2 (by kernel_rfl) rfl rfl rfl (fun w => y_fldb (o' := 0) rfl) ?_
            refine dx_y 3 (by kernel_rfl) rfl rfl rfl (fun w ⟨m, hw⟩ => D5 hw rfl) ?_
            refine dx_u 4 (by kernel_rfl) rfl rfl rfl (fun w => y_fldb (o' := 8) rfl) ?_
            refine dx_y 5 (by kernel_rfl) rfl rfl rfl (fun w ⟨m, hw⟩ => D5 hw rfl) ?_
            refine dx_u 6 (by kernel_rfl) rfl rfl rfl (fun w => y_idx rfl rfl) ?_
            refine dx_u 7 (by kernel_rfl) rfl rfl rfl (fun w => y_fld (j' := 9) rfl) ?_
            refine dx_y 8 (by kernel_rfl) rfl rfl rfl (fun w ⟨m, hw⟩ => y_e1 (x0 := 9) hw rfl) ?_
            refine dx_u 9 (by kernel_rfl) rfl rfl rfl (fun w => y_assign rfl) ?_
            refine dx_end (by kernel_rfl) ?_
            refine K3 (K0 (K1 ?_))
            refine l_y rfl rfl (y_move rfl) ?_
            refine l_y rfl rfl (y_move rfl) ?_
            refine CK [.b r, .p p, .f] hO rfl (fun k' hx hr hO' => rplace_spec hg hF (by omega) (by omega) rfl (by omega) (by omega) hrow hni (by omega) (hO := hO')) ?_
            rintro _ _ w ⟨rfl, rfl⟩ hO
            simp only [List.cons_append, List.nil_append] at hO
            refine l_y rfl rfl (y_assign rfl) ?_
            refine K2 (K3 (K0 (K0 (K1 ?_))))
            refine l_y rfl rfl (y_move rfl) ?_
            refine Z0 (fun h11_1 => ?_) (fun h11_1 => ?_)
            · refine K2 (K3 (L8 (K1 ?_)))
              refine l_y rfl rfl (y_move rfl) ?_
              refine l_y rfl rfl (y_move rfl) ?_
              refine l_y rfl rfl (D4) ?_
              refine l_y rfl rfl (y_idx rfl rfl) ?_
              refine l_y rfl rfl (y_p1 (x0 := 0) (enc := (eI .i64)) (xs := (at_ R ((at_ R id.toNat).Up).toNat).Kids) hO rfl) ?_
              refine l_y rfl rfl (y_fldb (o' := 9) rfl) ?_
              refine Y1 hO rfl rfl (fun w hO => ?_)
              simp only [List.set_cons_zero, List.set_cons_succ] at hO
              refine K2 (K3 (K0 (K1 ?_)))
              refine l_y rfl rfl (y_move rfl) ?_
              refine l_y rfl rfl (D4) ?_
              refine l_y rfl rfl (y_move rfl) ?_
              refine l_y rfl rfl (y_lenL rfl) ?_
              refine Z0 (fun h13_4 => ?_) (fun h13_4 => ?_)
              · refine K2 (K3 (L8 (K1 ?_)))
                refine l_y rfl rfl (y_move rfl) ?_
                refine l_y rfl rfl (y_move rfl) ?_
                refine l_y rfl rfl (D4) ?_
                refine l_y rfl rfl (y_idx rfl rfl) ?_
                refine l_y rfl rfl (y_p1 (x0 := 0) (enc := (eI .i64)) (xs := (at_ R ((at_ R id.toNat).Up).toNat).Kids) hO rfl) ?_
                refine l_y rfl rfl (y_fldb (o' := 10) rfl) ?_
                refine Y1 hO rfl rfl (fun w hO => ?_)
                simp only [List.set_cons_zero, List.set_cons_succ] at hO
                refine K2 (K3 (K0 (K1 ?_)))
                refine l_y rfl rfl (D8 (cs := [.int .i64 (at_ R (id : Int).toNat).Kind, .int .i64 (at_ R (id : Int).toNat).Space, .string (at_ R (id : Int).toNat).Name, .slice p31 (at_ R id.toNat).Attrs.length c31, .string (at_ R (id : Int).toNat).Data, .string (at_ R (id : Int).toNat).System, .int .i64 (at_ R (id : Int).toNat).Up, .int .i64 (-1), .int .i64 (-1), .int .i64 (at_ (at_ R ((at_ R id.toNat).Up).toNat).Kids (((pre.length : Int) - 1) : Int).toNat), .int .i64 (at_ (at_ R ((at_ R id.toNat).Up).toNat).Kids (((pre.length : Int) + 1) : Int).toNat), .int .i64 (at_ R (id : Int).toNat).Inner]) hO rfl) ?_
                refine Y3 hO rfl rfl (fun w hO => ?_)
                refine l_y rfl rfl (y_assign rfl) ?_
                refine K2 (K3 (K6 ?_))
                refine finC1 hO rfl rfl rfl ⟨_, .inr ⟨hc13, p31, c31, congrArg (fun l => Value.tuple #[.agg (List.toArray l), .int .i64 0]) (cells_eq s1 ?_ ?_ ?_ ?_), rfl⟩, by rw [← s1.attrs]; exact ((rarL_shut hF (hO.ks [.b r, .p p, .f])).ks [.o r, .p p31]).two⟩
                · first | exact (he.1 (by omega)).1.symm | exact (he.2 (by omega)).1.symm
                · first | exact (he.1 (by omega)).2.symm | exact (he.2 (by omega)).2.symm
                · first | exact (hla.1 (by omega)).symm | exact (hla.2 (by omega)).symm | exact (t.free id hiA (by rw [nodeA, ← s1.up]; omega)).1.symm
                · first | exact (hna.1 (by omega)).symm | exact (hna.2 (by omega)).symm | exact (t.free id hiA (by rw [nodeA, ← s1.up]; omega)).2.symm
              · refine K2 (K3 (L9 (K5 (K3 (K0 (K1 ?_))))))
                refine l_y rfl rfl (D8 (cs := [.int .i64 (at_ R (id : Int).toNat).Kind, .int .i64 (at_ R (id : Int).toNat).Space, .string (at_ R (id : Int).toNat).Name, .slice p31 (at_ R id.toNat).Attrs.length c31, .string (at_ R (id : Int).toNat).Data, .string (at_ R (id : Int).toNat).System, .int .i64 (at_ R (id : Int).toNat).Up, .int .i64 (-1), .int .i64 (-1), .int .i64 (at_ (at_ R ((at_ R id.toNat).Up).toNat).Kids (((pre.length : Int) - 1) : Int).toNat), .int .i64 (-1), .int .i64 (at_ R (id : Int).toNat).Inner]) hO rfl) ?_
                refine Y3 hO rfl rfl (fun w hO => ?_)
                refine l_y rfl rfl (y_assign rfl) ?_
                refine K2 (K3 (K6 ?_))
                refine finC1 hO rfl rfl rfl ⟨_, .inr ⟨hc13, p31, c31, congrArg (fun l => Value.tuple #[.agg (List.toArray l), .int .i64 0]) (cells_eq s1 ?_ ?_ ?_ ?_), rfl⟩, by rw [← s1.attrs]; exact ((rarL_shut hF (hO.ks [.b r, .p p, .f])).ks [.o r, .p p31]).two⟩
                · first | exact (he.1 (by omega)).1.symm | exact (he.2 (by omega)).1.symm
                · first | exact (he.1 (by omega)).2.symm | exact (he.2 (by omega)).2.symm
                · first | exact (hla.1 (by omega)).symm | exact (hla.2 (by omega)).symm | exact (t.free id hiA (by rw [nodeA, ← s1.up]; omega)).1.symm
                · first | exact (hna.1 (by omega)).symm | exact (hna.2 (by omega)).symm | exact (t.free id hiA (by rw [nodeA, ← s1.up]; omega)).2.symm
            · refine K2 (K3 (L9 (K5 (K3 (K0 (K1 ?_))))))
              refine l_y rfl rfl (y_move rfl) ?_
              refine l_y rfl rfl (D4) ?_
              refine l_y rfl rfl (y_move rfl) ?_
              refine l_y rfl rfl (y_lenL rfl) ?_
              refine Z0 (fun h13_4 => ?_) (fun h13_4 => ?_)
              · refine K2 (K3 (L8 (K1 ?_)))
                refine l_y rfl rfl (y_move rfl) ?_
                refine l_y rfl rfl (y_move rfl) ?_
                refine l_y rfl rfl (D4) ?_
                refine l_y rfl rfl (y_idx rfl rfl) ?_
                refine l_y rfl rfl (y_p1 (x0 := 0) (enc := (eI .i64)) (xs := (at_ R ((at_ R id.toNat).Up).toNat).Kids) hO rfl) ?_
                refine l_y rfl rfl (y_fldb (o' := 10) rfl) ?_
                refine Y1 hO rfl rfl (fun w hO => ?_)
                simp only [List.set_cons_zero, List.set_cons_succ] at hO
                refine K2 (K3 (K0 (K1 ?_)))
                refine l_y rfl rfl (D8 (cs := [.int .i64 (at_ R (id : Int).toNat).Kind, .int .i64 (at_ R (id : Int).toNat).Space, .string (at_ R (id : Int).toNat).Name, .slice p31 (at_ R id.toNat).Attrs.length c31, .string (at_ R (id : Int).toNat).Data, .string (at_ R (id : Int).toNat).System, .int .i64 (at_ R (id : Int).toNat).Up, .int .i64 (-1), .int .i64 (-1), .int .i64 (-1), .int .i64 (at_ (at_ R ((at_ R id.toNat).Up).toNat).Kids (((pre.length : Int) + 1) : Int).toNat), .int .i64 (at_ R (id : Int).toNat).Inner]) hO rfl) ?_
                refine Y3 hO rfl rfl (fun w hO => ?_)
                refine l_y rfl rfl (y_assign rfl) ?_
                refine K2 (K3 (K6 ?_))
                refine finC1 hO rfl rfl rfl ⟨_, .inr ⟨hc13, p31, c31, congrArg (fun l => Value.tuple #[.agg (List.toArray l), .int .i64 0]) (cells_eq s1 ?_ ?_ ?_ ?_), rfl⟩, by rw [← s1.attrs]; exact ((rarL_shut hF (hO.ks [.b r, .p p, .f])).ks [.o r, .p p31]).two⟩
                · first | exact (he.1 (by omega)).1.symm | exact (he.2 (by omega)).1.symm
                · first | exact (he.1 (by omega)).2.symm | exact (he.2 (by omega)).2.symm
                · first | exact (hla.1 (by omega)).symm | exact (hla.2 (by omega)).symm | exact (t.free id hiA (by rw [nodeA, ← s1.up]; omega)).1.symm
                · first | exact (hna.1 (by omega)).symm | exact (hna.2 (by omega)).symm | exact (t.free id hiA (by rw [nodeA, ← s1.up]; omega)).2.symm
              · refine K2 (K3 (L9 (K5 (K3 (K0 (K1 ?_))))))
                refine l_y rfl rfl (D8 (cs := [.int .i64 (at_ R (id : Int).toNat).Kind, .int .i64 (at_ R (id : Int).toNat).Space, .string (at_ R (id : Int).toNat).Name, .slice p31 (at_ R id.toNat).Attrs.length c31, .string (at_ R (id : Int).toNat).Data, .string (at_ R (id : Int).toNat).System, .int .i64 (at_ R (id : Int).toNat).Up, .int .i64 (-1), .int .i64 (-1), .int .i64 (-1), .int .i64 (-1), .int .i64 (at_ R (id : Int).toNat).Inner]) hO rfl) ?_
                refine Y3 hO rfl rfl (fun w hO => ?_)
                refine l_y rfl rfl (y_assign rfl) ?_
                refine K2 (K3 (K6 ?_))
                refine finC1 hO rfl rfl rfl ⟨_, .inr ⟨hc13, p31, c31, congrArg (fun l => Value.tuple #[.agg (List.toArray l), .int .i64 0]) (cells_eq s1 ?_ ?_ ?_ ?_), rfl⟩, by rw [← s1.attrs]; exact ((rarL_shut hF (hO.ks [.b r, .p p, .f])).ks [.o r, .p p31]).two⟩
                · first | exact (he.1 (by omega)).1.symm | exact (he.2 (by omega)).1.symm
                · first | exact (he.1 (by omega)).2.symm | exact (he.2 (by omega)).2.symm
                · first | exact (hla.1 (by omega)).symm | exact (hla.2 (by omega)).symm | exact (t.free id hiA (by rw [nodeA, ← s1.up]; omega)).1.symm
                · first | exact (hna.1 (by omega)).symm | exact (hna.2 (by omega)).symm | exact (t.free id hiA (by rw [nodeA, ← s1.up]; omega)).2.symm
          · refine K2 (K3 (L9 (K5 (K3 (K0 (K1 ?_))))))
            refine l_y rfl rfl (D8 (cs := [.int .i64 (at_ R (id : Int).toNat).Kind, .int .i64 (at_ R (id : Int).toNat).Space, .string (at_ R (id : Int).toNat).Name, .slice p31 (at_ R id.toNat).Attrs.length c31, .string (at_ R (id : Int).toNat).Data, .string (at_ R (id : Int).toNat).System, .int .i64 (at_ R (id : Int).toNat).Up, .int .i64 (-1), .int .i64 (-1), .int .i64 (-1), .int .i64 (-1), .int .i64 (at_ R (id : Int).toNat).Inner]) hO rfl) ?_
            refine Y3 hO rfl rfl (fun w hO => ?_)
            refine l_y rfl rfl (y_assign rfl) ?_
            refine K2 (K3 (K6 ?_))
            refine finC1 hO rfl rfl rfl ⟨_, .inr ⟨hc13, p31, c31, congrArg (fun l => Value.tuple #[.agg (List.toArray l), .int .i64 0]) (cells_eq s1 ?_ ?_ ?_ ?_), rfl⟩, by rw [← s1.attrs]; exact ((rarL_shut hF (hO.ks [.b r, .p p, .f])).ks [.o r, .p p31]).two⟩
            · first | exact (he.1 (by omega)).1.symm | exact (he.2 (by omega)).1.symm
            · first | exact (he.1 (by omega)).2.symm | exact (he.2 (by omega)).2.symm
            · first | exact (hla.1 (by omega)).symm | exact (hla.2 (by omega)).symm | exact (t.free id hiA (by rw [nodeA, ← s1.up]; omega)).1.symm
            · first | exact (hna.1 (by omega)).symm | exact (hna.2 (by omega)).symm | exact (t.free id hiA (by rw [nodeA, ← s1.up]; omega)).2.symm
    · refine s_alloc (vs := [.int .i64 0, .int .i64 0, .string ⟨#[]⟩, .slice none 0 0, .string ⟨#[]⟩, .string ⟨#[]⟩, .int .i64 0, .int .i64 0, .int .i64 0, .int .i64 0, .int .i64 0, .int .i64 0]) hO rfl rfl rfl fun b7 w hO => ?_
      refine o_done ?_
      refine ⟨SO.ks [.b b6] hO, ?_⟩
      refine dx_only 6 (by kernel_rfl) rfl rfl ?_
      refine s_lit0 Api_attr.cells hO (fun b28 w hO => ?_)
      refine o_done ?_
      refine ⟨SO.ks [.b b6] hO, ?_⟩
      refine dx_only 9 (by kernel_rfl) rfl rfl ?_
      refine s_app0 hO rfl rfl (src_pool hO (by assumption)) (fun p31 c31 w hO gs31 => ?_)
      refine o_done ?_
      refine ⟨SO.ks [.b b6] hO, ?_⟩
      refine dx_only 18 (by kernel_rfl) rfl rfl ?_
      refine s_build (parts := [(0, .tmp 23), (1, .tmp 25), (2, .tmp 27), (3, .tmp 31), (4, .tmp 33), (5, .tmp 35), (6, .tmp 37), (7, .const (.int .i64 (-1))), (8, .const (.int .i64 (-1))), (9, .const (.int .i64 (-1))), (10, .const (.int .i64 (-1))), (11, .tmp 39)]) (cs := [.int .i64 (at_ R (id : Int).toNat).Kind, .int .i64 (at_ R (id : Int).toNat).Space, .string (at_ R (id : Int).toNat).Name, .slice p31 (at_ R id.toNat).Attrs.length c31, .string (at_ R (id : Int).toNat).Data, .string (at_ R (id : Int).toNat).System, .int .i64 (at_ R (id : Int).toNat).Up, .int .i64 (-1), .int .i64 (-1), .int .i64 (-1), .int .i64 (-1), .int .i64 (at_ R (id : Int).toNat).Inner]) rfl rfl (fun a ha => partsOf_sound ha _ _ rfl) (by kernel_rfl) ?_
      refine o_done ?_
      refine ⟨SO.ks [.b b6] hO, ?_⟩
      refine dx_close 20 (by kernel_rfl) rfl rfl ?_
      refine Y3 hO rfl rfl (fun w hO => ?_)
      refine o_done ?_
      refine da_end (by kernel_rfl) ?_
      refine K3 (K0 (K0 (K1 ?_)))
      refine l_y rfl rfl (y_fldb (o' := 9) rfl) ?_
      refine l_y rfl rfl (D5 hO rfl) ?_
      refine l_y rfl rfl (y_lenL rfl) ?_
      refine Z0 (fun h5_3 => ?_) (fun h5_3 => ?_)
      · refine K2 (K3 (L8 (K0 (K1 ?_))))
        refine l_y rfl rfl (y_fldb (o' := 9) rfl) ?_
        refine l_y rfl rfl (D5 hO rfl) ?_
        refine l_y rfl rfl (y_idx rfl rfl) ?_
        refine l_y rfl rfl (y_p1 (x0 := 0) (enc := (eI .i64)) (xs := (at_ R id.toNat).Kids) hO rfl) ?_
        refine l_y rfl rfl (y_fldb (o' := 7) rfl) ?_
        refine Y1 hO rfl rfl (fun w hO => ?_)
        simp only [List.set_cons_zero, List.set_cons_succ] at hO
        refine K2 (K3 (K1 ?_))
        refine l_y rfl rfl (y_fldb (o' := 9) rfl) ?_
        refine l_y rfl rfl (D5 hO rfl) ?_
        refine l_y rfl rfl (y_fldb (o' := 9) rfl) ?_
        refine l_y rfl rfl (D5 hO rfl) ?_
        refine l_y rfl rfl (y_lenL rfl) ?_
        refine l_y rfl rfl (D4) ?_
        refine l_y rfl rfl (y_idx rfl rfl) ?_
        refine l_y rfl rfl (y_p1 (x0 := 0) (enc := (eI .i64)) (xs := (at_ R id.toNat).Kids) hO rfl) ?_
        refine l_y rfl rfl (y_fldb (o' := 8) rfl) ?_
        refine Y1 hO rfl rfl (fun w hO => ?_)
        simp only [List.set_cons_zero, List.set_cons_succ] at hO
        refine K2 (K3 (K0 (K0 (K1 ?_))))
        refine l_y rfl rfl (y_fldb (o' := 8) rfl) ?_
        refine l_y rfl rfl (D5 hO rfl) ?_
        refine Z1 (fun h8_2 => ?_) (fun h8_2 => ?_)
        · refine K2 (K3 (L8 (K0 ?_)))
          have hpar : (nodeA A id).Parent ≠ -1 := by rw [nodeA, ← s1.up]; exact h8_2
          obtain ⟨pre, suf, hk, hpv, hnx⟩ := t.nbr hiA hpar
          have hupA := (t.up id hiA hpar).1
          have hup1 := hupA.1
          have hup2 := hupA.2
          rw [nodeA, ← s1.up] at hup1 hup2 hk hupA
          have su := s.one _ hupA
          have hrow : (at_ R ((at_ R id.toNat).Up).toNat).Kids = pre ++ id :: suf := by rw [su.kids, hk]
          have hnd := t.nodup _ hupA
          rw [hk] at hnd
          have hni : id ∉ pre := fun hm => (List.nodup_append.1 hnd).2.2 id hm id (by simp) rfl
          have hkl2 := t.len hupA
          rw [← su.kids] at hkl2
          have hkids2 := (hF.atR (i := ((at_ R id.toNat).Up).toNat) (by omega)).kids
          have hgk2 := sli_gs hkids2
          have hpl : pre.length < (at_ R ((at_ R id.toNat).Up).toNat).Kids.length := by rw [hrow]; simp
          have hla := last_at hrow
          have hna := next_at hrow
          rw [← hpv] at hla
          rw [← hnx] at hna
          refine da_region (by intro c a d v w h; cases d <;> exact h) ?_
          have hO := hO.drew
          refine da_phase _ [] (SO.ks [.b r, .b b6, .p p] hO) ?_
          refine dx_u 0 (by kernel_rfl) rfl rfl rfl (fun w => y_move rfl) ?_
          refine dx_u 1 (by kernel_rfl) rfl rfl rfl (fun w => y_nilCheck rfl rfl) ?_
          refine dx_u 2 (by kernel_rfl) rfl rfl rfl (fun w => y_fldb (o' := 0) rfl) ?_
          refine dx_y 3 (by kernel_rfl) rfl rfl rfl (fun w ⟨m, hw⟩ => D5 hw rfl) ?_
          refine dx_u 4 (by kernel_rfl) rfl rfl rfl (fun w => y_fldb (o' := 8) rfl) ?_
          refine dx_y 5 (by kernel_rfl) rfl rfl rfl (fun w ⟨m, hw⟩ => D5 hw rfl) ?_
          refine dx_u 6 (by kernel_rfl) rfl rfl rfl (fun w => y_idx rfl rfl) ?_
          refine dx_u 7 (by kernel_rfl) rfl rfl rfl (fun w => y_fld (j' := 9) rfl) ?_
          refine dx_y 8 (by kernel_rfl) rfl rfl rfl (fun w ⟨m, hw⟩ => y_e1 (x0 := 9) hw rfl) ?_
          refine dx_u 9 (by kernel_rfl) rfl rfl rfl (fun w => y_assign rfl) ?_
          refine dx_end (by kernel_rfl) ?_
          refine K3 (K0 (K1 ?_))
          refine l_y rfl rfl (y_move rfl) ?_
          refine l_y rfl rfl (y_move rfl) ?_
          refine CK [.b r, .p p, .f] hO rfl (fun k' hx hr hO' => rplace_spec hg hF (by omega) (by omega) rfl (by omega) (by omega) hrow hni (by omega) (hO := hO')) ?_
          rintro _ _ w ⟨rfl, rfl⟩ hO
          simp only [List.cons_append, List.nil_append] at hO
          refine l_y rfl rfl (y_assign rfl) ?_
          refine K2 (K3 (K0 (K0 (K1 ?_))))
          refine l_y rfl rfl (y_move rfl) ?_
          refine Z0 (fun h11_1 => ?_) (fun h11_1 => ?_)
          · refine K2 (K3 (L8 (K1 ?_)))
            refine l_y rfl rfl (y_move rfl) ?_
            refine l_y rfl rfl (y_move rfl) ?_
            refine l_y rfl rfl (D4) ?_
            refine l_y rfl rfl (y_idx rfl rfl) ?_
            refine l_y rfl rfl (y_p1 (x0 := 0) (enc := (eI .i64)) (xs := (at_ R ((at_ R id.toNat).Up).toNat).Kids) hO rfl) ?_
            refine l_y rfl rfl (y_fldb (o' := 9) rfl) ?_
            refine Y1 hO rfl rfl (fun w hO => ?_)
            simp only [List.set_cons_zero, List.set_cons_succ] at hO
            refine K2 (K3 (K0 (K1 ?_)))
            refine l_y rfl rfl (y_move rfl) ?_
            refine l_y rfl rfl (D4) ?_
            refine l_y rfl rfl (y_move rfl) ?_
            refine l_y rfl rfl (y_lenL rfl) ?_
            refine Z0 (fun h13_4 => ?_) (fun h13_4 => ?_)
            · refine K2 (K3 (L8 (K1 ?_)))
              refine l_y rfl rfl (y_move rfl) ?_
              refine l_y rfl rfl (y_move rfl) ?_
              refine l_y rfl rfl (D4) ?_
              refine l_y rfl rfl (y_idx rfl rfl) ?_
              refine l_y rfl rfl (y_p1 (x0 := 0) (enc := (eI .i64)) (xs := (at_ R ((at_ R id.toNat).Up).toNat).Kids) hO rfl) ?_
              refine l_y rfl rfl (y_fldb (o' := 10) rfl) ?_
              refine Y1 hO rfl rfl (fun w hO => ?_)
              simp only [List.set_cons_zero, List.set_cons_succ] at hO
              refine K2 (K3 (K0 (K1 ?_)))
              refine l_y rfl rfl (D8 (cs := [.int .i64 (at_ R (id : Int).toNat).Kind, .int .i64 (at_ R (id : Int).toNat).Space, .string (at_ R (id : Int).toNat).Name, .slice p31 (at_ R id.toNat).Attrs.length c31, .string (at_ R (id : Int).toNat).Data, .string (at_ R (id : Int).toNat).System, .int .i64 (at_ R (id : Int).toNat).Up, .int .i64 (at_ (at_ R id.toNat).Kids (0 : Int).toNat), .int .i64 (at_ (at_ R id.toNat).Kids (((((at_ R (id : Int).toNat).Kids.length : Nat) : Int) - 1) : Int).toNat), .int .i64 (at_ (at_ R ((at_ R id.toNat).Up).toNat).Kids (((pre.length : Int) - 1) : Int).toNat), .int .i64 (at_ (at_ R ((at_ R id.toNat).Up).toNat).Kids (((pre.length : Int) + 1) : Int).toNat), .int .i64 (at_ R (id : Int).toNat).Inner]) hO rfl) ?_
              refine Y3 hO rfl rfl (fun w hO => ?_)
              refine l_y rfl rfl (y_assign rfl) ?_
              refine K2 (K3 (K6 ?_))
              refine finC1 hO rfl rfl rfl ⟨_, .inr ⟨hc13, p31, c31, congrArg (fun l => Value.tuple #[.agg (List.toArray l), .int .i64 0]) (cells_eq s1 ?_ ?_ ?_ ?_), rfl⟩, by rw [← s1.attrs]; exact ((rarL_shut hF (hO.ks [.b r, .p p, .f])).ks [.o r, .p p31]).two⟩
              · first | exact (he.1 (by omega)).1.symm | exact (he.2 (by omega)).1.symm
              · first | exact (he.1 (by omega)).2.symm | exact (he.2 (by omega)).2.symm
              · first | exact (hla.1 (by omega)).symm | exact (hla.2 (by omega)).symm | exact (t.free id hiA (by rw [nodeA, ← s1.up]; omega)).1.symm
              · first | exact (hna.1 (by omega)).symm | exact (hna.2 (by omega)).symm | exact (t.free id hiA (by rw [nodeA, ← s1.up]; omega)).2.symm
            · refine K2 (K3 (L9 (K5 (K3 (K0 (K1 ?_))))))
              refine l_y rfl rfl (D8 (cs := [.int .i64 (at_ R (id : Int).toNat).Kind, .int .i64 (at_ R (id : Int).toNat).Space, .string (at_ R (id : Int).toNat).Name, .slice p31 (at_ R id.toNat).Attrs.length c31, .string (at_ R (id : Int).toNat).Data, .string (at_ R (id : Int).toNat).System, .int .i64 (at_ R (id : Int).toNat).Up, .int .i64 (at_ (at_ R id.toNat).Kids (0 : Int).toNat), .int .i64 (at_ (at_ R id.toNat).Kids (((((at_ R (id : Int).toNat).Kids.length : Nat) : Int) - 1) : Int).toNat), .int .i64 (at_ (at_ R ((at_ R id.toNat).Up).toNat).Kids (((pre.length : Int) - 1) : Int).toNat), .int .i64 (-1), .int .i64 (at_ R (id : Int).toNat).Inner]) hO rfl) ?_
              refine Y3 hO rfl rfl (fun w hO => ?_)
              refine l_y rfl rfl (y_assign rfl) ?_
              refine K2 (K3 (K6 ?_))
              refine finC1 hO rfl rfl rfl ⟨_, .inr ⟨hc13, p31, c31, congrArg (fun l => Value.tuple #[.agg (List.toArray l), .int .i64 0]) (cells_eq s1 ?_ ?_ ?_ ?_), rfl⟩, by rw [← s1.attrs]; exact ((rarL_shut hF (hO.ks [.b r, .p p, .f])).ks [.o r, .p p31]).two⟩
              · first | exact (he.1 (by omega)).1.symm | exact (he.2 (by omega)).1.symm
              · first | exact (he.1 (by omega)).2.symm | exact (he.2 (by omega)).2.symm
              · first | exact (hla.1 (by omega)).symm | exact (hla.2 (by omega)).symm | exact (t.free id hiA (by rw [nodeA, ← s1.up]; omega)).1.symm
              · first | exact (hna.1 (by omega)).symm | exact (hna.2 (by omega)).symm | exact (t.free id hiA (by rw [nodeA, ← s1.up]; omega)).2.symm
          · refine K2 (K3 (L9 (K5 (K3 (K0 (K1 ?_))))))
            refine l_y rfl rfl (y_move rfl) ?_
            refine l_y rfl rfl (D4) ?_
            refine l_y rfl rfl (y_move rfl) ?_
            refine l_y rfl rfl (y_lenL rfl) ?_
            refine Z0 (fun h13_4 => ?_) (fun h13_4 => ?_)
            · refine K2 (K3 (L8 (K1 ?_)))
              refine l_y rfl rfl (y_move rfl) ?_
              refine l_y rfl rfl (y_move rfl) ?_
              refine l_y rfl rfl (D4) ?_
              refine l_y rfl rfl (y_idx rfl rfl) ?_
              refine l_y rfl rfl (y_p1 (x0 := 0) (enc := (eI .i64)) (xs := (at_ R ((at_ R id.toNat).Up).toNat).Kids) hO rfl) ?_
              refine l_y rfl rfl (y_fldb (o' := 10) rfl) ?_
              refine Y1 hO rfl rfl (fun w hO => ?_)
              simp only [List.set_cons_zero, List.set_cons_succ] at hO
              refine K2 (K3 (K0 (K1 ?_)))
              refine l_y rfl rfl (D8 (cs := [.int .i64 (at_ R (id : Int).toNat).Kind, .int .i64 (at_ R (id : Int).toNat).Space, .string (at_ R (id : Int).toNat).Name, .slice p31 (at_ R id.toNat).Attrs.length c31, .string (at_ R (id : Int).toNat).Data, .string (at_ R (id : Int).toNat).System, .int .i64 (at_ R (id : Int).toNat).Up, .int .i64 (at_ (at_ R id.toNat).Kids (0 : Int).toNat), .int .i64 (at_ (at_ R id.toNat).Kids (((((at_ R (id : Int).toNat).Kids.length : Nat) : Int) - 1) : Int).toNat), .int .i64 (-1), .int .i64 (at_ (at_ R ((at_ R id.toNat).Up).toNat).Kids (((pre.length : Int) + 1) : Int).toNat), .int .i64 (at_ R (id : Int).toNat).Inner]) hO rfl) ?_
              refine Y3 hO rfl rfl (fun w hO => ?_)
              refine l_y rfl rfl (y_assign rfl) ?_
              refine K2 (K3 (K6 ?_))
              refine finC1 hO rfl rfl rfl ⟨_, .inr ⟨hc13, p31, c31, congrArg (fun l => Value.tuple #[.agg (List.toArray l), .int .i64 0]) (cells_eq s1 ?_ ?_ ?_ ?_), rfl⟩, by rw [← s1.attrs]; exact ((rarL_shut hF (hO.ks [.b r, .p p, .f])).ks [.o r, .p p31]).two⟩
              · first | exact (he.1 (by omega)).1.symm | exact (he.2 (by omega)).1.symm
              · first | exact (he.1 (by omega)).2.symm | exact (he.2 (by omega)).2.symm
              · first | exact (hla.1 (by omega)).symm | exact (hla.2 (by omega)).symm | exact (t.free id hiA (by rw [nodeA, ← s1.up]; omega)).1.symm
              · first | exact (hna.1 (by omega)).symm | exact (hna.2 (by omega)).symm | exact (t.free id hiA (by rw [nodeA, ← s1.up]; omega)).2.symm
            · refine K2 (K3 (L9 (K5 (K3 (K0 (K1 ?_))))))
              refine l_y rfl rfl (D8 (cs := [.int .i64 (at_ R (id : Int).toNat).Kind, .int .i64 (at_ R (id : Int).toNat).Space, .string (at_ R (id : Int).toNat).Name, .slice p31 (at_ R id.toNat).Attrs.length c31, .string (at_ R (id : Int).toNat).Data, .string (at_ R (id : Int).toNat).System, .int .i64 (at_ R (id : Int).toNat).Up, .int .i64 (at_ (at_ R id.toNat).Kids (0 : Int).toNat), .int .i64 (at_ (at_ R id.toNat).Kids (((((at_ R (id : Int).toNat).Kids.length : Nat) : Int) - 1) : Int).toNat), .int .i64 (-1), .int .i64 (-1), .int .i64 (at_ R (id : Int).toNat).Inner]) hO rfl) ?_
              refine Y3 hO rfl rfl (fun w hO => ?_)
              refine l_y rfl rfl (y_assign rfl) ?_
              refine K2 (K3 (K6 ?_))
              refine finC1 hO rfl rfl rfl ⟨_, .inr ⟨hc13, p31, c31, congrArg (fun l => Value.tuple #[.agg (List.toArray l), .int .i64 0]) (cells_eq s1 ?_ ?_ ?_ ?_), rfl⟩, by rw [← s1.attrs]; exact ((rarL_shut hF (hO.ks [.b r, .p p, .f])).ks [.o r, .p p31]).two⟩
              · first | exact (he.1 (by omega)).1.symm | exact (he.2 (by omega)).1.symm
              · first | exact (he.1 (by omega)).2.symm | exact (he.2 (by omega)).2.symm
              · first | exact (hla.1 (by omega)).symm | exact (hla.2 (by omega)).symm | exact (t.free id hiA (by rw [nodeA, ← s1.up]; omega)).1.symm
              · first | exact (hna.1 (by omega)).symm | exact (hna.2 (by omega)).symm | exact (t.free id hiA (by rw [nodeA, ← s1.up]; omega)).2.symm
        · refine K2 (K3 (L9 (K5 (K3 (K0 (K1 ?_))))))
          refine l_y rfl rfl (D8 (cs := [.int .i64 (at_ R (id : Int).toNat).Kind, .int .i64 (at_ R (id : Int).toNat).Space, .string (at_ R (id : Int).toNat).Name, .slice p31 (at_ R id.toNat).Attrs.length c31, .string (at_ R (id : Int).toNat).Data, .string (at_ R (id : Int).toNat).System, .int .i64 (at_ R (id : Int).toNat).Up, .int .i64 (at_ (at_ R id.toNat).Kids (0 : Int).toNat), .int .i64 (at_ (at_ R id.toNat).Kids (((((at_ R (id : Int).toNat).Kids.length : Nat) : Int) - 1) : Int).toNat), .int .i64 (-1), .int .i64 (-1), .int .i64 (at_ R (id : Int).toNat).Inner]) hO rfl) ?_
          refine Y3 hO rfl rfl (fun w hO => ?_)
          refine l_y rfl rfl (y_assign rfl) ?_
          refine K2 (K3 (K6 ?_))
          refine finC1 hO rfl rfl rfl ⟨_, .inr ⟨hc13, p31, c31, congrArg (fun l => Value.tuple #[.agg (List.toArray l), .int .i64 0]) (cells_eq s1 ?_ ?_ ?_ ?_), rfl⟩, by rw [← s1.attrs]; exact ((rarL_shut hF (hO.ks [.b r, .p p, .f])).ks [.o r, .p p31]).two⟩
          · first | exact (he.1 (by omega)).1.symm | exact (he.2 (by omega)).1.symm
          · first | exact (he.1 (by omega)).2.symm | exact (he.2 (by omega)).2.symm
          · first | exact (hla.1 (by omega)).symm | exact (hla.2 (by omega)).symm | exact (t.free id hiA (by rw [nodeA, ← s1.up]; omega)).1.symm
          · first | exact (hna.1 (by omega)).symm | exact (hna.2 (by omega)).symm | exact (t.free id hiA (by rw [nodeA, ← s1.up]; omega)).2.symm
      · refine K2 (K3 (L9 (K5 (K3 (K0 (K0 (K1 ?_)))))))
        refine l_y rfl rfl (y_fldb (o' := 8) rfl) ?_
        refine l_y rfl rfl (D5 hO rfl) ?_
        refine Z1 (fun h8_2 => ?_) (fun h8_2 => ?_)
        · refine K2 (K3 (L8 (K0 ?_)))
          have hpar : (nodeA A id).Parent ≠ -1 := by rw [nodeA, ← s1.up]; exact h8_2
          obtain ⟨pre, suf, hk, hpv, hnx⟩ := t.nbr hiA hpar
          have hupA := (t.up id hiA hpar).1
          have hup1 := hupA.1
          have hup2 := hupA.2
          rw [nodeA, ← s1.up] at hup1 hup2 hk hupA
          have su := s.one _ hupA
          have hrow : (at_ R ((at_ R id.toNat).Up).toNat).Kids = pre ++ id :: suf := by rw [su.kids, hk]
          have hnd := t.nodup _ hupA
          rw [hk] at hnd
          have hni : id ∉ pre := fun hm => (List.nodup_append.1 hnd).2.2 id hm id (by simp) rfl
          have hkl2 := t.len hupA
          rw [← su.kids] at hkl2
          have hkids2 := (hF.atR (i := ((at_ R id.toNat).Up).toNat) (by omega)).kids
          have hgk2 := sli_gs hkids2
          have hpl : pre.length < (at_ R ((at_ R id.toNat).Up).toNat).Kids.length := by rw [hrow]; simp
          have hla := last_at hrow
          have hna := next_at hrow
          rw [← hpv] at hla
          rw [← hnx] at hna
          refine da_region (by intro c a d v w h; cases d <;> exact h) ?_
          have hO := hO.drew
          refine da_phase _ [] (SO.ks [.b r, .b b6, .p p] hO) ?_
          refine dx_u 0 (by kernel_rfl) rfl rfl rfl (fun w => y_move rfl) ?_
          refine dx_u 1 (by kernel_rfl) rfl rfl rfl (fun w => y_nilCheck rfl rfl) ?_
          refine dx_u 2 (by kernel_rfl) rfl rfl rfl (fun w => y_fldb (o' := 0) rfl) ?_
          refine dx_y 3 (by kernel_rfl) rfl rfl rfl (fun w ⟨m, hw⟩ => D5 hw rfl) ?_
          refine dx_u 4 (by kernel_rfl) rfl rfl rfl (fun w => y_fldb (o' := 8) rfl) ?_
          refine dx_y 5 (by kernel_rfl) rfl rfl rfl (fun w ⟨m, hw⟩ => D5 hw rfl) ?_
          refine dx_u 6 (by kernel_rfl) rfl rfl rfl (fun w => y_idx rfl rfl) ?_
          refine dx_u 7 (by kernel_rfl) rfl rfl rfl (fun w => y_fld (j' := 9) rfl) ?_
          refine dx_y 8 (by kernel_rfl) rfl rfl rfl (fun w ⟨m, hw⟩ => y_e1 (x0 := 9) hw rfl) ?_
          refine dx_u 9 (by kernel_rfl) rfl rfl rfl (fun w => y_assign rfl) ?_
          refine dx_end (by kernel_rfl) ?_
          refine K3 (K0 (K1 ?_))
          refine l_y rfl rfl (y_move rfl) ?_
          refine l_y rfl rfl (y_move rfl) ?_
          refine CK [.b r, .p p, .f] hO rfl (fun k' hx hr hO' => rplace_spec hg hF (by omega) (by omega) rfl (by omega) (by omega) hrow hni (by omega) (hO := hO')) ?_
          rintro _ _ w ⟨rfl, rfl⟩ hO
          simp only [List.cons_append, List.nil_append] at hO
          refine l_y rfl rfl (y_assign rfl) ?_
          refine K2 (K3 (K0 (K0 (K1 ?_))))
          refine l_y rfl rfl (y_move rfl) ?_
          refine Z0 (fun h11_1 => ?_) (fun h11_1 => ?_)
          · refine K2 (K3 (L8 (K1 ?_)))
            refine l_y rfl rfl (y_move rfl) ?_
            refine l_y rfl rfl (y_move rfl) ?_
            refine l_y rfl rfl (D4) ?_
            refine l_y rfl rfl (y_idx rfl rfl) ?_
            refine l_y rfl rfl (y_p1 (x0 := 0) (enc := (eI .i64)) (xs := (at_ R ((at_ R id.toNat).Up).toNat).Kids) hO rfl) ?_
            refine l_y rfl rfl (y_fldb (o' := 9) rfl) ?_
            refine Y1 hO rfl rfl (fun w hO => ?_)
            simp only [List.set_cons_zero, List.set_cons_succ] at hO
            refine K2 (K3 (K0 (K1 ?_)))
            refine l_y rfl rfl (y_move rfl) ?_
            refine l_y rfl rfl (D4) ?_
            refine l_y rfl rfl (y_move rfl) ?_
            refine l_y rfl rfl (y_lenL rfl) ?_
            refine Z0 (fun h13_4 => ?_) (fun h13_4 => ?_)
            · refine K2 (K3 (L8 (K1 ?_)))
              refine l_y rfl rfl (y_move rfl) ?_
              refine l_y rfl rfl (y_move rfl) ?_
              refine l_y rfl rfl (D4) ?_
              refine l_y rfl rfl (y_idx rfl rfl) ?_
              refine l_y rfl rfl (y_p1 (x0 := 0) (enc := (eI .i64)) (xs := (at_ R ((at_ R id.toNat).Up).toNat).Kids) hO rfl) ?_
              refine l_y rfl rfl (y_fldb (o' := 10) rfl) ?_
              refine Y1 hO rfl rfl (fun w hO => ?_)
              simp only [List.set_cons_zero, List.set_cons_succ] at hO
              refine K2 (K3 (K0 (K1 ?_)))
              refine l_y rfl rfl (D8 (cs := [.int .i64 (at_ R (id : Int).toNat).Kind, .int .i64 (at_ R (id : Int).toNat).Space, .string (at_ R (id : Int).toNat).Name, .slice p31 (at_ R id.toNat).Attrs.length c31, .string (at_ R (id : Int).toNat).Data, .string (at_ R (id : Int).toNat).System, .int .i64 (at_ R (id : Int).toNat).Up, .int .i64 (-1), .int .i64 (-1), .int .i64 (at_ (at_ R ((at_ R id.toNat).Up).toNat).Kids (((pre.length : Int) - 1) : Int).toNat), .int .i64 (at_ (at_ R ((at_ R id.toNat).Up).toNat).Kids (((pre.length : Int) + 1) : Int).toNat), .int .i64 (at_ R (id : Int).toNat).Inner]) hO rfl) ?_
              refine Y3 hO rfl rfl (fun w hO => ?_)
              refine l_y rfl rfl (y_assign rfl) ?_
              refine K2 (K3 (K6 ?_))
              refine finC1 hO rfl rfl rfl ⟨_, .inr ⟨hc13, p31, c31, congrArg (fun l => Value.tuple #[.agg (List.toArray l), .int .i64 0]) (cells_eq s1 ?_ ?_ ?_ ?_), rfl⟩, by rw [← s1.attrs]; exact ((rarL_shut hF (hO.ks [.b r, .p p, .f])).ks [.o r, .p p31]).two⟩
              · first | exact (he.1 (by omega)).1.symm | exact (he.2 (by omega)).1.symm
              · first | exact (he.1 (by omega)).2.symm | exact (he.2 (by omega)).2.symm
              · first | exact (hla.1 (by omega)).symm | exact (hla.2 (by omega)).symm | exact (t.free id hiA (by rw [nodeA, ← s1.up]; omega)).1.symm
              · first | exact (hna.1 (by omega)).symm | exact (hna.2 (by omega)).symm | exact (t.free id hiA (by rw [nodeA, ← s1.up]; omega)).2.symm
            · refine K2 (K3 (L9 (K5 (K3 (K0 (K1 ?_))))))
              refine l_y rfl rfl (D8 (cs := [.int .i64 (at_ R (id : Int).toNat).Kind, .int .i64 (at_ R (id : Int).toNat).Space, .string (at_ R (id : Int).toNat).Name, .slice p31 (at_ R id.toNat).Attrs.length c31, .string (at_ R (id : Int).toNat).Data, .string (at_ R (id : Int).toNat).System, .int .i64 (at_ R (id : Int).toNat).Up, .int .i64 (-1), .int .i64 (-1), .int .i64 (at_ (at_ R ((at_ R id.toNat).Up).toNat).Kids (((pre.length : Int) - 1) : Int).toNat), .int .i64 (-1), .int .i64 (at_ R (id : Int).toNat).Inner]) hO rfl) ?_
              refine Y3 hO rfl rfl (fun w hO => ?_)
              refine l_y rfl rfl (y_assign rfl) ?_
              refine K2 (K3 (K6 ?_))
              refine finC1 hO rfl rfl rfl ⟨_, .inr ⟨hc13, p31, c31, congrArg (fun l => Value.tuple #[.agg (List.toArray l), .int .i64 0]) (cells_eq s1 ?_ ?_ ?_ ?_), rfl⟩, by rw [← s1.attrs]; exact ((rarL_shut hF (hO.ks [.b r, .p p, .f])).ks [.o r, .p p31]).two⟩
              · first | exact (he.1 (by omega)).1.symm | exact (he.2 (by omega)).1.symm
              · first | exact (he.1 (by omega)).2.symm | exact (he.2 (by omega)).2.symm
              · first | exact (hla.1 (by omega)).symm | exact (hla.2 (by omega)).symm | exact (t.free id hiA (by rw [nodeA, ← s1.up]; omega)).1.symm
              · first | exact (hna.1 (by omega)).symm | exact (hna.2 (by omega)).symm | exact (t.free id hiA (by rw [nodeA, ← s1.up]; omega)).2.symm
          · refine K2 (K3 (L9 (K5 (K3 (K0 (K1 ?_))))))
            refine l_y rfl rfl (y_move rfl) ?_
            refine l_y rfl rfl (D4) ?_
            refine l_y rfl rfl (y_move rfl) ?_
            refine l_y rfl rfl (y_lenL rfl) ?_
            refine Z0 (fun h13_4 => ?_) (fun h13_4 => ?_)
            · refine K2 (K3 (L8 (K1 ?_)))
              refine l_y rfl rfl (y_move rfl) ?_
              refine l_y rfl rfl (y_move rfl) ?_
              refine l_y rfl rfl (D4) ?_
              refine l_y rfl rfl (y_idx rfl rfl) ?_
              refine l_y rfl rfl (y_p1 (x0 := 0) (enc := (eI .i64)) (xs := (at_ R ((at_ R id.toNat).Up).toNat).Kids) hO rfl) ?_
              refine l_y rfl rfl (y_fldb (o' := 10) rfl) ?_
              refine Y1 hO rfl rfl (fun w hO => ?_)
              simp only [List.set_cons_zero, List.set_cons_succ] at hO
              refine K2 (K3 (K0 (K1 ?_)))
              refine l_y rfl rfl (D8 (cs := [.int .i64 (at_ R (id : Int).toNat).Kind, .int .i64 (at_ R (id : Int).toNat).Space, .string (at_ R (id : Int).toNat).Name, .slice p31 (at_ R id.toNat).Attrs.length c31, .string (at_ R (id : Int).toNat).Data, .string (at_ R (id : Int).toNat).System, .int .i64 (at_ R (id : Int).toNat).Up, .int .i64 (-1), .int .i64 (-1), .int .i64 (-1), .int .i64 (at_ (at_ R ((at_ R id.toNat).Up).toNat).Kids (((pre.length : Int) + 1) : Int).toNat), .int .i64 (at_ R (id : Int).toNat).Inner]) hO rfl) ?_
              refine Y3 hO rfl rfl (fun w hO => ?_)
              refine l_y rfl rfl (y_assign rfl) ?_
              refine K2 (K3 (K6 ?_))
              refine finC1 hO rfl rfl rfl ⟨_, .inr ⟨hc13, p31, c31, congrArg (fun l => Value.tuple #[.agg (List.toArray l), .int .i64 0]) (cells_eq s1 ?_ ?_ ?_ ?_), rfl⟩, by rw [← s1.attrs]; exact ((rarL_shut hF (hO.ks [.b r, .p p, .f])).ks [.o r, .p p31]).two⟩
              · first | exact (he.1 (by omega)).1.symm | exact (he.2 (by omega)).1.symm
              · first | exact (he.1 (by omega)).2.symm | exact (he.2 (by omega)).2.symm
              · first | exact (hla.1 (by omega)).symm | exact (hla.2 (by omega)).symm | exact (t.free id hiA (by rw [nodeA, ← s1.up]; omega)).1.symm
              · first | exact (hna.1 (by omega)).symm | exact (hna.2 (by omega)).symm | exact (t.free id hiA (by rw [nodeA, ← s1.up]; omega)).2.symm
            · refine K2 (K3 (L9 (K5 (K3 (K0 (K1 ?_))))))
              refine l_y rfl rfl (D8 (cs := [.int .i64 (at_ R (id : Int).toNat).Kind, .int .i64 (at_ R (id : Int).toNat).Space, .string (at_ R (id : Int).toNat).Name, .slice p31 (at_ R id.toNat).Attrs.length c31, .string (at_ R (id : Int).toNat).Data, .string (at_ R (id : Int).toNat).System, .int .i64 (at_ R (id : Int).toNat).Up, .int .i64 (-1), .int .i64 (-1), .int .i64 (-1), .int .i64 (-1), .int .i64 (at_ R (id : Int).toNat).Inner]) hO rfl) ?_
              refine Y3 hO rfl rfl (fun w hO => ?_)
              refine l_y rfl rfl (y_assign rfl) ?_
              refine K2 (K3 (K6 ?_))
              refine finC1 hO rfl rfl rfl ⟨_, .inr ⟨hc13, p31, c31, congrArg (fun l => Value.tuple #[.agg (List.toArray l), .int .i64 0]) (cells_eq s1 ?_ ?_ ?_ ?_), rfl⟩, by rw [← s1.attrs]; exact ((rarL_shut hF (hO.ks [.b r, .p p, .f])).ks [.o r, .p p31]).two⟩
              · first | exact (he.1 (by omega)).1.symm | exact (he.2 (by omega)).1.symm
              · first | exact (he.1 (by omega)).2.symm | exact (he.2 (by omega)).2.symm
              · first | exact (hla.1 (by omega)).symm | exact (hla.2 (by omega)).symm | exact (t.free id hiA (by rw [nodeA, ← s1.up]; omega)).1.symm
              · first | exact (hna.1 (by omega)).symm | exact (hna.2 (by omega)).symm | exact (t.free id hiA (by rw [nodeA, ← s1.up]; omega)).2.symm
        · refine K2 (K3 (L9 (K5 (K3 (K0 (K1 ?_))))))
          refine l_y rfl rfl (D8 (cs := [.int .i64 (at_ R (id : Int).toNat).Kind, .int .i64 (at_ R (id : Int).toNat).Space, .string (at_ R (id : Int).toNat).Name, .slice p31 (at_ R id.toNat).Attrs.length c31, .string (at_ R (id : Int).toNat).Data, .string (at_ R (id : Int).toNat).System, .int .i64 (at_ R (id : Int).toNat).Up, .int .i64 (-1), .int .i64 (-1), .int .i64 (-1), .int .i64 (-1), .int .i64 (at_ R (id : Int).toNat).Inner]) hO rfl) ?_
          refine Y3 hO rfl rfl (fun w hO => ?_)
          refine l_y rfl rfl (y_assign rfl) ?_
          refine K2 (K3 (K6 ?_))
          refine finC1 hO rfl rfl rfl ⟨_, .inr ⟨hc13, p31, c31, congrArg (fun l => Value.tuple #[.agg (List.toArray l), .int .i64 0]) (cells_eq s1 ?_ ?_ ?_ ?_), rfl⟩, by rw [← s1.attrs]; exact ((rarL_shut hF (hO.ks [.b r, .p p, .f])).ks [.o r, .p p31]).two⟩
          · first | exact (he.1 (by omega)).1.symm | exact (he.2 (by omega)).1.symm
          · first | exact (he.1 (by omega)).2.symm | exact (he.2 (by omega)).2.symm
          · first | exact (hla.1 (by omega)).symm | exact (hla.2 (by omega)).symm | exact (t.free id hiA (by rw [nodeA, ← s1.up]; omega)).1.symm
          · first | exact (hna.1 (by omega)).symm | exact (hna.2 (by omega)).symm | exact (t.free id hiA (by rw [nodeA, ← s1.up]; omega)).2.symm
end Go.Proofs.Ytnolpajggmfpdaa
