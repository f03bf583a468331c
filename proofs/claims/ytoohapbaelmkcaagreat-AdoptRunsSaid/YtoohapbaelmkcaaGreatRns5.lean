/- What the row of this folder leans on, part 5: the walks of the functions and the laws of what they compute; no condition. -/
import Derived.Test.YtoohapbaelmkcaaGreatRns4
set_option linter.unusedVariables false
set_option linter.unusedSimpArgs false
section
set_option maxRecDepth 100000
namespace Go.Proofs.YtoohapbaelmkcaaGreat
open Go Go.Hb Go.RowKit
section
variable {nm : ByteArray} {fo dn ot : Bool} {x y : Rs} {f : Int}
theorem RndR.i1 (g : RndR nm fo x dn ot y) (h : fF x nm = -1) : dn = true ∧ ot = true ∧ y = x := by
 cases g with
 | none _ => exact ⟨rfl, rfl, rfl⟩
 | lost f hf h1 => exact absurd (hf.trans h) h1
 | out f hf h1 => exact absurd (hf.trans h) h1
 | plain f hf h1 => exact absurd (hf.trans h) h1
 | go f b hf h1 => exact absurd (hf.trans h) h1
theorem RndR.i2 (g : RndR nm fo x dn ot y) (hf0 : f = fF x nm) (h : f ≠ -1) (h1 : findI x.st f < 0) : dn = true ∧ ot = false ∧ y = ⟨x.A, x.st, (removeE x.L f).2, x.errs + 1⟩ := by
 cases g with
 | none h2 => exact absurd (hf0.trans h2) h
 | lost f hf h1 => subst hf; subst hf0; exact ⟨rfl, rfl, rfl⟩
 | out f hf h2 h3 => subst hf; subst hf0; exact absurd h1 h3
 | plain f hf h2 h3 => subst hf; subst hf0; exact absurd h1 h3
 | go f b hf h2 h3 => subst hf; subst hf0; exact absurd h1 h3
theorem RndR.i3 (g : RndR nm fo x dn ot y) (hf0 : f = fF x nm) (h : f ≠ -1) (h1 : ¬ findI x.st f < 0) (h2 : scopeL x.A (fun y => decide (y = f)) 0 x.st = false) : dn = true ∧ ot = false ∧ y = ⟨x.A, x.st, x.L, x.errs + 1⟩ := by
 cases g with
 | none h2 => exact absurd (hf0.trans h2) h
 | lost f hf _ h3 => subst hf; subst hf0; exact absurd h3 h1
 | out f hf _ h3 => subst hf; subst hf0; exact ⟨rfl, rfl, rfl⟩
 | plain f hf _ _ h3 => subst hf; subst hf0; rw [h2] at h3; cases h3
 | go f b hf _ _ h3 => subst hf; subst hf0; rw [h2] at h3; cases h3
theorem RndR.i4 (g : RndR nm fo x dn ot y) (hf0 : f = fF x nm) (h : f ≠ -1) (h1 : ¬ findI x.st f < 0) (h2 : scopeL x.A (fun y => decide (y = f)) 0 x.st = true) (h3 : furthF x.A x.st f = -1) : dn = true ∧ ot = false ∧ y = ⟨x.A, x.st.take (findI x.st f).toNat, (removeE x.L f).2, x.errs + topN x.st f⟩ := by
 cases g with
 | none h2 => exact absurd (hf0.trans h2) h
 | lost f hf _ h9 => subst hf; subst hf0; exact absurd h9 h1
 | out f hf _ _ h9 => subst hf; subst hf0; rw [h2] at h9; cases h9
 | plain f hf => subst hf; subst hf0; exact ⟨rfl, rfl, rfl⟩
 | go f b hf _ _ _ hb h4 => subst hf; subst hf0; exact absurd (hb.trans h3) h4
theorem RndR.i5 {b : Int} (g : RndR nm fo x dn ot y) (hf0 : f = fF x nm) (h : f ≠ -1) (h1 : ¬ findI x.st f < 0) (h2 : scopeL x.A (fun y => decide (y = f)) 0 x.st = true) (hb : b = furthF x.A x.st f) (h3 : b ≠ -1) :
    ∃ (A' : List Node_one) (st' : List Int) (L' : List Api_entry) (yy : Ag) (q : Option Addr) (d : Nat) (Kz : Int → List Int), SwD f b (max 0 (atI x.st (findI x.st f - 1))) fo ⟨x.A, x.st, x.L, findE x.L f, b, findI x.st b, 0⟩ A' st' L' yy q d Kz ∧ dn = false ∧ ot = false ∧ y = ⟨A', st', L', x.errs + topN x.st f⟩ := by
  cases g with
  | none h2 => exact absurd (hf0.trans h2) h
  | lost f hf _ h9 => subst hf; subst hf0; exact absurd h9 h1
  | out f hf _ _ h9 => subst hf; subst hf0; rw [h2] at h9; cases h9
  | plain f hf _ _ _ h4 => subst hf; subst hf0; exact absurd (hb.trans h4) h3
  | go f b2 hf _ _ _ hb2 h4 A' st' L' yy q d Kz g =>
    subst hf; subst hf0; subst hb; subst hb2
    exact ⟨A', st', L', yy, q, d, Kz, g, rfl, rfl, rfl⟩
end
theorem Lnk.uniq {A : List Node_one} {x : Int} {l m : List Int} (h : Lnk A x l) (g : Lnk A x m) : l = m := by
  have h1 := h.chain
  have h2 := g.chain
  generalize (nodeA A x).First = c at h1 h2
  have hl : ∀ z ∈ l, z ≠ -1 := fun z hz e => by have := (h.mem hz).1.1; omega
  have hm : ∀ z ∈ m, z ≠ -1 := fun z hz e => by have := (g.mem hz).1.1; omega
  clear h g
  induction l generalizing c m with
  | nil =>
    cases m with
    | nil => rfl
    | cons z m => exact absurd (h2.1.symm.trans h1) (hm z (by simp))
  | cons a l ih =>
    cases m with
    | nil => exact absurd (h1.1.symm.trans h2) (hl a (by simp))
    | cons z m =>
      have e : a = z := h1.1.symm.trans h2.1
      subst e
      rw [ih _ h1.2.2.2 h2.2.2.2 (fun y hy => hl y (List.mem_cons_of_mem _ hy)) (fun y hy => hm y (List.mem_cons_of_mem _ hy))]
section
variable {k : Ctx} {w : World} {b r z yl : Nat} {fo : Bool}
structure Rk where
 i : Nat
 K : Int → List Int
 R : List Ref01_one
set_option maxHeartbeats 8000000 in
theorem rround_spec {n0 ln : Nat} {nm : ByteArray} {x y : Rs} {K : Int → List Int} {R : List Ref01_one} {dn ot : Bool} (h : RsI n0 ln x) (hn0 : n0 + 8 ≤ 32768) (hln : ln ≤ 2000000) (her : 0 ≤ x.errs ∧ x.errs ≤ 1000) (t : Two x.A K R) (g : RndR nm fo x dn ot y)
    (hO : Own k w [ragB b r z yl fo x.errs, rarL r R, rstkL z r x.st, ralL yl r x.L]) :
    Tri Tryz.prog 43 #[.pointer (some ⟨b, 0, none⟩), .string nm] k w fun v m => v = .tuple #[.bool dn, .bool ot] ∧ ∃ K' R', Two y.A K' R' ∧ m = [ragB b r z yl fo y.errs, rarL r R', rstkL z r y.st, ralL yl r y.L] := by
  refine enter (args := [.pointer (some ⟨b, 0, none⟩), .string nm]) Tryz.func43 rfl rfl ?_
  have hn := h.ai.pos
  have hl : x.st.length ≤ 1000000 := Nat.le_trans h.si.len (Nat.le_trans h.len (by omega))
  have hL : x.L.length ≤ 2000000 := Nat.le_trans h.ll hln
  have hne : ∀ z ∈ x.st, z ≠ -1 := h.si.el.ne
  have hD : DistN x.L := (h.li.pl k).dist
  obtain ⟨f, hf⟩ : ∃ f, f = lastE x.A x.L nm (bk x.L x.L.length) := ⟨_, rfl⟩
  have hlt := @findI_lt x.st f
  have hlg := @findI_ge x.st f
  refine K0 (K1 (V2 rfl rfl rfl (V2 rfl rfl rfl (K2 (K3 (K0 (K1 (V1 rfl rfl rfl (V3 rfl rfl rfl rfl (l_y rfl rfl (y_fldb (o' := 2) rfl) (l_y rfl rfl (D5 hO rfl) ?_)))))))))))
  refine V1 rfl rfl rfl (CK [.o r, .o yl] hO rfl (fun k' hx hr hO' => zLast_spec (nm := nm) t hL h.li.has (hO := hO')) ?_)
  rintro _ _ w ⟨rfl, rfl⟩ hO
  simp only [List.cons_append, List.nil_append] at hO
  rw [← hf]
  refine V2 rfl rfl rfl (K2 (K3 (K0 (K0 (K1 (V1 rfl rfl rfl ?_))))))
  refine Z0 (fun h2_1 => ?_) (fun h2_1 => ?_)
  · refine K2 (K3 (L8 (K0 (K1 (V2 rfl rfl rfl (V2 rfl rfl rfl (K2 (K3 (K6 (K9 ?_))))))))))
    obtain ⟨rfl, rfl, rfl⟩ := g.i1 (by rw [← h2_1, hf])
    exact fin2 rfl rfl rfl ⟨_, ⟨rfl, K, R, t, rfl⟩, hO.ks [.b b, .o r, .o z, .o yl]⟩
  · refine K2 (K3 (L9 (K5 (K3 (K0 (K1 (V1 rfl rfl rfl (V3 rfl rfl rfl rfl (l_y rfl rfl (y_fldb (o' := 1) rfl) (l_y rfl rfl (D5 hO rfl) ?_))))))))))
    refine V1 rfl rfl rfl (CK [.o z] hO rfl (fun k' hx hr hO' => tFind_spec (id := f) h.si.nodup hl (hO := hO')) ?_)
    rintro _ _ w ⟨rfl, rfl⟩ hO
    simp only [List.cons_append, List.nil_append] at hO
    refine V2 rfl rfl rfl (K2 (K3 (K0 (K0 (K1 (V1 rfl rfl rfl ?_))))))
    refine Z0 (fun h5_1 => ?_) (fun h5_1 => ?_)
    · refine K2 (K3 (L8 (K0 (K1 (V1 rfl rfl rfl (V3 rfl rfl rfl rfl (l_y rfl rfl (y_fldb (o' := 4) rfl) (l_y rfl rfl (D5 hO rfl) ?_))))))))
      refine l_y rfl rfl (D4) ?_
      refine V3 rfl rfl rfl rfl (l_y rfl rfl (y_fldb (o' := 4) rfl) (Y1 hO rfl rfl (fun w hO => ?_)))
      simp only [List.set_cons_zero, List.set_cons_succ] at hO
      refine K2 (K3 (K0 (K1 (V1 rfl rfl rfl (V3 rfl rfl rfl rfl (l_y rfl rfl (y_fldb (o' := 2) rfl) (l_y rfl rfl (D5 hO rfl) ?_)))))))
      refine V1 rfl rfl rfl (CK [.o yl] hO rfl (fun k' hx hr hO' => zRemove_spec (id := f) hD hL (hO := hO')) ?_)
      rintro _ _ w ⟨rfl, rfl⟩ hO
      simp only [List.cons_append, List.nil_append] at hO
      refine K2 (K3 (K0 (K1 (V2 rfl rfl rfl (V2 rfl rfl rfl (K2 (K3 (K6 (K9 ?_)))))))))
      obtain ⟨rfl, rfl, rfl⟩ := g.i2 hf h2_1 h5_1
      exact fin2 rfl rfl rfl ⟨_, ⟨rfl, K, R, t, rfl⟩, hO.ks [.b b, .o r, .o z, .o yl]⟩
    · refine K2 (K3 (L9 (K5 (K3 (K0 (K0 (K1 (V1 rfl rfl rfl (V3 rfl rfl rfl rfl (l_y rfl rfl (y_fldb (o' := 1) rfl) (l_y rfl rfl (D5 hO rfl) ?_)))))))))))
      refine V1 rfl rfl rfl (CK [.o r, .o z] hO rfl (fun k' hx hr hO' => tNodeScope_spec (id := f) (kind := 0) t.sim h.ai.wi.sp h.si.el hl (hO := hO')) ?_)
      rintro _ _ w ⟨rfl, rfl⟩ hO
      simp only [List.cons_append, List.nil_append] at hO
      obtain ⟨sc, hsc⟩ : ∃ sc, sc = scopeL x.A (fun x => decide (x = f)) 0 x.st := ⟨_, rfl⟩
      rw [← hsc]
      refine l_y rfl rfl (y_not rfl rfl) (K2 (K3 ?_))
      refine c_split rfl (fun hc54 => ?_) (fun hc54 => ?_)
      · simp only [Bool.not_eq_true', Bool.not_eq_false'] at hc54
        refine K0 (K1 (V1 rfl rfl rfl (V3 rfl rfl rfl rfl (l_y rfl rfl (y_fldb (o' := 4) rfl) (l_y rfl rfl (D5 hO rfl) ?_)))))
        refine l_y rfl rfl (D4) ?_
        refine V3 rfl rfl rfl rfl (l_y rfl rfl (y_fldb (o' := 4) rfl) (Y1 hO rfl rfl (fun w hO => ?_)))
        simp only [List.set_cons_zero, List.set_cons_succ] at hO
        refine K2 (K3 (K0 (K1 (V2 rfl rfl rfl (V2 rfl rfl rfl (K2 (K3 (K6 (K9 ?_)))))))))
        obtain ⟨rfl, rfl, rfl⟩ := g.i3 hf h2_1 h5_1 (by rw [← hsc]; simpa using hc54)
        exact fin2 rfl rfl rfl ⟨_, ⟨rfl, K, R, t, rfl⟩, hO.ks [.b b, .o r, .o z, .o yl]⟩
      · simp only [Bool.not_eq_true', Bool.not_eq_false'] at hc54
        refine K5 (K3 ?_)
        refine c_cut (X := Int) (fun er => [(0, .pointer (some ⟨b, 0, none⟩)), (1, .string nm), (4, .bool false), (5, .bool false), (6, .int .i64 f), (7, .int .i64 (findI x.st f))]) (fun er w => Own k w [ragB b r z yl fo er, rarL r R, rstkL z r x.st, ralL yl r x.L] ∧ (er = x.errs + topN x.st f) ∧ (f ≠ -1) ∧ (¬ findI x.st f < 0) ∧ (scopeL x.A (fun x => decide (x = f)) 0 x.st = true)) ?_ ?_
        · refine K0 (K1 (V1 rfl rfl rfl (V3 rfl rfl rfl rfl (l_y rfl rfl (y_fldb (o' := 1) rfl) (l_y rfl rfl (D5 hO rfl) ?_)))))
          refine CK [.o z] hO rfl (fun k' hx hr hO' => tTop_spec hl (hO := hO')) ?_
          rintro _ _ w ⟨rfl, rfl⟩ hO
          simp only [List.cons_append, List.nil_append] at hO
          refine V1 rfl rfl rfl ?_
          refine Z1 (fun h12_6 => ?_) (fun h12_6 => ?_)
          · refine K2 (K3 (L8 (K1 (V1 rfl rfl rfl (V3 rfl rfl rfl rfl (l_y rfl rfl (y_fldb (o' := 4) rfl) (l_y rfl rfl (D5 hO rfl) ?_)))))))
            refine l_y rfl rfl (D4) ?_
            refine V3 rfl rfl rfl rfl (l_y rfl rfl (y_fldb (o' := 4) rfl) (Y1 hO rfl rfl (fun w hO => ?_)))
            simp only [List.set_cons_zero, List.set_cons_succ] at hO
            refine K2 ?_
            exact q_cut (_) ⟨rfl, rfl, rfl, rfl, rfl, rfl, trivial⟩ ⟨hO.only [.b b, .o r, .o z, .o yl], (by unfold topN; first | (rw [if_pos (by omega)]; first | rfl | omega; done) | (rw [if_neg (by omega)]; done)), (by assumption), (by assumption), (by rw [← hsc]; simpa using hc54)⟩
          · refine K2 (K3 (L9 (K5 ?_)))
            exact q_cut (_) ⟨rfl, rfl, rfl, rfl, rfl, rfl, trivial⟩ ⟨hO.only [.b b, .o r, .o z, .o yl], (by unfold topN; first | (rw [if_pos (by omega)]; first | rfl | omega; done) | (rw [if_neg (by omega)]; done)), (by assumption), (by assumption), (by rw [← hsc]; simpa using hc54)⟩
        · rintro er w ⟨hO, hee, hf9, hat, hsc9⟩
          refine K0 (K1 (V1 rfl rfl rfl (V1 rfl rfl rfl (CK [.b b, .o r, .o z] hO rfl (fun k' hx hr hO' => rblock_spec (f := f) t h.si.nodup hl (hO := hO')) ?_))))
          rintro _ _ w ⟨rfl, rfl⟩ hO
          simp only [List.cons_append, List.nil_append] at hO
          obtain ⟨bl, hb⟩ : ∃ bl, bl = furthF x.A x.st f := ⟨_, rfl⟩
          rw [← hb]
          refine V2 rfl rfl rfl (K2 (K3 (K0 (K0 (K1 (V1 rfl rfl rfl ?_))))))
          refine Z0 (fun h15_1 => ?_) (fun h15_1 => ?_)
          · refine K2 (K3 (L8 (K0 ?_)))
            obtain ⟨a0, ha0⟩ : ∃ a0 : Nat, findI x.st f = (a0 : Int) := ⟨(findI x.st f).toNat, by omega⟩
            obtain ⟨q, d, hq, hld, hO⟩ := rstkL_open (hO.ks [.o z])
            rw [ha0]
            refine da_region (by intro c a d v w h; cases d <;> exact h) ?_
            have hO := hO.drew
            refine da_phase _ [15] (SO.ks [.b b, .b z] hO) ?_
            refine dx_u 0 (by kernel_rfl) rfl rfl rfl (fun w => y_move rfl) ?_
            refine dx_u 1 (by kernel_rfl) rfl rfl rfl (fun w => y_nilCheck rfl rfl) ?_
            refine dx_u 2 (by kernel_rfl) rfl rfl rfl (fun w => y_fldb (o' := 1) rfl) ?_
            refine dx_y 3 (by kernel_rfl) rfl rfl rfl (fun w ⟨m, hw⟩ => D5 hw rfl) ?_
            refine dx_u 4 (by kernel_rfl) rfl rfl rfl (fun w => y_move rfl) ?_
            refine dx_u 5 (by kernel_rfl) rfl rfl rfl (fun w => y_nilCheck rfl rfl) ?_
            refine dx_u 6 (by kernel_rfl) rfl rfl rfl (fun w => y_fldb (o' := 1) rfl) ?_
            refine dx_y 7 (by kernel_rfl) rfl rfl rfl (fun w ⟨m, hw⟩ => D5 hw rfl) ?_
            refine dx_u 8 (by kernel_rfl) rfl rfl rfl (fun w => y_nilCheck rfl rfl) ?_
            refine dx_u 9 (by kernel_rfl) rfl rfl rfl (fun w => y_fldb (o' := 1) rfl) ?_
            refine dx_y 10 (by kernel_rfl) rfl rfl rfl (fun w ⟨m, hw⟩ => D5 hw rfl) ?_
            refine dx_u 11 (by kernel_rfl) rfl rfl rfl (fun w => y_move rfl) ?_
            refine dx_y 12 (by kernel_rfl) rfl rfl rfl (fun w ⟨m, hw⟩ => y_hd a0 rfl rfl) ?_
            refine dx_u 13 (by kernel_rfl) rfl rfl rfl (fun w => y_nilCheck rfl rfl) ?_
            refine dx_u 14 (by kernel_rfl) rfl rfl rfl (fun w => y_fldb (o' := 1) rfl) ?_
            refine dx_close 15 (by kernel_rfl) rfl rfl ?_
            refine Y1 hO rfl rfl (fun w hO => ?_)
            simp only [List.set_cons_zero, List.set_cons_succ] at hO
            refine o_done (da_end (by kernel_rfl) ?_)
            refine K3 (K0 ?_)
            have hO := sls_cut (hO.ks [.p q]) a0 d (by omega) (by omega) (Nat.le_refl _)
            have hO := rstkL_shut (hO.ks [.b z, .p q]) (by first | (simp; done) | (simp; omega))
            refine K1 (V1 rfl rfl rfl (V3 rfl rfl rfl rfl (l_y rfl rfl (y_fldb (o' := 2) rfl) (l_y rfl rfl (D5 hO rfl) ?_))))
            refine V1 rfl rfl rfl (CK [.o yl] hO rfl (fun k' hx hr hO' => zRemove_spec (id := f) hD hL (hO := hO')) ?_)
            rintro _ _ w ⟨rfl, rfl⟩ hO
            simp only [List.cons_append, List.nil_append] at hO
            refine K2 (K3 (K0 (K1 (V2 rfl rfl rfl (V2 rfl rfl rfl (K2 (K3 (K6 (K9 ?_)))))))))
            obtain ⟨rfl, rfl, rfl⟩ := g.i4 hf hf9 hat hsc9 (by rw [← hb]; exact h15_1)
            rw [hee] at hO
            exact fin2 rfl rfl rfl ⟨_, ⟨rfl, K, R, t, by dsimp only; rw [ha0]; rfl⟩, hO.ks [.b b, .o r, .o z, .o yl]⟩
          · refine K2 (K3 (L9 (K5 (K3 (K0 (K1 (V2 rfl rfl rfl (K2 (K3 ?_)))))))))
            refine c_cut (X := Int) (fun be => [(0, .pointer (some ⟨b, 0, none⟩)), (1, .string nm), (4, .bool false), (5, .bool false), (6, .int .i64 f), (8, .int .i64 bl), (9, .int .i64 be)]) (fun be w => Own k w [ragB b r z yl fo er, rarL r R, rstkL z r x.st, ralL yl r x.L] ∧ (be = max 0 (atI x.st (findI x.st f - 1))) ∧ (bl ≠ -1)) ?_ ?_
            · refine K0 (K1 (V1 rfl rfl rfl ?_))
              refine Z0 (fun h20_1 => ?_) (fun h20_1 => ?_)
              · refine K2 (K3 (L8 ?_))
                obtain ⟨q, d, hq, hld, hO⟩ := rstkL_open (hO.ks [.o z])
                refine K1 (V1 rfl rfl rfl (V3 rfl rfl rfl rfl (l_y rfl rfl (y_fldb (o' := 1) rfl) (l_y rfl rfl (D5 hO rfl) ?_))))
                refine V3 rfl rfl rfl rfl (l_y rfl rfl (y_fldb (o' := 1) rfl) (l_y rfl rfl (D5 hO rfl) ?_))
                refine V1 rfl rfl rfl (l_y rfl rfl (D4) ?_)
                refine l_y rfl rfl (y_idx rfl rfl) ?_
                refine l_y rfl rfl (y_e1 (x0 := 0) hO rfl) ?_
                refine V2 rfl rfl rfl (K2 ?_)
                obtain ⟨hO, hbe9⟩ : Own k w [ragB b r z yl fo er, rarL r R, rstkL z r x.st, ralL yl r x.L] ∧ (at_ x.st (((findI x.st f) - 1) : Int).toNat) = max 0 (atI x.st (findI x.st f - 1)) := by
                  first
                  | exact ⟨hO.ks [.b b, .o r, .o z, .o yl], by rw [atI, if_pos (by omega)]; rfl⟩
                  | exact ⟨(rstkL_shut (hO.ks [.b z, .p q])).ks [.b b, .o r, .o z, .o yl], by
                      have e9 : atI x.st (findI x.st f - 1) = at_ x.st (findI x.st f - 1).toNat := by rw [atI, if_neg (by omega)]
                      have h9 := hasB_true (elB_has (h.si.el _ (at_mem (xs := x.st) (i := (findI x.st f - 1).toNat) (by omega))))
                      rw [e9]; omega⟩
                exact q_cut ((at_ x.st (((findI x.st f) - 1) : Int).toNat)) ⟨rfl, rfl, rfl, rfl, rfl, rfl, rfl, trivial⟩ ⟨hO.only [.b b, .o r, .o z, .o yl], hbe9, (by assumption)⟩
              · refine K2 (K3 (L9 (K5 ?_)))
                obtain ⟨hO, hbe9⟩ : Own k w [ragB b r z yl fo er, rarL r R, rstkL z r x.st, ralL yl r x.L] ∧ 0 = max 0 (atI x.st (findI x.st f - 1)) := by
                  first
                  | exact ⟨hO.ks [.b b, .o r, .o z, .o yl], by rw [atI, if_pos (by omega)]; rfl⟩
                  | exact ⟨(rstkL_shut (hO.ks [.b z, .p q])).ks [.b b, .o r, .o z, .o yl], by
                      have e9 : atI x.st (findI x.st f - 1) = at_ x.st (findI x.st f - 1).toNat := by rw [atI, if_neg (by omega)]
                      have h9 := hasB_true (elB_has (h.si.el _ (at_mem (xs := x.st) (i := (findI x.st f - 1).toNat) (by omega))))
                      rw [e9]; omega⟩
                exact q_cut (0) ⟨rfl, rfl, rfl, rfl, rfl, rfl, rfl, trivial⟩ ⟨hO.only [.b b, .o r, .o z, .o yl], hbe9, (by assumption)⟩
            · rintro be w ⟨hO, hbe, hbd⟩
              refine K0 ?_
              have hag := h.ag hf hf9 hat hb hbd
              obtain ⟨A', st', ls', yy, q1, d1, Kz, hsw, hdn, hot, hyy⟩ := g.i5 hf hf9 hat hsc9 hb hbd
              have hIy := hsw.inn.keep k (by omega) hag.1
              have hkk := hsw.inn.keepK k (by omega) hag.1
              have hkp := hsw.keep k hag.1 rfl hn0 hag.2.1 hag.2.2
              have hmk := hIy.mkk
              have hyl : yy.st.length ≤ 1000000 := Nat.le_trans hIy.si.len (Nat.le_trans hIy.len (by omega))
              have hyL : yy.L.length ≤ 2000000 := Nat.le_trans hIy.ll hln
              have hyA := hIy.len
              have hfy := findE_at hIy.fl
              have hent := (hIy.li.ent _ (at_mem hfy.1)).resolve_left (by rw [hfy.2.1]; exact hfy.2.2)
              have hfgm := forget_mark (id := f) hIy.mkk
              have hfl8 := hIy.fl
              refine K1 (V1 rfl rfl rfl (V1 rfl rfl rfl (V1 rfl rfl rfl (V1 rfl rfl rfl (V3 rfl rfl rfl rfl (l_y rfl rfl (y_fldb (o' := 2) rfl) (l_y rfl rfl (D5 hO rfl) ?_)))))))
              refine V1 rfl rfl rfl (CK [.o yl] hO rfl (fun k' hx hr hO' => zFind_spec (x := f) hD hL (hO := hO')) ?_)
              rintro _ _ w ⟨rfl, rfl⟩ hO
              simp only [List.cons_append, List.nil_append] at hO
              refine CK [.b b, .o r, .o z, .o yl] hO rfl (fun k' hx hr hO' => inner_spec hag.1 (by omega) hln t hsw.inn (hO := hO')) ?_
              rintro _ _ w ⟨rfl, Ky, Ry, ty, rfl⟩ hO
              simp only [List.cons_append, List.nil_append] at hO
              have hsp := spotV_ok (fo := fo) (target := be) ty.tree hIy.ai.wi hIy.si.el (by rw [hbe]; exact hag.2.2.keeps hkk)
              obtain ⟨sp, hspe⟩ : ∃ sp, sp = (spotV yy.A yy.st be fo).1 := ⟨_, rfl⟩
              rw [← hspe] at hsp
              have hl2 : (putF yy.A sp yy.last).length = yy.A.length := putF_len
              have hK2 := hIy.ai.keeps sp yy.last
              refine V1 rfl rfl rfl (l_y rfl rfl (y_extract rfl rfl) (l_y rfl rfl (y_extract rfl rfl) (V2 rfl rfl rfl (V2 rfl rfl rfl (K2 (K3 ?_))))))
              refine c_cut (X := Nat) (fun b12 => [(0, .pointer (some ⟨b, 0, none⟩)), (1, .string nm), (4, .bool false), (5, .bool false), (6, .int .i64 f), (8, .int .i64 bl), (10, .int .i64 yy.last), (11, .int .i64 yy.mark), (12, .pointer (some ⟨b12, 0, none⟩))]) (fun b12 w => Own k w [ragB b r z yl fo er, rarL r Ry, rstkL z r yy.st, ralL yl r yy.L, blk b12 135 (Api_spot.cells sp)] ∧ True) ?_ ?_
              · refine da_region (by intro c a d v w h; cases d <;> exact h) ?_
                have hO := hO.drew
                refine da_phase _ [18] (SO.ks [.b b] hO) ?_
                refine dx_u 0 (by kernel_rfl) rfl rfl rfl (fun w => y_move rfl) ?_
                refine dx_u 1 (by kernel_rfl) rfl rfl rfl (fun w => y_nilCheck rfl rfl) ?_
                refine dx_u 2 (by kernel_rfl) rfl rfl rfl (fun w => y_fldb (o' := 0) rfl) ?_
                refine dx_y 3 (by kernel_rfl) rfl rfl rfl (fun w ⟨m, hw⟩ => D5 hw rfl) ?_
                refine dx_u 4 (by kernel_rfl) rfl rfl rfl (fun w => y_move rfl) ?_
                refine dx_u 5 (by kernel_rfl) rfl rfl rfl (fun w => y_nilCheck rfl rfl) ?_
                refine dx_u 6 (by kernel_rfl) rfl rfl rfl (fun w => y_fldb (o' := 1) rfl) ?_
                refine dx_y 7 (by kernel_rfl) rfl rfl rfl (fun w ⟨m, hw⟩ => D5 hw rfl) ?_
                refine dx_u 8 (by kernel_rfl) rfl rfl rfl (fun w => y_move rfl) ?_
                refine dx_u 9 (by kernel_rfl) rfl rfl rfl (fun w => y_move rfl) ?_
                refine dx_u 10 (by kernel_rfl) rfl rfl rfl (fun w => y_nilCheck rfl rfl) ?_
                refine dx_u 11 (by kernel_rfl) rfl rfl rfl (fun w => y_fldb (o' := 3) rfl) ?_
                refine dx_y 12 (by kernel_rfl) rfl rfl rfl (fun w ⟨m, hw⟩ => D5 hw rfl) ?_
                refine dx_two 13 17 (by kernel_rfl) rfl rfl rfl rfl ?_ ?_
                · refine CK [.o r, .o z] hO rfl (fun k' hx hr hO' => tSpot_spec (target := be) (f := fo) ty.sim hIy.si.el hIy.ai.wi.inn hyl (FosOk.of ty.tree hIy.ai.wi hIy.si.el) (hO := hO')) ?_
                  rintro _ _ w ⟨rfl, rfl⟩ hO
                  simp only [List.cons_append, List.nil_append] at hO
                  rw [← hspe]
                  refine o_done (⟨SO.ks [.b b] hO, ?_⟩)
                  refine dx_u 14 (by kernel_rfl) rfl rfl rfl (fun w => y_move rfl) ?_
                  refine dx_u 15 (by kernel_rfl) rfl rfl rfl (fun w => y_extract rfl rfl) ?_
                  refine dx_u 16 (by kernel_rfl) rfl rfl rfl (fun w => y_extract rfl rfl) ?_
                  refine dx_only 17 (by kernel_rfl) rfl rfl ?_
                  refine s_alloc (vs := [.int .i64 0, .int .i64 0]) hO rfl rfl rfl fun b12 w hO => ?_
                  refine o_done (⟨SO.ks [.b b] hO, ?_⟩)
                  refine dx_close 18 (by kernel_rfl) rfl rfl ?_
                  refine Y3 hO rfl rfl (fun w hO => ?_)
                  refine o_done (da_phase _ [] (SO.ks [] hO) ?_)
                  refine dx_u 19 (by kernel_rfl) rfl rfl rfl (fun w => y_assign rfl) ?_
                  refine dx_end (by kernel_rfl) ?_
                  exact q_cut (b12) ⟨rfl, rfl, rfl, rfl, rfl, rfl, rfl, rfl, rfl, trivial⟩ ⟨hO.only [.b b, .o r, .o z, .o yl, .b b12], trivial⟩
                · refine s_alloc (vs := [.int .i64 0, .int .i64 0]) hO rfl rfl rfl fun b12 w hO => ?_
                  refine o_done (⟨SO.ks [.b b] hO, ?_⟩)
                  refine dx_only 13 (by kernel_rfl) rfl rfl ?_
                  refine CK [.o r, .o z] hO rfl (fun k' hx hr hO' => tSpot_spec (target := be) (f := fo) ty.sim hIy.si.el hIy.ai.wi.inn hyl (FosOk.of ty.tree hIy.ai.wi hIy.si.el) (hO := hO')) ?_
                  rintro _ _ w ⟨rfl, rfl⟩ hO
                  simp only [List.cons_append, List.nil_append] at hO
                  rw [← hspe]
                  refine o_done (⟨SO.ks [.b b] hO, ?_⟩)
                  refine dx_u 14 (by kernel_rfl) rfl rfl rfl (fun w => y_move rfl) ?_
                  refine dx_u 15 (by kernel_rfl) rfl rfl rfl (fun w => y_extract rfl rfl) ?_
                  refine dx_u 16 (by kernel_rfl) rfl rfl rfl (fun w => y_extract rfl rfl) ?_
                  refine dx_close 18 (by kernel_rfl) rfl rfl ?_
                  refine Y3 hO rfl rfl (fun w hO => ?_)
                  refine o_done (da_phase _ [] (SO.ks [] hO) ?_)
                  refine dx_u 19 (by kernel_rfl) rfl rfl rfl (fun w => y_assign rfl) ?_
                  refine dx_end (by kernel_rfl) ?_
                  exact q_cut (b12) ⟨rfl, rfl, rfl, rfl, rfl, rfl, rfl, rfl, rfl, trivial⟩ ⟨hO.only [.b b, .o r, .o z, .o yl, .b b12], trivial⟩
              · rintro b12 w ⟨hO, _⟩
                refine K0 (da_region (by intro c a d v w h; cases d <;> exact h) ?_)
                have hO := hO.drew
                refine da_phase _ [6] (SO.ks [.b b, .b b12] hO) ?_
                refine dx_u 0 (by kernel_rfl) rfl rfl rfl (fun w => y_move rfl) ?_
                refine dx_u 1 (by kernel_rfl) rfl rfl rfl (fun w => y_nilCheck rfl rfl) ?_
                refine dx_u 2 (by kernel_rfl) rfl rfl rfl (fun w => y_fldb (o' := 0) rfl) ?_
                refine dx_y 3 (by kernel_rfl) rfl rfl rfl (fun w ⟨m, hw⟩ => D5 hw rfl) ?_
                refine dx_y 4 (by kernel_rfl) rfl rfl rfl (fun w ⟨m, hw⟩ => D8 (cs := [.int .i64 sp.Parent, .int .i64 sp.Before]) hw rfl) ?_
                refine dx_u 5 (by kernel_rfl) rfl rfl rfl (fun w => y_move rfl) ?_
                refine dx_close 6 (by kernel_rfl) rfl rfl ?_
                refine CK [.o r] hO rfl (fun k' hx hr hO' => rPutG_spec (want := sp.Parent) (before := sp.Before) (id := yy.last) ty hIy.lst hsp.1 hsp.2 (hO := hO')) ?_
                rintro _ _ w ⟨⟨e9, rfl⟩, K4', R4', t4, rfl⟩ hO
                simp only [List.cons_append, List.nil_append] at hO
                refine o_done (da_end (by kernel_rfl) ?_)
                refine K3 (K0 (K1 (V1 rfl rfl rfl (V3 rfl rfl rfl rfl (l_y rfl rfl (y_fldb (o' := 2) rfl) (l_y rfl rfl (D5 hO rfl) ?_))))))
                refine V1 rfl rfl rfl (CK [.o yl] hO rfl (fun k' hx hr hO' => zFind_spec (x := f) (hIy.li.pl k').dist hyL (hO := hO')) ?_)
                rintro _ _ w ⟨rfl, rfl⟩ hO
                simp only [List.cons_append, List.nil_append] at hO
                refine V2 rfl rfl rfl (K2 (K3 (K0 ?_)))
                obtain ⟨tk, htk⟩ : ∃ tk, tk = (at_ yy.L (findE yy.L f).toNat).Token := ⟨_, rfl⟩
                have htok := hIy.li.tok _ (at_mem hfy.1)
                rw [← htk] at htok hent
                obtain ⟨q, d, hq, hld, hO⟩ := ralL_open (hO.ks [.o yl])
                refine K1 (V1 rfl rfl rfl (V3 rfl rfl rfl rfl (l_y rfl rfl (y_fldb (o' := 2) rfl) (l_y rfl rfl (D5 hO rfl) ?_))))
                refine V3 rfl rfl rfl rfl (l_y rfl rfl (y_fldb (o' := 1) rfl) (l_y rfl rfl (D5 hO rfl) ?_))
                refine V1 rfl rfl rfl (l_y rfl rfl (y_idx rfl rfl) ?_)
                refine l_y rfl rfl (y_fld (j' := 1) rfl) ?_
                refine l_y rfl rfl (y_eA (x0 := 1) (cs := [.int .i64 (at_ yy.L ((findE yy.L f) : Int).toNat).Token.Kind, .string (at_ yy.L ((findE yy.L f) : Int).toNat).Token.Name, .string (at_ yy.L ((findE yy.L f) : Int).toNat).Token.Data, .string (at_ yy.L ((findE yy.L f) : Int).toNat).Token.System, .int .i64 (at_ yy.L ((findE yy.L f) : Int).toNat).Token.Has, .bool (at_ yy.L ((findE yy.L f) : Int).toNat).Token.Quirks, .int .i32 (at_ yy.L ((findE yy.L f) : Int).toNat).Token.Char, .bool (at_ yy.L ((findE yy.L f) : Int).toNat).Token.Self, .slice (at_ yy.L ((findE yy.L f) : Int).toNat).Token.AttrsP (at_ yy.L ((findE yy.L f) : Int).toNat).Token.Attrs.length (at_ yy.L ((findE yy.L f) : Int).toNat).Token.AttrsC]) hO rfl) ?_
                refine s_alloc (vs := [.int .i64 0, .string ⟨#[]⟩, .string ⟨#[]⟩, .string ⟨#[]⟩, .int .i64 0, .bool false, .int .i32 0, .bool false, .slice none 0 0]) hO rfl rfl rfl fun b15 w hO => ?_
                refine Y3 hO rfl rfl (fun w hO => ?_)
                refine K2 (K3 (K0 ?_))
                have hO := ralL_shut (hO.ks [.b yl, .p q])
                refine K1 (V1 rfl rfl rfl (l_y rfl rfl (D8 (cs := [.int .i64 (at_ yy.L ((findE yy.L f) : Int).toNat).Token.Kind, .string (at_ yy.L ((findE yy.L f) : Int).toNat).Token.Name, .string (at_ yy.L ((findE yy.L f) : Int).toNat).Token.Data, .string (at_ yy.L ((findE yy.L f) : Int).toNat).Token.System, .int .i64 (at_ yy.L ((findE yy.L f) : Int).toNat).Token.Has, .bool (at_ yy.L ((findE yy.L f) : Int).toNat).Token.Quirks, .int .i32 (at_ yy.L ((findE yy.L f) : Int).toNat).Token.Char, .bool (at_ yy.L ((findE yy.L f) : Int).toNat).Token.Self, .slice (at_ yy.L ((findE yy.L f) : Int).toNat).Token.AttrsP (at_ yy.L ((findE yy.L f) : Int).toNat).Token.Attrs.length (at_ yy.L ((findE yy.L f) : Int).toNat).Token.AttrsC]) hO rfl) ?_))
                refine CK [.b b, .o r] hO rfl (fun k' hx hr hO' => rfresh_spec (tk := (at_ yy.L (findE yy.L f).toNat).Token) (by rw [← htk]; exact htok) t4 q1 d1 (hO := hO')) ?_
                rintro _ _ w ⟨rfl, K5', R5', t5, rfl⟩ hO
                simp only [List.cons_append, List.nil_append] at hO
                obtain ⟨EL, hEL⟩ : ∃ EL, EL = swE yy f be fo q1 d1 := ⟨_, rfl⟩
                have hEe : elementL (putF yy.A ⟨sp.Parent, sp.Before⟩ yy.last) 0 (at_ yy.L (findE yy.L f).toNat).Token.Name [] q1 d1 = EL := by rw [hEL, swE, ← hspe]; rfl
                rw [hEe] at t5 ⊢
                have hel := hkp.2.2.2.2.2
                rw [← hbe] at hel
                obtain ⟨hE1, hE2, hE3, hE4, hE5, hE6, hE7, hE8⟩ := hel
                have hEL3 : elementL (putF yy.A (spotV yy.A yy.st be fo).1 yy.last) 0 (tkF yy.L f).Name [] q1 d1 = EL := by rw [hEL, swE]
                rw [hEL3] at hE1 hE2 hE3 hE4 hE5 hE6 hE7 hE8
                rw [← hspe] at hE1 hE6 hE7 hE8
                have htw : InA EL.2.2 EL.1 := ⟨by omega, by omega⟩
                have hbk3 : InA EL.2.2 bl := ((hag.2.1.keeps hkk).keeps hK2).keeps hE8
                have hKu : K5' bl = Kz bl := by
                  have h9 := hsw.tree
                  rw [← hbe, ← hEL] at h9
                  exact (t5.tree.lnk bl hbk3).uniq (h9.lnk bl hbk3)
                have hK5l := t5.tree.len hbk3
                refine V2 rfl rfl rfl (K2 (K3 (K0 (K1 (V1 rfl rfl rfl (V3 rfl rfl rfl rfl (l_y rfl rfl (y_fldb (o' := 0) rfl) (l_y rfl rfl (D5 hO rfl) ?_))))))))
                refine V1 rfl rfl rfl (CK [.o r] hO rfl (fun k' hx hr hO' => rKids_spec (id := bl) t5.sim (fun _ => by omega) (hO := hO')) ?_)
                rintro _ _ w (⟨h9, _⟩ | ⟨_, q3, d3, rfl, rfl⟩) hO
                · rw [hbk3.b] at h9; cases h9
                simp only [List.cons_append, List.nil_append] at hO
                rw [hKu] at hO ⊢
                have hg3 := (sls_fct (p := q3) hO).2
                refine V2 rfl rfl rfl (K2 (K3 (K0 (K0 (K1 (V2 rfl rfl rfl (K2 (K3 (K4 (c_rounds (X := Rk) (fun u => [(0, .pointer (some ⟨b, 0, none⟩)), (4, .bool false), (5, .bool false), (6, .int .i64 f), (8, .int .i64 bl), (11, .int .i64 yy.mark), (14, .int .i64 (findE yy.L f)), (15, .pointer (some ⟨b15, 0, none⟩)), (16, .int .i64 EL.1), (17, .slice q3 (Kz bl).length d3), (18, .int .i64 (u.i : Int))]) (fun u w => Own k w [ragB b r z yl fo er, rarL r u.R, rstkL z r yy.st, ralL yl r yy.L, blk b15 53 (Api_token.cells (at_ yy.L (findE yy.L f).toNat).Token), sls q3 d3 3 1 (eI .i64) (Kz bl)] ∧ (u.i ≤ (Kz bl).length) ∧ (Two (swK EL ((Kz bl).take u.i)) u.K u.R)) (fun u => (Kz bl).length - u.i) (⟨0, K5', R5'⟩) ⟨rfl, rfl, rfl, rfl, rfl, rfl, rfl, rfl, rfl, rfl, rfl, trivial⟩ ⟨hO.only [.b b, .o r, .o z, .o yl, .b b15, .p q3], Nat.zero_le _, t5⟩ ?_))))))))))
                rintro u w m hm ⟨hO, hi, tu⟩
                refine K0 (K0 (K1 (V1 rfl rfl rfl (V1 rfl rfl rfl (l_y rfl rfl (y_lenL rfl) ?_)))))
                refine Z0 (fun h30_3 => ?_) (fun h30_3 => ?_)
                · refine K2 (K3 (L8 (K5 (K3 (K0 (K4 ?_))))))
                  have hAK := hE3.swK ((Kz bl).take u.i)
                  have hkz : (Kz bl).length ≤ 32768 := by rw [← hKu]; omega
                  have hkm : InA EL.2.2 (at_ (Kz bl) u.i) := ((t5.tree.lnk bl hbk3).mem (by rw [hKu]; exact at_mem (by omega))).1
                  refine da_region (by intro c a d v w h; cases d <;> exact h) ?_
                  have hO := hO.drew
                  refine da_phase _ [10] (SO.ks [.b b, .p q3] hO) ?_
                  refine dx_u 0 (by kernel_rfl) rfl rfl rfl (fun w => y_move rfl) ?_
                  refine dx_u 1 (by kernel_rfl) rfl rfl rfl (fun w => y_nilCheck rfl rfl) ?_
                  refine dx_u 2 (by kernel_rfl) rfl rfl rfl (fun w => y_fldb (o' := 0) rfl) ?_
                  refine dx_y 3 (by kernel_rfl) rfl rfl rfl (fun w ⟨m, hw⟩ => D5 hw rfl) ?_
                  refine dx_u 4 (by kernel_rfl) rfl rfl rfl (fun w => y_move rfl) ?_
                  refine dx_u 6 (by kernel_rfl) rfl rfl rfl (fun w => y_move rfl) ?_
                  refine dx_u 7 (by kernel_rfl) rfl rfl rfl (fun w => y_move rfl) ?_
                  refine dx_u 8 (by kernel_rfl) rfl rfl rfl (fun w => y_idx rfl rfl) ?_
                  refine dx_y 9 (by kernel_rfl) rfl rfl rfl (fun w ⟨m, hw⟩ => y_e1 (x0 := 0) hw rfl) ?_
                  refine dx_only 5 (by kernel_rfl) rfl rfl ?_
                  refine s_build (parts := [(0, .tmp 188), (1, .const (.int .i64 (-1)))]) (cs := [.int .i64 EL.1, .int .i64 (-1)]) rfl rfl (fun a ha => partsOf_sound ha _ _ rfl) (by kernel_rfl) (o_done (⟨SO.ks [.b b, .p q3] hO, ?_⟩))
                  refine dx_close 10 (by kernel_rfl) rfl rfl ?_
                  refine CK [.o r] hO rfl (fun k' hx hr hO' => rPutG_spec (want := EL.1) (before := -1) (id := at_ (Kz bl) u.i) tu (hkm.keeps hAK.2.1) (htw.keeps hAK.2.1) (.inl rfl) (hO := hO')) ?_
                  rintro _ _ w ⟨⟨e9, rfl⟩, K6', R6', t6, rfl⟩ hO
                  simp only [List.cons_append, List.nil_append] at hO
                  refine o_done (da_end (by kernel_rfl) ?_)
                  refine K8 (K3 (K1 (V1 rfl rfl rfl (l_y rfl rfl (D4) ?_))))
                  refine V2 rfl rfl rfl (K2 ?_)
                  have e9 : swK EL ((Kz bl).take (u.i + 1)) = putF (swK EL ((Kz bl).take u.i)) ⟨EL.1, -1⟩ (at_ (Kz bl) u.i) := by rw [take_succ_at (by omega), swK_snoc]
                  exact q_next ((⟨u.i + 1, K6', R6'⟩ : Rk)) ⟨rfl, rfl, rfl, rfl, rfl, rfl, rfl, rfl, rfl, rfl, rfl, trivial⟩ ⟨hO.only [.b b, .o r, .o z, .o yl, .b b15, .p q3], (by dsimp only; omega), (by dsimp only; rw [e9]; exact t6)⟩ (by dsimp only; omega)
                · refine K2 (K3 (L9 (K7 (L1 (L1 (L2 (K3 (K0 ?_))))))))
                  have hAK := hE3.swK (Kz bl)
                  have hi9 : u.i = (Kz bl).length := by omega
                  rw [hi9, List.take_length] at tu
                  have hA5 := hAK.1.put ⟨bl, -1⟩ EL.1
                  have hA' : A' = putF (swK EL (Kz bl)) ⟨bl, -1⟩ EL.1 := by rw [hsw.arena, swA, ← hbe, ← hEL]
                  have hkL : DistN yy.L := (hIy.li.pl k).dist
                  have hfgl : (removeE yy.L f).2.length ≤ 2000000 := Nat.le_trans removeE_sub.length_le hyL
                  have hrl : (removeL yy.st f).2.length ≤ 1000000 := by
                    refine Nat.le_trans ?_ hyl
                    unfold removeL
                    split
                    · exact Nat.le_refl _
                    · simp; omega
                  have hnd2 := (hIy.si.remove (id := f)).nodup
                  have hD2 := ((hIy.li.sub (removeE_sub (id := f))).pl k).dist
                  have hfb2 := @findI_lt (removeL yy.st f).2 bl
                  have hfg2 := @findI_ge (removeL yy.st f).2 bl
                  have hre : (removeE yy.L f).1 = 0 := by have := hIy.fl; rw [removeE, if_neg (by omega)]
                  have hfl9 := hIy.fl
                  refine K1 (V1 rfl rfl rfl (V3 rfl rfl rfl rfl (l_y rfl rfl (y_fldb (o' := 0) rfl) (l_y rfl rfl (D5 hO rfl) ?_))))
                  refine V1 rfl rfl rfl (s_build (parts := [(0, .tmp 199), (1, .const (.int .i64 (-1)))]) (cs := [.int .i64 bl, .int .i64 (-1)]) rfl rfl (fun a ha => partsOf_sound ha _ _ rfl) (by kernel_rfl) (V1 rfl rfl rfl (CK [.o r] hO rfl (fun k' hx hr hO' => rPutG_spec (want := bl) (before := -1) (id := EL.1) tu (htw.keeps hAK.2.1) (hbk3.keeps hAK.2.1) (.inl rfl) (hO := hO')) ?_)))
                  rintro _ _ w ⟨⟨e9, rfl⟩, K7', R7', t7, rfl⟩ hO
                  simp only [List.cons_append, List.nil_append] at hO
                  rw [← hA'] at t7
                  refine K2 (K3 (K0 (K1 (V1 rfl rfl rfl (V3 rfl rfl rfl rfl (l_y rfl rfl (y_fldb (o' := 2) rfl) (l_y rfl rfl (D5 hO rfl) ?_)))))))
                  refine V1 rfl rfl rfl (CK [.o yl] hO rfl (fun k' hx hr hO' => zRemove_spec (id := f) hkL hyL (hO := hO')) ?_)
                  rintro _ _ w ⟨rfl, rfl⟩ hO
                  simp only [List.cons_append, List.nil_append] at hO
                  refine K2 (K3 ?_)
                  refine c_cut (X := Int) (fun mk => [(0, .pointer (some ⟨b, 0, none⟩)), (4, .bool false), (5, .bool false), (6, .int .i64 f), (8, .int .i64 bl), (11, .int .i64 mk), (15, .pointer (some ⟨b15, 0, none⟩)), (16, .int .i64 EL.1)]) (fun mk w => Own k w [ragB b r z yl fo er, rarL r R7', rstkL z r yy.st, ralL yl r (removeE yy.L f).2, blk b15 53 (Api_token.cells (at_ yy.L (findE yy.L f).toNat).Token)] ∧ (mk = (forgetF yy.L yy.mark f).2)) ?_ ?_
                  · refine K0 (K1 (V1 rfl rfl rfl (V1 rfl rfl rfl ?_)))
                    refine Z0 (fun h35_2 => ?_) (fun h35_2 => ?_)
                    · refine K2 (K3 (L8 (K1 (V1 rfl rfl rfl (l_y rfl rfl (D4) ?_)))))
                      refine V2 rfl rfl rfl (K2 ?_)
                      exact q_cut (_) ⟨rfl, rfl, rfl, rfl, rfl, rfl, rfl, rfl, trivial⟩ ⟨hO.only [.b b, .o r, .o z, .o yl, .b b15], (by rw [forgetF, if_neg (show ¬ findE yy.L f < 0 by omega)]; first | (rw [if_pos ⟨hre, by omega⟩]; done) | (rw [if_neg (by omega)]; done))⟩
                    · refine K2 (K3 (L9 (K5 ?_)))
                      exact q_cut (_) ⟨rfl, rfl, rfl, rfl, rfl, rfl, rfl, rfl, trivial⟩ ⟨hO.only [.b b, .o r, .o z, .o yl, .b b15], (by rw [forgetF, if_neg (show ¬ findE yy.L f < 0 by omega)]; first | (rw [if_pos ⟨hre, by omega⟩]; done) | (rw [if_neg (by omega)]; done))⟩
                  · rintro mk w ⟨hO, hmk9⟩
                    refine K0 (da_region (by intro c a d v w h; cases d <;> exact h) ?_)
                    have hO := hO.drew
                    refine da_phase _ [7] (SO.ks [.b b, .b b15] hO) ?_
                    refine dx_u 0 (by kernel_rfl) rfl rfl rfl (fun w => y_move rfl) ?_
                    refine dx_u 1 (by kernel_rfl) rfl rfl rfl (fun w => y_nilCheck rfl rfl) ?_
                    refine dx_u 2 (by kernel_rfl) rfl rfl rfl (fun w => y_fldb (o' := 2) rfl) ?_
                    refine dx_y 3 (by kernel_rfl) rfl rfl rfl (fun w ⟨m, hw⟩ => D5 hw rfl) ?_
                    refine dx_u 4 (by kernel_rfl) rfl rfl rfl (fun w => y_move rfl) ?_
                    refine dx_u 5 (by kernel_rfl) rfl rfl rfl (fun w => y_move rfl) ?_
                    refine dx_y 6 (by kernel_rfl) rfl rfl rfl (fun w ⟨m, hw⟩ => D8 (cs := [.int .i64 (at_ yy.L ((findE yy.L f) : Int).toNat).Token.Kind, .string (at_ yy.L ((findE yy.L f) : Int).toNat).Token.Name, .string (at_ yy.L ((findE yy.L f) : Int).toNat).Token.Data, .string (at_ yy.L ((findE yy.L f) : Int).toNat).Token.System, .int .i64 (at_ yy.L ((findE yy.L f) : Int).toNat).Token.Has, .bool (at_ yy.L ((findE yy.L f) : Int).toNat).Token.Quirks, .int .i32 (at_ yy.L ((findE yy.L f) : Int).toNat).Token.Char, .bool (at_ yy.L ((findE yy.L f) : Int).toNat).Token.Self, .slice (at_ yy.L ((findE yy.L f) : Int).toNat).Token.AttrsP (at_ yy.L ((findE yy.L f) : Int).toNat).Token.Attrs.length (at_ yy.L ((findE yy.L f) : Int).toNat).Token.AttrsC]) hw rfl) ?_
                    refine dx_close 7 (by kernel_rfl) rfl rfl ?_
                    refine CK [.o r, .o yl] hO rfl (fun k' hx hr hO' => zPut_spec (id := EL.1) (i := mk) (tk := (at_ yy.L (findE yy.L f).toNat).Token) t7 hD2 hfgl (hO := hO')) ?_
                    rintro _ _ w ⟨rfl, rfl⟩ hO
                    simp only [List.cons_append, List.nil_append] at hO
                    refine o_done (da_end (by kernel_rfl) ?_)
                    refine K3 (K0 (K1 (V1 rfl rfl rfl (V3 rfl rfl rfl rfl (l_y rfl rfl (y_fldb (o' := 1) rfl) (l_y rfl rfl (D5 hO rfl) ?_))))))
                    refine V1 rfl rfl rfl (CK [.o z] hO rfl (fun k' hx hr hO' => tRemove_spec (id := f) hIy.si.nodup hyl (hO := hO')) ?_)
                    rintro _ _ w ⟨rfl, rfl⟩ hO
                    simp only [List.cons_append, List.nil_append] at hO
                    refine K2 (K3 (K0 (da_region (by intro c a d v w h; cases d <;> exact h) ?_)))
                    have hO := hO.drew
                    refine da_phase _ [12] (SO.ks [.b b] hO) ?_
                    refine dx_u 0 (by kernel_rfl) rfl rfl rfl (fun w => y_move rfl) ?_
                    refine dx_u 1 (by kernel_rfl) rfl rfl rfl (fun w => y_nilCheck rfl rfl) ?_
                    refine dx_u 2 (by kernel_rfl) rfl rfl rfl (fun w => y_fldb (o' := 1) rfl) ?_
                    refine dx_y 3 (by kernel_rfl) rfl rfl rfl (fun w ⟨m, hw⟩ => D5 hw rfl) ?_
                    refine dx_u 4 (by kernel_rfl) rfl rfl rfl (fun w => y_move rfl) ?_
                    refine dx_u 5 (by kernel_rfl) rfl rfl rfl (fun w => y_nilCheck rfl rfl) ?_
                    refine dx_u 6 (by kernel_rfl) rfl rfl rfl (fun w => y_fldb (o' := 1) rfl) ?_
                    refine dx_y 7 (by kernel_rfl) rfl rfl rfl (fun w ⟨m, hw⟩ => D5 hw rfl) ?_
                    refine dx_u 8 (by kernel_rfl) rfl rfl rfl (fun w => y_move rfl) ?_
                    refine dx_u 11 (by kernel_rfl) rfl rfl rfl (fun w => y_move rfl) ?_
                    refine dx_only 9 (by kernel_rfl) rfl rfl ?_
                    refine CK [.o z] hO rfl (fun k' hx hr hO' => tFind_spec (id := bl) hnd2 hrl (hO := hO')) ?_
                    rintro _ _ w ⟨rfl, rfl⟩ hO
                    simp only [List.cons_append, List.nil_append] at hO
                    refine o_done (⟨SO.ks [.b b] hO, ?_⟩)
                    refine dx_u 10 (by kernel_rfl) rfl rfl rfl (fun w => D4) ?_
                    refine dx_close 12 (by kernel_rfl) rfl rfl ?_
                    refine CK [.o r, .o z] hO rfl (fun k' hx hr hO' => tPut_spec (id := EL.1) (i := findI (removeL yy.st f).2 bl + 1) t7.sim hnd2 hrl (hO := hO')) ?_
                    rintro _ _ w ⟨rfl, rfl⟩ hO
                    simp only [List.cons_append, List.nil_append] at hO
                    refine o_done (da_end (by kernel_rfl) ?_)
                    refine K3 (K0 (K1 (V2 rfl rfl rfl (V2 rfl rfl rfl (K2 (K3 (K6 ?_)))))))
                    have eL : ls' = (putE A' (removeE yy.L f).2 mk ⟨EL.1, (at_ yy.L (findE yy.L f).toNat).Token⟩).2 := by rw [hsw.list, swL, ← hbe, ← hEL, hmk9, forget_fst]; rfl
                    have eS : st' = (putL A' (removeL yy.st f).2 (findI (removeL yy.st f).2 bl + 1) EL.1).2 := by rw [hsw.stack, swS, ← hbe, ← hEL]
                    rw [hdn, hot, hyy]
                    rw [← eL, ← eS, hee] at hO
                    exact fin2 rfl rfl rfl ⟨_, ⟨rfl, K7', R7', t7, rfl⟩, hO.only [.b b, .o r, .o z, .o yl]⟩
end
end Go.Proofs.YtoohapbaelmkcaaGreat
end
section
set_option maxRecDepth 100000
namespace Go.Proofs.YtoohapbaelmkcaaGreat
open Go Go.Hb Go.RowKit
theorem lastL_take {l : List Int} {j : Nat} (h : j < l.length) : lastL (l.take (j + 1)) = at_ l j := by
 rw [take_succ_at h, lastL_app]
theorem rplace_spec {k : Ctx} {w : World} {r : Nat} {R : List Ref01_one} {p : Option Addr} {c : Nat} {F : Pl} {id up : Int} {pre suf : List Int} (hg : Gs p R.length) (hF : RF F R) (h0 : 0 ≤ id) (h1 : id < R.length) (hue : (at_ R id.toNat).Up = up) (hu0 : 0 ≤ up) (hu1 : up < R.length)
  (hrow : (at_ R up.toNat).Kids = pre ++ id :: suf) (hni : id ∉ pre) (hlen : (at_ R up.toNat).Kids.length ≤ 1000000) (hO : Own k w [rB r p R.length c, rS p c R, pool F]) :
  Tri Tryz.prog 91 #[.pointer (some ⟨r, 0, none⟩), .int .i64 id] k w fun v m => v = .int .i64 (pre.length : Int) ∧ m = [rB r p R.length c, rS p c R, pool F] := by
 refine enter (args := [.pointer (some ⟨r, 0, none⟩), .int .i64 id]) Tryz.func91 rfl rfl ?_
 subst hue
 have hkids := (hF.atR (i := ((at_ R id.toNat).Up).toNat) (by omega)).kids
 have hgk := sli_gs hkids
 have hpl : pre.length < (at_ R ((at_ R id.toNat).Up).toNat).Kids.length := by rw [hrow]; simp
 have hat : at_ (at_ R ((at_ R id.toNat).Up).toNat).Kids pre.length = id := by rw [hrow, at_app_r (Nat.le_refl _), Nat.sub_self, at_cons_zero]
 refine K0 (K1 (V2 rfl rfl rfl (K2 (K3 (K0 (da_region (by intro c a d v w h; cases d <;> exact h) ?_))))))
 have hO := hO.drew
 refine da_phase _ [] (SO.ks [.b r, .p p] hO) ?_
 refine dx_u 0 (by kernel_rfl) rfl rfl rfl (fun w => y_move rfl) ?_
 refine dx_u 1 (by kernel_rfl) rfl rfl rfl (fun w => y_nilCheck rfl rfl) ?_
 refine dx_u 2 (by kernel_rfl) rfl rfl rfl (fun w => y_fldb (o' := 0) rfl) ?_
 refine dx_y 3 (by kernel_rfl) rfl rfl rfl (fun w ⟨m, hw⟩ => D5 hw rfl) ?_
 refine dx_u 4 (by kernel_rfl) rfl rfl rfl (fun w => y_move rfl) ?_
 refine dx_u 5 (by kernel_rfl) rfl rfl rfl (fun w => y_nilCheck rfl rfl) ?_
 refine dx_u 6 (by kernel_rfl) rfl rfl rfl (fun w => y_fldb (o' := 0) rfl) ?_
 refine dx_y 7 (by kernel_rfl) rfl rfl rfl (fun w ⟨m, hw⟩ => D5 hw rfl) ?_
 refine dx_u 8 (by kernel_rfl) rfl rfl rfl (fun w => y_move rfl) ?_
 refine dx_u 9 (by kernel_rfl) rfl rfl rfl (fun w => y_idx rfl rfl) ?_
 refine dx_u 10 (by kernel_rfl) rfl rfl rfl (fun w => y_fld (j' := 8) rfl) ?_
 refine dx_y 11 (by kernel_rfl) rfl rfl rfl (fun w ⟨m, hw⟩ => y_e1 (x0 := 8) hw rfl) ?_
 refine dx_u 12 (by kernel_rfl) rfl rfl rfl (fun w => y_idx rfl rfl) ?_
 refine dx_u 13 (by kernel_rfl) rfl rfl rfl (fun w => y_fld (j' := 9) rfl) ?_
 refine dx_y 14 (by kernel_rfl) rfl rfl rfl (fun w ⟨m, hw⟩ => y_e1 (x0 := 9) hw rfl) ?_
 refine dx_u 15 (by kernel_rfl) rfl rfl rfl (fun w => y_assign rfl) ?_
 refine dx_end (by kernel_rfl) ?_
 refine K3 (K0 (K0 ?_))
 skip
 refine K1 (V2 rfl rfl rfl (K2 (K3 (K4 (c_rounds (X := Nat) (fun j => [(1, .int .i64 id), (4, .int .i64 0), (5, .slice (at_ R ((at_ R (id : Int).toNat).Up : Int).toNat).KidsP (at_ R ((at_ R (id : Int).toNat).Up : Int).toNat).Kids.length (at_ R ((at_ R (id : Int).toNat).Up : Int).toNat).KidsC), (6, .int .i64 (j : Int))]) (fun j w => Own k w [rB r p R.length c, rS p c R, pool F] ∧ (j ≤ pre.length)) (fun j => pre.length - j) (0) ⟨rfl, rfl, rfl, rfl, trivial⟩ ⟨hO.only [.b r, .p p, .f], Nat.zero_le _⟩ ?_)))))
 rintro j w m hm ⟨hO, hj⟩
 refine K0 (K0 (K1 (V1 rfl rfl rfl (V1 rfl rfl rfl (l_y rfl rfl (y_lenL rfl) ?_)))))
 refine Z0 (fun h3_3 => ?_) (fun h3_3 => ?_)
 ·refine K2 (K3 (L8 (K5 (K3 (K0 (K4 (K0 (K1 (V1 rfl rfl rfl (V1 rfl rfl rfl (l_y rfl rfl (y_idx rfl rfl) ?_)))))))))))
  refine l_y rfl rfl (y_p1 (x0 := 0) (enc := (eI .i64)) (xs := (at_ R ((at_ R id.toNat).Up).toNat).Kids) hO rfl) ?_
  refine V1 rfl rfl rfl ?_
  refine Z0 (fun h5_5 => ?_) (fun h5_5 => ?_)
  ·refine K2 (K3 (L8 (K0 (K1 (V1 rfl rfl rfl (V2 rfl rfl rfl (K2 (K3 (K6 (L0 (K9 (K9 (L0 (K9 ?_))))))))))))))
   have he : j = pre.length := by
    by_cases e : j < pre.length
    ·have h2 : at_ pre j = id := by
      rw [← h5_5, hrow]
      exact (at_app_l e).symm
     exact absurd (h2 ▸ at_mem e) hni
    ·omega
   exact fin1 rfl rfl ⟨_, ⟨by rw [he], rfl⟩, hO⟩
  ·refine K2 (K3 (L9 (K5 (K8 (K3 (K1 (V1 rfl rfl rfl (l_y rfl rfl (D4) ?_))))))))
   refine V2 rfl rfl rfl (K2 ?_)
   have hne : j ≠ pre.length := fun e => h5_5 (by rw [e]; exact hat)
   exact q_next (j + 1) ⟨rfl, rfl, rfl, rfl, trivial⟩ ⟨hO.only [.b r, .p p, .f], by omega⟩ (by omega)
 ·refine K2 (K3 (L9 (K7 (L1 (L1 (L2 (K3 (K0 (K1 (V2 rfl rfl rfl (K2 (K3 (K6 ?_)))))))))))))
  exfalso
  omega
theorem last_at {pre l : List Int} {id : Int} {suf : List Int} (h : l = pre ++ id :: suf) : (0 < (pre.length : Int) → lastL pre = at_ l ((pre.length : Int) - 1).toNat) ∧ (¬ 0 < (pre.length : Int) → lastL pre = -1) := by
 subst h
 constructor
 ·intro h
  have e : ((pre.length : Int) - 1).toNat = pre.length - 1 := by omega
  rw [e, at_app_l (by omega)]
  have := lastL_take (l := pre) (j := pre.length - 1) (by omega)
  rwa [show pre.length - 1 + 1 = pre.length by omega, List.take_length] at this
 ·intro h
  have : pre = [] := List.eq_nil_of_length_eq_zero (by omega)
  subst this; rfl
theorem next_at {pre l : List Int} {id : Int} {suf : List Int} (h : l = pre ++ id :: suf) : ((pre.length : Int) + 1 < (l.length : Int) → headL suf = at_ l ((pre.length : Int) + 1).toNat) ∧ (¬ (pre.length : Int) + 1 < (l.length : Int) → headL suf = -1) := by
 subst h
 constructor
 ·intro h
  have e : ((pre.length : Int) + 1).toNat = pre.length + 1 := by omega
  rw [e, at_app_r (by omega), show pre.length + 1 - pre.length = 1 by omega]
  cases suf with
  | nil => simp at h
  | cons y suf => rfl
 ·intro h
  cases suf with
  | nil => rfl
  | cons y suf => simp at h; omega
theorem ends_at {l : List Int} : (0 < (l.length : Int) → headL l = at_ l (0 : Int).toNat ∧ lastL l = at_ l ((l.length : Int) - 1).toNat) ∧ (¬ 0 < (l.length : Int) → headL l = -1 ∧ lastL l = -1) := by
  constructor
  · intro h
    refine ⟨?_, ?_⟩
    · cases l with
      | nil => simp at h
      | cons y l => rfl
    · have e : ((l.length : Int) - 1).toNat = l.length - 1 := by omega
      have := lastL_take (l := l) (j := l.length - 1) (by omega)
      rw [show l.length - 1 + 1 = l.length by omega, List.take_length] at this
      rw [e, this]
  · intro h
    have : l = [] := List.eq_nil_of_length_eq_zero (by omega)
    subst this; exact ⟨rfl, rfl⟩
theorem cells_eq {a : Node_one} {ks : List Int} {o : Ref01_one} (s : Sim1 a ks o) {q : Option Addr} {d : Nat} {f la pv nx : Int} (h1 : f = a.Node.First) (h2 : la = a.Node.Last) (h3 : pv = a.Node.Prev) (h4 : nx = a.Node.Next) :
  [Value.int .i64 o.Kind, .int .i64 o.Space, .string o.Name, .slice q o.Attrs.length d, .string o.Data, .string o.System, .int .i64 o.Up, .int .i64 f, .int .i64 la, .int .i64 pv, .int .i64 nx, .int .i64 o.Inner] = Api_node.cells (ownN a.Node q d) := by
 subst h1 h2 h3 h4
 rw [s.kind, s.space, s.name, s.attrs, s.data, s.system, s.up, s.inner]; rfl
set_option maxHeartbeats 8000000 in
theorem rNode_spec {k : Ctx} {w : World} {r : Nat} {A : List Node_one} {K : Int → List Int} {R : List Ref01_one} {id : Int} (t : Tree A K) (s : Sim A K R) (hmax : A.length ≤ 32768) (hO : Own k w [rarL r R]) :
    Tri Tryz.prog 44 #[.pointer (some ⟨r, 0, none⟩), .int .i64 id] k w fun v m =>
      (hasB A id = false ∧ v = .tuple #[.agg (Api_node.cells default).toArray, .int .i64 6] ∧ m = [rarL r R]) ∨
      (hasB A id = true ∧ ∃ q d, v = .tuple #[.agg (Api_node.cells (ownN (at_ A id.toNat).Node q d)).toArray, .int .i64 0] ∧ m = [rarL r R, sls q d 115 4 Api_attr.cells (at_ A id.toNat).Node.Attrs]) := by
  refine enter (args := [.pointer (some ⟨r, 0, none⟩), .int .i64 id]) Tryz.func44 rfl rfl ?_
  obtain ⟨p, c, F, hg, hF, hO⟩ := rarL_open hO
  have hl := s.len
  refine K0 (K1 (s_alloc (vs := [.int .i64 0, .int .i64 0, .string ⟨#[]⟩, .slice none 0 0, .string ⟨#[]⟩, .string ⟨#[]⟩, .int .i64 0, .int .i64 0, .int .i64 0, .int .i64 0, .int .i64 0, .int .i64 0]) hO rfl rfl rfl fun b4 w hO => ?_))
  refine V2 rfl rfl rfl (K2 (K3 (K0 (K0 (K1 (V1 rfl rfl rfl (V1 rfl rfl rfl (CK [.b r, .p p] hO rfl (fun k' hx hr hO' => IsA_spec s (hO := hO')) ?_))))))))
  rintro _ _ w ⟨rfl, rfl⟩ hO
  simp only [List.cons_append, List.nil_append] at hO
  refine l_y rfl rfl (y_not rfl rfl) (K2 (K3 ?_))
  refine c_split rfl (fun hc13 => ?_) (fun hc13 => ?_)
  · simp only [Bool.not_eq_true', Bool.not_eq_false'] at hc13
    refine K0 (K1 (s_build (parts := []) (cs := [.int .i64 0, .int .i64 0, .string ⟨#[]⟩, .slice none 0 0, .string ⟨#[]⟩, .string ⟨#[]⟩, .int .i64 0, .int .i64 0, .int .i64 0, .int .i64 0, .int .i64 0, .int .i64 0]) rfl rfl (fun a ha => partsOf_sound ha _ _ rfl) (by kernel_rfl) (Y3 hO rfl rfl (fun w hO => ?_))))
    refine V2 rfl rfl rfl (K2 (K3 (K6 (K9 ?_))))
    exact finC1 hO rfl rfl rfl ⟨_, .inl ⟨hc13, rfl, rfl⟩, (rarL_shut hF (hO.ks [.b r, .p p, .f])).one⟩
  · simp only [Bool.not_eq_true', Bool.not_eq_false'] at hc13
    refine K5 (K3 (K0 ?_))
    have hid := hasB_true hc13
    have hiA := inA_iff.1 hc13
    have s1 := s.atB hc13
    have hal : (at_ R id.toNat).Attrs.length ≤ 1024 := by rw [s1.attrs]; exact t.attrs _ (by omega)
    have hat := (hF.atR (i := id.toNat) (by omega)).attrs
    have hga := sli_gs hat
    have hkids := (hF.atR (i := id.toNat) (by omega)).kids
    have hgk := sli_gs hkids
    have hkl := t.len hiA
    rw [← s1.kids] at hkl
    have hL := t.lnk id hiA
    have he := ends_at (l := (at_ R id.toNat).Kids)
    rw [s1.kids, ← hL.first, ← hL.last, ← s1.kids] at he
    refine K1 (V1 rfl rfl rfl (V3 rfl rfl rfl rfl (l_y rfl rfl (y_fldb (o' := 0) rfl) (l_y rfl rfl (D5 hO rfl) ?_))))
    refine V1 rfl rfl rfl (l_y rfl rfl (y_idx rfl rfl) ?_)
    refine l_y rfl rfl (y_eA (x0 := 0) (cs := [.int .i64 (at_ R (id : Int).toNat).Kind, .int .i64 (at_ R (id : Int).toNat).Space, .string (at_ R (id : Int).toNat).Name, .slice (at_ R (id : Int).toNat).AttrsP (at_ R (id : Int).toNat).Attrs.length (at_ R (id : Int).toNat).AttrsC, .string (at_ R (id : Int).toNat).Data, .string (at_ R (id : Int).toNat).System, .int .i64 (at_ R (id : Int).toNat).Inner, .int .i64 (at_ R (id : Int).toNat).Host, .int .i64 (at_ R (id : Int).toNat).Up, .slice (at_ R (id : Int).toNat).KidsP (at_ R (id : Int).toNat).Kids.length (at_ R (id : Int).toNat).KidsC]) hO rfl) ?_
    refine s_alloc (vs := [.int .i64 0, .int .i64 0, .string ⟨#[]⟩, .slice none 0 0, .string ⟨#[]⟩, .string ⟨#[]⟩, .int .i64 0, .int .i64 0, .int .i64 0, .slice none 0 0]) hO rfl rfl rfl fun b6 w hO => ?_
    refine Y3 hO rfl rfl (fun w hO => ?_)
    refine K2 (K3 ?_)
    refine c_cut (X := Option Addr × Nat × Nat) (fun z => [(0, .pointer (some ⟨r, 0, none⟩)), (1, .int .i64 id), (4, .pointer (some ⟨b4, 0, none⟩)), (5, .int .i64 0), (6, .pointer (some ⟨b6, 0, none⟩)), (7, .pointer (some ⟨z.2.2, 0, none⟩))]) (fun z w => Own k w [rB r p R.length c, rS p c R, pool F, blk b6 127 (Ref01_one.cells (at_ R id.toNat)), blk b4 48 [.int .i64 0, .int .i64 0, .string ⟨#[]⟩, .slice none 0 0, .string ⟨#[]⟩, .string ⟨#[]⟩, .int .i64 0, .int .i64 0, .int .i64 0, .int .i64 0, .int .i64 0, .int .i64 0], blk z.2.2 48 [.int .i64 (at_ R id.toNat).Kind, .int .i64 (at_ R id.toNat).Space, .string (at_ R id.toNat).Name, .slice z.1 (at_ R id.toNat).Attrs.length z.2.1, .string (at_ R id.toNat).Data, .string (at_ R id.toNat).System, .int .i64 (at_ R id.toNat).Up, .int .i64 (-1), .int .i64 (-1), .int .i64 (-1), .int .i64 (-1), .int .i64 (at_ R id.toNat).Inner], sls z.1 z.2.1 115 4 Api_attr.cells (at_ R id.toNat).Attrs] ∧ True) ?_ ?_
    · refine da_region (by intro c a d v w h; cases d <;> exact h) ?_
      have hO := hO.drew
      refine da_phase _ [20] (SO.ks [.b b6] hO) ?_
      refine dx_u 0 (by kernel_rfl) rfl rfl rfl (fun w => y_fldb (o' := 0) rfl) ?_
      refine dx_y 1 (by kernel_rfl) rfl rfl rfl (fun w ⟨m, hw⟩ => D5 hw rfl) ?_
      refine dx_u 2 (by kernel_rfl) rfl rfl rfl (fun w => y_fldb (o' := 1) rfl) ?_
      refine dx_y 3 (by kernel_rfl) rfl rfl rfl (fun w ⟨m, hw⟩ => D5 hw rfl) ?_
      refine dx_u 4 (by kernel_rfl) rfl rfl rfl (fun w => y_fldb (o' := 2) rfl) ?_
      refine dx_y 5 (by kernel_rfl) rfl rfl rfl (fun w ⟨m, hw⟩ => D5 hw rfl) ?_
      refine dx_u 7 (by kernel_rfl) rfl rfl rfl (fun w => y_fldb (o' := 3) rfl) ?_
      refine dx_y 8 (by kernel_rfl) rfl rfl rfl (fun w ⟨m, hw⟩ => D5 hw rfl) ?_
      refine dx_u 10 (by kernel_rfl) rfl rfl rfl (fun w => y_fldb (o' := 4) rfl) ?_
      refine dx_y 11 (by kernel_rfl) rfl rfl rfl (fun w ⟨m, hw⟩ => D5 hw rfl) ?_
      refine dx_u 12 (by kernel_rfl) rfl rfl rfl (fun w => y_fldb (o' := 5) rfl) ?_
      refine dx_y 13 (by kernel_rfl) rfl rfl rfl (fun w ⟨m, hw⟩ => D5 hw rfl) ?_
      refine dx_u 14 (by kernel_rfl) rfl rfl rfl (fun w => y_fldb (o' := 8) rfl) ?_
      refine dx_y 15 (by kernel_rfl) rfl rfl rfl (fun w ⟨m, hw⟩ => D5 hw rfl) ?_
      refine dx_u 16 (by kernel_rfl) rfl rfl rfl (fun w => y_fldb (o' := 6) rfl) ?_
      refine dx_y 17 (by kernel_rfl) rfl rfl rfl (fun w ⟨m, hw⟩ => D5 hw rfl) ?_
      refine dx_two 6 19 (by kernel_rfl) rfl rfl rfl rfl ?_ ?_
      · refine s_lit0 Api_attr.cells hO (fun b28 w hO => ?_)
        refine o_done (⟨SO.ks [.b b6] hO, ?_⟩)
        refine dx_two 9 19 (by kernel_rfl) rfl rfl rfl rfl ?_ ?_
        · refine s_app0 hO rfl rfl (src_pool hO (by assumption)) (fun p31 c31 w hO gs31 => ?_)
          refine o_done (⟨SO.ks [.b b6] hO, ?_⟩)
          refine dx_two 18 19 (by kernel_rfl) rfl rfl rfl rfl ?_ ?_
          · refine s_build (parts := [(0, .tmp 23), (1, .tmp 25), (2, .tmp 27), (3, .tmp 31), (4, .tmp 33), (5, .tmp 35), (6, .tmp 37), (7, .const (.int .i64 (-1))), (8, .const (.int .i64 (-1))), (9, .const (.int .i64 (-1))), (10, .const (.int .i64 (-1))), (11, .tmp 39)]) (cs := [.int .i64 (at_ R (id : Int).toNat).Kind, .int .i64 (at_ R (id : Int).toNat).Space, .string (at_ R (id : Int).toNat).Name, .slice p31 (at_ R id.toNat).Attrs.length c31, .string (at_ R (id : Int).toNat).Data, .string (at_ R (id : Int).toNat).System, .int .i64 (at_ R (id : Int).toNat).Up, .int .i64 (-1), .int .i64 (-1), .int .i64 (-1), .int .i64 (-1), .int .i64 (at_ R (id : Int).toNat).Inner]) rfl rfl (fun a ha => partsOf_sound ha _ _ rfl) (by kernel_rfl) (o_done (⟨SO.ks [.b b6] hO, ?_⟩))
            refine dx_only 19 (by kernel_rfl) rfl rfl ?_
            refine s_alloc (vs := [.int .i64 0, .int .i64 0, .string ⟨#[]⟩, .slice none 0 0, .string ⟨#[]⟩, .string ⟨#[]⟩, .int .i64 0, .int .i64 0, .int .i64 0, .int .i64 0, .int .i64 0, .int .i64 0]) hO rfl rfl rfl fun b7 w hO => ?_
            refine o_done (⟨SO.ks [.b b6] hO, ?_⟩)
            refine dx_close 20 (by kernel_rfl) rfl rfl ?_
            refine Y3 hO rfl rfl (fun w hO => ?_)
            refine o_done (da_end (by kernel_rfl) ?_)
            exact q_cut ((p31, c31, b7)) ⟨rfl, rfl, rfl, rfl, rfl, rfl, trivial⟩ ⟨hO.only [.b r, .p p, .f, .b b6, .b b4, .b b7, .p p31], trivial⟩
          · refine s_alloc (vs := [.int .i64 0, .int .i64 0, .string ⟨#[]⟩, .slice none 0 0, .string ⟨#[]⟩, .string ⟨#[]⟩, .int .i64 0, .int .i64 0, .int .i64 0, .int .i64 0, .int .i64 0, .int .i64 0]) hO rfl rfl rfl fun b7 w hO => ?_
            refine o_done (⟨SO.ks [.b b6] hO, ?_⟩)
            refine dx_only 18 (by kernel_rfl) rfl rfl ?_
            refine s_build (parts := [(0, .tmp 23), (1, .tmp 25), (2, .tmp 27), (3, .tmp 31), (4, .tmp 33), (5, .tmp 35), (6, .tmp 37), (7, .const (.int .i64 (-1))), (8, .const (.int .i64 (-1))), (9, .const (.int .i64 (-1))), (10, .const (.int .i64 (-1))), (11, .tmp 39)]) (cs := [.int .i64 (at_ R (id : Int).toNat).Kind, .int .i64 (at_ R (id : Int).toNat).Space, .string (at_ R (id : Int).toNat).Name, .slice p31 (at_ R id.toNat).Attrs.length c31, .string (at_ R (id : Int).toNat).Data, .string (at_ R (id : Int).toNat).System, .int .i64 (at_ R (id : Int).toNat).Up, .int .i64 (-1), .int .i64 (-1), .int .i64 (-1), .int .i64 (-1), .int .i64 (at_ R (id : Int).toNat).Inner]) rfl rfl (fun a ha => partsOf_sound ha _ _ rfl) (by kernel_rfl) (o_done (⟨SO.ks [.b b6] hO, ?_⟩))
            refine dx_close 20 (by kernel_rfl) rfl rfl ?_
            refine Y3 hO rfl rfl (fun w hO => ?_)
            refine o_done (da_end (by kernel_rfl) ?_)
            exact q_cut ((p31, c31, b7)) ⟨rfl, rfl, rfl, rfl, rfl, rfl, trivial⟩ ⟨hO.only [.b r, .p p, .f, .b b6, .b b4, .b b7, .p p31], trivial⟩
        · refine s_alloc (vs := [.int .i64 0, .int .i64 0, .string ⟨#[]⟩, .slice none 0 0, .string ⟨#[]⟩, .string ⟨#[]⟩, .int .i64 0, .int .i64 0, .int .i64 0, .int .i64 0, .int .i64 0, .int .i64 0]) hO rfl rfl rfl fun b7 w hO => ?_
          refine o_done (⟨SO.ks [.b b6] hO, ?_⟩)
          refine dx_only 9 (by kernel_rfl) rfl rfl ?_
          refine s_app0 hO rfl rfl (src_pool hO (by assumption)) (fun p31 c31 w hO gs31 => ?_)
          refine o_done (⟨SO.ks [.b b6] hO, ?_⟩)
          refine dx_only 18 (by kernel_rfl) rfl rfl ?_
          refine s_build (parts := [(0, .tmp 23), (1, .tmp 25), (2, .tmp 27), (3, .tmp 31), (4, .tmp 33), (5, .tmp 35), (6, .tmp 37), (7, .const (.int .i64 (-1))), (8, .const (.int .i64 (-1))), (9, .const (.int .i64 (-1))), (10, .const (.int .i64 (-1))), (11, .tmp 39)]) (cs := [.int .i64 (at_ R (id : Int).toNat).Kind, .int .i64 (at_ R (id : Int).toNat).Space, .string (at_ R (id : Int).toNat).Name, .slice p31 (at_ R id.toNat).Attrs.length c31, .string (at_ R (id : Int).toNat).Data, .string (at_ R (id : Int).toNat).System, .int .i64 (at_ R (id : Int).toNat).Up, .int .i64 (-1), .int .i64 (-1), .int .i64 (-1), .int .i64 (-1), .int .i64 (at_ R (id : Int).toNat).Inner]) rfl rfl (fun a ha => partsOf_sound ha _ _ rfl) (by kernel_rfl) (o_done (⟨SO.ks [.b b6] hO, ?_⟩))
          refine dx_close 20 (by kernel_rfl) rfl rfl ?_
          refine Y3 hO rfl rfl (fun w hO => ?_)
          refine o_done (da_end (by kernel_rfl) ?_)
          exact q_cut ((p31, c31, b7)) ⟨rfl, rfl, rfl, rfl, rfl, rfl, trivial⟩ ⟨hO.only [.b r, .p p, .f, .b b6, .b b4, .b b7, .p p31], trivial⟩
      · refine s_alloc (vs := [.int .i64 0, .int .i64 0, .string ⟨#[]⟩, .slice none 0 0, .string ⟨#[]⟩, .string ⟨#[]⟩, .int .i64 0, .int .i64 0, .int .i64 0, .int .i64 0, .int .i64 0, .int .i64 0]) hO rfl rfl rfl fun b7 w hO => ?_
        refine o_done (⟨SO.ks [.b b6] hO, ?_⟩)
        refine dx_only 6 (by kernel_rfl) rfl rfl ?_
        refine s_lit0 Api_attr.cells hO (fun b28 w hO => ?_)
        refine o_done (⟨SO.ks [.b b6] hO, ?_⟩)
        refine dx_only 9 (by kernel_rfl) rfl rfl ?_
        refine s_app0 hO rfl rfl (src_pool hO (by assumption)) (fun p31 c31 w hO gs31 => ?_)
        refine o_done (⟨SO.ks [.b b6] hO, ?_⟩)
        refine dx_only 18 (by kernel_rfl) rfl rfl ?_
        refine s_build (parts := [(0, .tmp 23), (1, .tmp 25), (2, .tmp 27), (3, .tmp 31), (4, .tmp 33), (5, .tmp 35), (6, .tmp 37), (7, .const (.int .i64 (-1))), (8, .const (.int .i64 (-1))), (9, .const (.int .i64 (-1))), (10, .const (.int .i64 (-1))), (11, .tmp 39)]) (cs := [.int .i64 (at_ R (id : Int).toNat).Kind, .int .i64 (at_ R (id : Int).toNat).Space, .string (at_ R (id : Int).toNat).Name, .slice p31 (at_ R id.toNat).Attrs.length c31, .string (at_ R (id : Int).toNat).Data, .string (at_ R (id : Int).toNat).System, .int .i64 (at_ R (id : Int).toNat).Up, .int .i64 (-1), .int .i64 (-1), .int .i64 (-1), .int .i64 (-1), .int .i64 (at_ R (id : Int).toNat).Inner]) rfl rfl (fun a ha => partsOf_sound ha _ _ rfl) (by kernel_rfl) (o_done (⟨SO.ks [.b b6] hO, ?_⟩))
        refine dx_close 20 (by kernel_rfl) rfl rfl ?_
        refine Y3 hO rfl rfl (fun w hO => ?_)
        refine o_done (da_end (by kernel_rfl) ?_)
        exact q_cut ((p31, c31, b7)) ⟨rfl, rfl, rfl, rfl, rfl, rfl, trivial⟩ ⟨hO.only [.b r, .p p, .f, .b b6, .b b4, .b b7, .p p31], trivial⟩
    · rintro z w ⟨hO, _⟩
      refine c_cut (X := Int × Int) (fun y => [(0, .pointer (some ⟨r, 0, none⟩)), (1, .int .i64 id), (4, .pointer (some ⟨b4, 0, none⟩)), (5, .int .i64 0), (6, .pointer (some ⟨b6, 0, none⟩)), (7, .pointer (some ⟨z.2.2, 0, none⟩))]) (fun y w => Own k w [rB r p R.length c, rS p c R, pool F, blk b6 127 (Ref01_one.cells (at_ R id.toNat)), blk b4 48 [.int .i64 0, .int .i64 0, .string ⟨#[]⟩, .slice none 0 0, .string ⟨#[]⟩, .string ⟨#[]⟩, .int .i64 0, .int .i64 0, .int .i64 0, .int .i64 0, .int .i64 0, .int .i64 0], blk z.2.2 48 [.int .i64 (at_ R id.toNat).Kind, .int .i64 (at_ R id.toNat).Space, .string (at_ R id.toNat).Name, .slice z.1 (at_ R id.toNat).Attrs.length z.2.1, .string (at_ R id.toNat).Data, .string (at_ R id.toNat).System, .int .i64 (at_ R id.toNat).Up, .int .i64 y.1, .int .i64 y.2, .int .i64 (-1), .int .i64 (-1), .int .i64 (at_ R id.toNat).Inner], sls z.1 z.2.1 115 4 Api_attr.cells (at_ R id.toNat).Attrs] ∧ (y.1 = (nodeA A id).First ∧ y.2 = (nodeA A id).Last)) ?_ ?_
      · refine K0 (K1 (l_y rfl rfl (y_fldb (o' := 9) rfl) (l_y rfl rfl (D5 hO rfl) ?_)))
        refine l_y rfl rfl (y_lenL rfl) ?_
        refine Z0 (fun h5_3 => ?_) (fun h5_3 => ?_)
        · refine K2 (K3 (L8 (K0 (K1 (l_y rfl rfl (y_fldb (o' := 9) rfl) (l_y rfl rfl (D5 hO rfl) ?_))))))
          refine l_y rfl rfl (y_idx rfl rfl) ?_
          refine l_y rfl rfl (y_p1 (x0 := 0) (enc := (eI .i64)) (xs := (at_ R id.toNat).Kids) hO rfl) ?_
          refine l_y rfl rfl (y_fldb (o' := 7) rfl) (Y1 hO rfl rfl (fun w hO => ?_))
          simp only [List.set_cons_zero, List.set_cons_succ] at hO
          refine K2 (K3 (K1 (l_y rfl rfl (y_fldb (o' := 9) rfl) (l_y rfl rfl (D5 hO rfl) ?_))))
          refine l_y rfl rfl (y_fldb (o' := 9) rfl) (l_y rfl rfl (D5 hO rfl) ?_)
          refine l_y rfl rfl (y_lenL rfl) (l_y rfl rfl (D4) ?_)
          refine l_y rfl rfl (y_idx rfl rfl) ?_
          refine l_y rfl rfl (y_p1 (x0 := 0) (enc := (eI .i64)) (xs := (at_ R id.toNat).Kids) hO rfl) ?_
          refine l_y rfl rfl (y_fldb (o' := 8) rfl) (Y1 hO rfl rfl (fun w hO => ?_))
          simp only [List.set_cons_zero, List.set_cons_succ] at hO
          refine K2 ?_
          exact q_cut ((_, _)) ⟨rfl, rfl, rfl, rfl, rfl, rfl, trivial⟩ ⟨hO.only [.b r, .p p, .f, .b b6, .b b4, .b z.2.2, .p z.1], (by first | exact ⟨(he.1 (by omega)).1.symm, (he.1 (by omega)).2.symm⟩ | exact ⟨(he.2 (by omega)).1.symm, (he.2 (by omega)).2.symm⟩)⟩
        · refine K2 (K3 (L9 (K5 ?_)))
          exact q_cut ((_, _)) ⟨rfl, rfl, rfl, rfl, rfl, rfl, trivial⟩ ⟨hO.only [.b r, .p p, .f, .b b6, .b b4, .b z.2.2, .p z.1], (by first | exact ⟨(he.1 (by omega)).1.symm, (he.1 (by omega)).2.symm⟩ | exact ⟨(he.2 (by omega)).1.symm, (he.2 (by omega)).2.symm⟩)⟩
      · rintro y w ⟨hO, hfl⟩
        refine c_cut (X := Int × Int) (fun x => [(0, .pointer (some ⟨r, 0, none⟩)), (1, .int .i64 id), (4, .pointer (some ⟨b4, 0, none⟩)), (5, .int .i64 0), (6, .pointer (some ⟨b6, 0, none⟩)), (7, .pointer (some ⟨z.2.2, 0, none⟩))]) (fun x w => Own k w [rB r p R.length c, rS p c R, pool F, blk b6 127 (Ref01_one.cells (at_ R id.toNat)), blk b4 48 [.int .i64 0, .int .i64 0, .string ⟨#[]⟩, .slice none 0 0, .string ⟨#[]⟩, .string ⟨#[]⟩, .int .i64 0, .int .i64 0, .int .i64 0, .int .i64 0, .int .i64 0, .int .i64 0], blk z.2.2 48 [.int .i64 (at_ R id.toNat).Kind, .int .i64 (at_ R id.toNat).Space, .string (at_ R id.toNat).Name, .slice z.1 (at_ R id.toNat).Attrs.length z.2.1, .string (at_ R id.toNat).Data, .string (at_ R id.toNat).System, .int .i64 (at_ R id.toNat).Up, .int .i64 y.1, .int .i64 y.2, .int .i64 x.1, .int .i64 x.2, .int .i64 (at_ R id.toNat).Inner], sls z.1 z.2.1 115 4 Api_attr.cells (at_ R id.toNat).Attrs] ∧ (x.1 = (nodeA A id).Prev ∧ x.2 = (nodeA A id).Next)) ?_ ?_
        · refine K0 (K1 (l_y rfl rfl (y_fldb (o' := 8) rfl) (l_y rfl rfl (D5 hO rfl) ?_)))
          refine Z1 (fun h8_2 => ?_) (fun h8_2 => ?_)
          · refine K2 (K3 (L8 (K0 ?_)))
            have hpar : (nodeA A id).Parent ≠ -1 := by rw [nodeA, ← s1.up]; exact h8_2
            obtain ⟨pre, suf, hk, hpv, hnx⟩ := t.nbr hiA hpar
            have hupA := (t.up id hiA hpar).1
            have hup1 := hupA.1
            have hup2 := hupA.2
            rw [nodeA, ← s1.up] at hup1 hup2 hk hupA
            have su := s.one _ hupA
            have hrow : (at_ R ((at_ R id.toNat).Up).toNat).Kids = pre ++ id :: suf := by rw [su.kids, hk]
            have hnd := t.nodup _ hupA
            rw [hk] at hnd
            have hni : id ∉ pre := fun hm => (List.nodup_append.1 hnd).2.2 id hm id (by simp) rfl
            have hkl2 := t.len hupA
            rw [← su.kids] at hkl2
            have hkids2 := (hF.atR (i := ((at_ R id.toNat).Up).toNat) (by omega)).kids
            have hgk2 := sli_gs hkids2
            have hpl : pre.length < (at_ R ((at_ R id.toNat).Up).toNat).Kids.length := by rw [hrow]; simp
            have hla := last_at hrow
            have hna := next_at hrow
            rw [← hpv] at hla
            rw [← hnx] at hna
            refine da_region (by intro c a d v w h; cases d <;> exact h) ?_
            have hO := hO.drew
            refine da_phase _ [] (SO.ks [.b r, .b b6, .p p] hO) ?_
            refine dx_u 0 (by kernel_rfl) rfl rfl rfl (fun w => y_move rfl) ?_
            refine dx_u 1 (by kernel_rfl) rfl rfl rfl (fun w => y_nilCheck rfl rfl) ?_
            refine dx_u 2 (by kernel_rfl) rfl rfl rfl (fun w => y_fldb (o' := 0) rfl) ?_
            refine dx_y 3 (by kernel_rfl) rfl rfl rfl (fun w ⟨m, hw⟩ => D5 hw rfl) ?_
            refine dx_u 4 (by kernel_rfl) rfl rfl rfl (fun w => y_fldb (o' := 8) rfl) ?_
            refine dx_y 5 (by kernel_rfl) rfl rfl rfl (fun w ⟨m, hw⟩ => D5 hw rfl) ?_
            refine dx_u 6 (by kernel_rfl) rfl rfl rfl (fun w => y_idx rfl rfl) ?_
            refine dx_u 7 (by kernel_rfl) rfl rfl rfl (fun w => y_fld (j' := 9) rfl) ?_
            refine dx_y 8 (by kernel_rfl) rfl rfl rfl (fun w ⟨m, hw⟩ => y_e1 (x0 := 9) hw rfl) ?_
            refine dx_u 9 (by kernel_rfl) rfl rfl rfl (fun w => y_assign rfl) ?_
            refine dx_end (by kernel_rfl) ?_
            refine K3 (K0 (K1 (V1 rfl rfl rfl (V1 rfl rfl rfl (CK [.b r, .p p, .f] hO rfl (fun k' hx hr hO' => rplace_spec hg hF (by omega) (by omega) rfl (by omega) (by omega) hrow hni (by omega) (hO := hO')) ?_)))))
            rintro _ _ w ⟨rfl, rfl⟩ hO
            simp only [List.cons_append, List.nil_append] at hO
            refine V2 rfl rfl rfl (K2 (K3 ?_))
            refine c_cut (X := Int) (fun pv => [(0, .pointer (some ⟨r, 0, none⟩)), (1, .int .i64 id), (4, .pointer (some ⟨b4, 0, none⟩)), (5, .int .i64 0), (6, .pointer (some ⟨b6, 0, none⟩)), (7, .pointer (some ⟨z.2.2, 0, none⟩)), (8, .slice (at_ R ((at_ R id.toNat).Up).toNat).KidsP (at_ R ((at_ R id.toNat).Up).toNat).Kids.length (at_ R ((at_ R id.toNat).Up).toNat).KidsC), (9, .int .i64 (pre.length : Int))]) (fun pv w => Own k w [rB r p R.length c, rS p c R, pool F, blk b6 127 (Ref01_one.cells (at_ R id.toNat)), blk b4 48 [.int .i64 0, .int .i64 0, .string ⟨#[]⟩, .slice none 0 0, .string ⟨#[]⟩, .string ⟨#[]⟩, .int .i64 0, .int .i64 0, .int .i64 0, .int .i64 0, .int .i64 0, .int .i64 0], blk z.2.2 48 [.int .i64 (at_ R id.toNat).Kind, .int .i64 (at_ R id.toNat).Space, .string (at_ R id.toNat).Name, .slice z.1 (at_ R id.toNat).Attrs.length z.2.1, .string (at_ R id.toNat).Data, .string (at_ R id.toNat).System, .int .i64 (at_ R id.toNat).Up, .int .i64 y.1, .int .i64 y.2, .int .i64 pv, .int .i64 (-1), .int .i64 (at_ R id.toNat).Inner], sls z.1 z.2.1 115 4 Api_attr.cells (at_ R id.toNat).Attrs] ∧ (pv = (nodeA A id).Prev)) ?_ ?_
            · refine K0 (K1 (V1 rfl rfl rfl ?_))
              refine Z0 (fun h11_1 => ?_) (fun h11_1 => ?_)
              · refine K2 (K3 (L8 (K1 (V1 rfl rfl rfl (V1 rfl rfl rfl (l_y rfl rfl (D4) ?_))))))
                refine l_y rfl rfl (y_idx rfl rfl) ?_
                refine l_y rfl rfl (y_p1 (x0 := 0) (enc := (eI .i64)) (xs := (at_ R ((at_ R id.toNat).Up).toNat).Kids) hO rfl) ?_
                refine l_y rfl rfl (y_fldb (o' := 9) rfl) (Y1 hO rfl rfl (fun w hO => ?_))
                simp only [List.set_cons_zero, List.set_cons_succ] at hO
                refine K2 ?_
                exact q_cut (_) ⟨rfl, rfl, rfl, rfl, rfl, rfl, rfl, rfl, trivial⟩ ⟨hO.only [.b r, .p p, .f, .b b6, .b b4, .b z.2.2, .p z.1], (by first | exact (hla.1 (by omega)).symm | exact (hla.2 (by omega)).symm)⟩
              · refine K2 (K3 (L9 (K5 ?_)))
                exact q_cut (_) ⟨rfl, rfl, rfl, rfl, rfl, rfl, rfl, rfl, trivial⟩ ⟨hO.only [.b r, .p p, .f, .b b6, .b b4, .b z.2.2, .p z.1], (by first | exact (hla.1 (by omega)).symm | exact (hla.2 (by omega)).symm)⟩
            · rintro pv w ⟨hO, hpv9⟩
              refine K0 (K1 (V1 rfl rfl rfl (l_y rfl rfl (D4) ?_)))
              refine V1 rfl rfl rfl (l_y rfl rfl (y_lenL rfl) ?_)
              refine Z0 (fun h13_4 => ?_) (fun h13_4 => ?_)
              · refine K2 (K3 (L8 (K1 (V1 rfl rfl rfl (V1 rfl rfl rfl (l_y rfl rfl (D4) ?_))))))
                refine l_y rfl rfl (y_idx rfl rfl) ?_
                refine l_y rfl rfl (y_p1 (x0 := 0) (enc := (eI .i64)) (xs := (at_ R ((at_ R id.toNat).Up).toNat).Kids) hO rfl) ?_
                refine l_y rfl rfl (y_fldb (o' := 10) rfl) (Y1 hO rfl rfl (fun w hO => ?_))
                simp only [List.set_cons_zero, List.set_cons_succ] at hO
                refine K2 ?_
                exact q_cut ((_, _)) ⟨rfl, rfl, rfl, rfl, rfl, rfl, trivial⟩ ⟨hO.only [.b r, .p p, .f, .b b6, .b b4, .b z.2.2, .p z.1], (by first | exact ⟨hpv9, (hna.1 (by omega)).symm⟩ | exact ⟨hpv9, (hna.2 (by omega)).symm⟩ | exact ⟨(t.free id hiA (by rw [nodeA, ← s1.up]; omega)).1.symm, (t.free id hiA (by rw [nodeA, ← s1.up]; omega)).2.symm⟩)⟩
              · refine K2 (K3 (L9 (K5 ?_)))
                exact q_cut ((_, _)) ⟨rfl, rfl, rfl, rfl, rfl, rfl, trivial⟩ ⟨hO.only [.b r, .p p, .f, .b b6, .b b4, .b z.2.2, .p z.1], (by first | exact ⟨hpv9, (hna.1 (by omega)).symm⟩ | exact ⟨hpv9, (hna.2 (by omega)).symm⟩ | exact ⟨(t.free id hiA (by rw [nodeA, ← s1.up]; omega)).1.symm, (t.free id hiA (by rw [nodeA, ← s1.up]; omega)).2.symm⟩)⟩
          · refine K2 (K3 (L9 (K5 ?_)))
            exact q_cut ((_, _)) ⟨rfl, rfl, rfl, rfl, rfl, rfl, trivial⟩ ⟨hO.only [.b r, .p p, .f, .b b6, .b b4, .b z.2.2, .p z.1], (by first | exact ⟨hpv9, (hna.1 (by omega)).symm⟩ | exact ⟨hpv9, (hna.2 (by omega)).symm⟩ | exact ⟨(t.free id hiA (by rw [nodeA, ← s1.up]; omega)).1.symm, (t.free id hiA (by rw [nodeA, ← s1.up]; omega)).2.symm⟩)⟩
        · rintro x w ⟨hO, hpn⟩
          refine K0 (K1 (l_y rfl rfl (D8 (cs := [.int .i64 (at_ R id.toNat).Kind, .int .i64 (at_ R id.toNat).Space, .string (at_ R id.toNat).Name, .slice z.1 (at_ R id.toNat).Attrs.length z.2.1, .string (at_ R id.toNat).Data, .string (at_ R id.toNat).System, .int .i64 (at_ R id.toNat).Up, .int .i64 y.1, .int .i64 y.2, .int .i64 x.1, .int .i64 x.2, .int .i64 (at_ R id.toNat).Inner]) hO rfl) ?_))
          refine Y3 hO rfl rfl (fun w hO => ?_)
          refine V2 rfl rfl rfl (K2 (K3 (K6 ?_)))
          exact finC1 hO rfl rfl rfl ⟨_, .inr ⟨hc13, z.1, z.2.1, congrArg (fun l => Value.tuple #[.agg (List.toArray l), .int .i64 0]) (cells_eq s1 hfl.1 hfl.2 hpn.1 hpn.2), rfl⟩, by rw [← s1.attrs]; exact ((rarL_shut hF (hO.ks [.b r, .p p, .f])).ks [.o r, .p z.1]).two⟩
end Go.Proofs.YtoohapbaelmkcaaGreat
end
section
set_option maxRecDepth 100000
namespace Go.Proofs.YtoohapbaelmkcaaGreat
open Go Go.Hb Go.RowKit
theorem RunD.next {nm : ByteArray} {fo ot : Bool} {n : Nat} {x y : Rs} (g : RunD nm fo (n + 1) x ot y) : ∃ dn o' u, RndR nm fo x dn o' u ∧ (dn = true → o' = ot ∧ u = y) ∧ (dn = false → RunD nm fo n u ot y) := by
 cases g with
 | done _ _ _ _ h => exact ⟨true, ot, y, h, (fun _ => ⟨rfl, rfl⟩), (fun e => nomatch e)⟩
 | more _ _ u o _ _ h g => exact ⟨false, o, u, h, (fun e => nomatch e), (fun _ => g)⟩
theorem RunD.last {nm : ByteArray} {fo ot : Bool} {x y : Rs} (g : RunD nm fo 0 x ot y) : ot = false ∧ y = x := by
 cases g with
 | out _ => exact ⟨rfl, rfl⟩
structure Rx where
 i : Nat
 s : Rs
 K : Int → List Int
 R : List Ref01_one
theorem RsI.errs {n0 ln : Nat} {x : Rs} (h : RsI n0 ln x) (e : Int) : RsI n0 ln ⟨x.A, x.st, x.L, e⟩ := ⟨h.ai, h.si, h.li, h.len, h.ll⟩
theorem short_iff {A : List Node_one} {st : List Int} {L : List Api_entry} {nm : ByteArray} (hel : AllEl A st) : Short ⟨A, st, L, 0⟩ nm ↔ (elB A (topI st) && namA A [nm] (topI st)) = true ∧ findE L (topI st) < 0 := by
  have hn : namA A [nm] (topI st) = (decide ((nd A (topI st)).Space = 0) && decide ((nd A (topI st)).Name = nm)) := by simp [namA, namB, inB, nd]; rfl
  have he : hasB A (topI st) = true → elB A (topI st) = true := fun h => by
    rcases Nat.eq_zero_or_pos st.length with h0 | h0
    · have : topI st = -1 := by rw [topI, atI, if_pos (by omega)]
      rw [this] at h; simp [hasB] at h
    · rw [topI_at h0]; exact hel _ (at_mem (by omega))
  rw [hn]
  constructor
  · rintro ⟨h1, h2, h3, h4⟩
    dsimp only at h1 h2 h3 h4
    exact ⟨by rw [he h1, decide_eq_true h2, decide_eq_true h3]; rfl, h4⟩
  · rintro ⟨h1, h2⟩
    rw [Bool.and_eq_true, Bool.and_eq_true] at h1
    exact ⟨elB_has h1.1, of_decide_eq_true h1.2.1, of_decide_eq_true h1.2.2, h2⟩
section
variable {k : Ctx} {w : World} {b a s l r z yl : Nat} {fo : Bool} {nm : ByteArray} {A : List Node_one} {K : Int → List Int} {R : List Ref01_one} {st : List Int} {L : List Api_entry}
theorem rNodeD_spec {id : Int} (t : Two A K R) (hO : Own k w [rarL r R]) : Tri Tryz.prog 44 #[.pointer (some ⟨r, 0, none⟩), .int .i64 id] k w fun v m => ∃ n, (hasB A id = true → ∃ q d, n = ownN (at_ A id.toNat).Node q d) ∧ v = .tuple #[.agg (Api_node.cells n).toArray, .int .i64 (errN A id)] ∧ m = [rarL r R] := by
 refine Ret.mono (rNode_spec t.tree t.sim t.max hO) ?_
 rintro v w' ⟨m, ⟨h0, rfl, rfl⟩ | ⟨h0, q, d, rfl, rfl⟩, hO⟩
 ·exact ⟨_, ⟨default, (fun h => by rw [h0] at h; cases h), by rw [errN, h0]; rfl, rfl⟩, hO⟩
 ·exact ⟨_, ⟨_, (fun _ => ⟨q, d, rfl⟩), by rw [errN, h0]; rfl, rfl⟩, hO.swap.drop⟩
theorem tNamedC_spec {id : Int} {name : ByteArray} (sm : Sim A K R) (hO : Own k w [rarL r R, rstkL z r st]) : Tri Tryz.prog 39 #[.pointer (some ⟨z, 0, none⟩), .int .i64 id, .string name] k w fun v m => v = .bool (elB A id && namA A [name] id) ∧ m = [rarL r R, rstkL z r st] := by
 obtain ⟨p, c, F, hg, hF, hO⟩ := rarL_open hO
 obtain ⟨q, d, hq, hld, hO⟩ := rstkL_open (hO.ks [.o z])
 refine Ret.mono (Ret.framed (hO.ks [.b r, .p p, .b z]) (.cons (.hd _ _) (.cons (.hd _ _) (.cons (.hd _ _) (.nil _)))) fun k' _ _ hO' => tNamed_spec sm hg hO') ?_
 rintro v w' ⟨m, ⟨hv, rfl⟩, hO⟩
 exact ⟨_, ⟨hv, rfl⟩, ((rarL_shut hF ((rstkL_shut (hO.ks [.b z, .p q])).ks [.b r, .p p, .f])).ks [.o r, .o z]).two⟩
set_option maxHeartbeats 4000000 in
theorem rRun_spec {n0 ln : Nat} {o : Bool} {y : Rs} (h : RsI n0 ln ⟨A, st, L, 0⟩) (hn0 : n0 + 64 ≤ 32768) (hln : ln ≤ 2000000) (t : Two A K R) (g : RunR nm fo ⟨A, st, L, 0⟩ o y) (hO : Own k w [rarL r R, rstkL z r st, ralL yl r L]) :
    Tri Tryz.prog 9 #[.pointer (some ⟨r, 0, none⟩), .pointer (some ⟨z, 0, none⟩), .pointer (some ⟨yl, 0, none⟩), .string nm, .bool fo] k w fun v m => v = .tuple #[.bool o, .int .i64 y.errs, .int .i64 0] ∧ ∃ K' R', Two y.A K' R' ∧ m = [rarL r R', rstkL z r y.st, ralL yl r y.L] := by
  refine enter (args := [.pointer (some ⟨r, 0, none⟩), .pointer (some ⟨z, 0, none⟩), .pointer (some ⟨yl, 0, none⟩), .string nm, .bool fo]) Tryz.func9 rfl rfl ?_
  have hA : A.length ≤ n0 := h.len
  have hRl := t.sim.len
  have hel : AllEl A st := h.si.el
  have hl : st.length ≤ 1000000 := Nat.le_trans h.si.len (Nat.le_trans h.len (by omega))
  have hL : L.length ≤ 2000000 := Nat.le_trans h.ll hln
  have hD : DistN L := (h.li.pl k).dist
  have hsi := short_iff (L := L) (nm := nm) hel
  obtain ⟨nb, hnb⟩ : ∃ nb, nb = (elB A (topI st) && namA A [nm] (topI st)) := ⟨_, rfl⟩
  rw [← hnb] at hsi
  obtain ⟨p, c, F, hg, hF, hO⟩ := rarL_open hO
  refine K0 (K1 (V2 rfl rfl rfl (V2 rfl rfl rfl (V2 rfl rfl rfl (K2 (K3 (K0 (K0 (K1 (V1 rfl rfl rfl (V3 rfl rfl rfl rfl (l_y rfl rfl (y_fldb (o' := 0) rfl) (l_y rfl rfl (D5 hO rfl) ?_)))))))))))))
  refine l_y rfl rfl (y_lenL rfl) (N3 (hp := (by omega)) (K2 (K3 (L9 (K5 (K3 ?_))))))
  refine c_cut (X := Unit) (fun u => [(0, .pointer (some ⟨r, 0, none⟩)), (1, .pointer (some ⟨z, 0, none⟩)), (2, .pointer (some ⟨yl, 0, none⟩)), (3, .string nm), (4, .bool fo), (10, .bool false), (11, .int .i64 0), (12, .int .i64 0)]) (fun u w => Own k w [rarL r R, rstkL z r st, ralL yl r L] ∧ (RunD nm fo 8 ⟨A, st, L, 0⟩ o y)) ?_ ?_
  · refine K0 ?_
    have hO := rarL_shut hF (hO.ks [.b r, .p p, .f])
    refine K1 (V1 rfl rfl rfl (V1 rfl rfl rfl (CK [.o z] hO rfl (fun k' hx hr hO' => tTop_spec hl (hO := hO')) ?_)))
    rintro _ _ w ⟨rfl, rfl⟩ hO
    simp only [List.cons_append, List.nil_append] at hO
    refine V1 rfl rfl rfl (CK [.o r, .o z] hO rfl (fun k' hx hr hO' => tNamedC_spec (id := topI st) (name := nm) t.sim (hO := hO')) ?_)
    rintro _ _ w ⟨rfl, rfl⟩ hO
    simp only [List.cons_append, List.nil_append] at hO
    rw [← hnb]
    refine V1 rfl rfl rfl ?_
    refine l_split 28 rfl (fun hg28 => ?_) (fun hg28 => ?_)
    · refine V1 rfl rfl rfl (V1 rfl rfl rfl (CK [.o z] hO rfl (fun k' hx hr hO' => tTop_spec hl (hO := hO')) ?_))
      rintro _ _ w ⟨rfl, rfl⟩ hO
      simp only [List.cons_append, List.nil_append] at hO
      refine CK [.o yl] hO rfl (fun k' hx hr hO' => zFind_spec (x := topI st) hD hL (hO := hO')) ?_
      rintro _ _ w ⟨rfl, rfl⟩ hO
      simp only [List.cons_append, List.nil_append] at hO
      refine Z0 (fun h3_10 => ?_) (fun h3_10 => ?_)
      · refine l_y rfl rfl (y_pick_t rfl rfl) (K2 (K3 (L8 (K0 (K1 (V1 rfl rfl rfl (CK [.o z] hO rfl (fun k' hx hr hO' => tPop_spec hl (hO := hO')) ?_)))))))
        rintro _ _ w ⟨rfl, rfl⟩ hO
        simp only [List.cons_append, List.nil_append] at hO
        refine K2 (K3 (K0 (K1 (V2 rfl rfl rfl (V2 rfl rfl rfl (V2 rfl rfl rfl (K2 (K3 (K6 (K9 ?_))))))))))
        obtain ⟨_, rfl, rfl⟩ := g.resolve_right (fun h9 => h9.1 (hsi.2 ⟨by simpa using hg28, by omega⟩))
        exact fin3 rfl rfl rfl rfl ⟨_, ⟨rfl, K, R, t, rfl⟩, hO.only [.o r, .o z, .o yl]⟩
      · refine l_y rfl rfl (y_pick_t rfl rfl) (K2 (K3 (L9 (K5 ?_))))
        have hgD9 : RunD nm fo 8 ⟨A, st, L, 0⟩ o y := by
          refine (g.resolve_left (fun h9 => ?_)).2
          have h8 := hsi.1 h9.1
          first
          | (rw [h8.1] at hg28; simp at hg28; done)
          | omega
        exact q_cut (()) ⟨rfl, rfl, rfl, rfl, rfl, rfl, rfl, rfl, trivial⟩ ⟨hO.only [.o r, .o z, .o yl], hgD9⟩
    · repeat refine M2 ?_
      refine l_y rfl rfl (y_pick_f rfl rfl) (K2 (K3 (L9 (K5 ?_))))
      have hgD9 : RunD nm fo 8 ⟨A, st, L, 0⟩ o y := by
        refine (g.resolve_left (fun h9 => ?_)).2
        have h8 := hsi.1 h9.1
        first
        | (rw [h8.1] at hg28; simp at hg28; done)
        | omega
      exact q_cut (()) ⟨rfl, rfl, rfl, rfl, rfl, rfl, rfl, rfl, trivial⟩ ⟨hO.only [.o r, .o z, .o yl], hgD9⟩
  · rintro u w ⟨hO, hgD⟩
    refine K0 (K1 (V1 rfl rfl rfl (V1 rfl rfl rfl (V1 rfl rfl rfl (V1 rfl rfl rfl (s_build (parts := [(0, .tmp 37), (1, .tmp 38), (2, .tmp 39), (3, .tmp 40)]) (cs := [.pointer (some ⟨r, 0, none⟩), .pointer (some ⟨z, 0, none⟩), .pointer (some ⟨yl, 0, none⟩), .bool fo, .int .i64 0]) rfl rfl (fun a ha => partsOf_sound ha _ _ rfl) (by kernel_rfl) (s_box (vs := [.pointer (some ⟨r, 0, none⟩), .pointer (some ⟨z, 0, none⟩), .pointer (some ⟨yl, 0, none⟩), .bool fo, .int .i64 0]) hO rfl rfl rfl (by rfl) fun b42 w hO => ?_)))))))
    refine V2 rfl rfl rfl (K2 (K3 (K0 (K0 (K1 (V2 rfl rfl rfl (K2 (K3 (K4 (c_rounds (X := Rx) (fun x => [(3, .string nm), (10, .bool false), (11, .int .i64 0), (12, .int .i64 0), (13, .pointer (some ⟨b42, 0, none⟩)), (14, .int .i64 (x.i : Int))]) (fun x w => Own k w [rarL r x.R, rstkL z r x.s.st, ralL yl r x.s.L, ragB b42 r z yl fo x.s.errs] ∧ (x.i ≤ 8) ∧ (RsI (n0 + 8 * x.i) ln x.s) ∧ (Two x.s.A x.K x.R) ∧ (RunD nm fo (8 - x.i) x.s o y) ∧ (0 ≤ x.s.errs ∧ x.s.errs ≤ x.i)) (fun x => 8 - x.i) (⟨0, ⟨A, st, L, 0⟩, K, R⟩) ⟨rfl, rfl, rfl, rfl, rfl, rfl, trivial⟩ ⟨hO.only [.o r, .o z, .o yl, .b b42], Nat.zero_le _, h, t, hgD, ⟨Int.le_refl _, Int.le_refl _⟩⟩ ?_))))))))))
    rintro x w m hm ⟨hO, hi, hR, tx, hx, he⟩
    refine K0 (K0 (K1 (V1 rfl rfl rfl ?_)))
    refine Z0 (fun h8_1 => ?_) (fun h8_1 => ?_)
    · refine K2 (K3 (L8 (K5 (K3 (K0 (K4 (K0 ?_)))))))
      obtain ⟨dn, o9, u9, hr9, hn1, hn2⟩ := RunD.next (n := 7 - x.i) (by rw [show 7 - x.i + 1 = 8 - x.i by omega]; exact hx)
      have hk9 := hr9.keep k hR (by omega)
      refine K1 (V1 rfl rfl rfl (V1 rfl rfl rfl (CK [.b b42, .o r, .o z, .o yl] hO rfl (fun k' hx hr hO' => rround_spec hR (by omega) hln ⟨by omega, by omega⟩ tx hr9 (hO := hO')) ?_)))
      rintro _ _ w ⟨rfl, K9', R9', t9, rfl⟩ hO
      simp only [List.cons_append, List.nil_append] at hO
      refine V1 rfl rfl rfl (l_y rfl rfl (y_extract rfl rfl) (l_y rfl rfl (y_extract rfl rfl) (V2 rfl rfl rfl (V2 rfl rfl rfl (K2 (K3 (K0 (K1 (V1 rfl rfl rfl (K2 (K3 ?_)))))))))))
      refine c_split rfl (fun hc53 => ?_) (fun hc53 => ?_)
      · refine K0 (da_region (by intro c a d v w h; cases d <;> exact h) ?_)
        have hO := hO.drew
        refine da_phase _ [] (SO.ks [.b b42] hO) ?_
        refine dx_u 0 (by kernel_rfl) rfl rfl rfl (fun w => y_move rfl) ?_
        refine dx_u 1 (by kernel_rfl) rfl rfl rfl (fun w => y_move rfl) ?_
        refine dx_u 2 (by kernel_rfl) rfl rfl rfl (fun w => y_nilCheck rfl rfl) ?_
        refine dx_u 3 (by kernel_rfl) rfl rfl rfl (fun w => y_fldb (o' := 4) rfl) ?_
        refine dx_y 4 (by kernel_rfl) rfl rfl rfl (fun w ⟨m, hw⟩ => D5 hw rfl) ?_
        refine dx_u 5 (by kernel_rfl) rfl rfl rfl (fun w => y_assign rfl) ?_
        refine dx_u 6 (by kernel_rfl) rfl rfl rfl (fun w => y_assign rfl) ?_
        refine dx_u 7 (by kernel_rfl) rfl rfl rfl (fun w => y_assign rfl) ?_
        refine dx_end (by kernel_rfl) ?_
        refine K3 (K6 (L0 (K9 (K9 (L0 (K9 ?_))))))
        have hdn : dn = true := by simpa using hc53
        obtain ⟨rfl, rfl⟩ := hn1 hdn
        exact fin3 rfl rfl rfl rfl ⟨_, ⟨rfl, K9', R9', t9, rfl⟩, hO.only [.o r, .o z, .o yl]⟩
      · refine K5 (K8 (K3 (K1 (V1 rfl rfl rfl (l_y rfl rfl (D4) ?_)))))
        refine V2 rfl rfl rfl (K2 ?_)
        have hdn : dn = false := by simpa using hc53
        exact q_next ((⟨x.i + 1, u9, K9', R9'⟩ : Rx)) ⟨rfl, rfl, rfl, rfl, rfl, rfl, trivial⟩ ⟨hO.only [.o r, .o z, .o yl, .b b42], (by dsimp only; omega), hk9.1, t9, (by have h9 := hn2 hdn; rw [show 7 - x.i = 8 - (x.i + 1) by omega] at h9; exact h9), ⟨by have := hk9.2; dsimp only; omega, by have := hk9.2; dsimp only; omega⟩⟩ (by dsimp only; omega)
    · refine K2 (K3 (L9 (K7 (L1 (L1 (L2 (K3 (K0 (da_region (by intro c a d v w h; cases d <;> exact h) ?_)))))))))
      have hO := hO.drew
      refine da_phase _ [] (SO.ks [.b b42] hO) ?_
      refine dx_u 0 (by kernel_rfl) rfl rfl rfl (fun w => y_move rfl) ?_
      refine dx_u 1 (by kernel_rfl) rfl rfl rfl (fun w => y_nilCheck rfl rfl) ?_
      refine dx_u 2 (by kernel_rfl) rfl rfl rfl (fun w => y_fldb (o' := 4) rfl) ?_
      refine dx_y 3 (by kernel_rfl) rfl rfl rfl (fun w ⟨m, hw⟩ => D5 hw rfl) ?_
      refine dx_u 4 (by kernel_rfl) rfl rfl rfl (fun w => y_assign rfl) ?_
      refine dx_u 5 (by kernel_rfl) rfl rfl rfl (fun w => y_assign rfl) ?_
      refine dx_u 6 (by kernel_rfl) rfl rfl rfl (fun w => y_assign rfl) ?_
      refine dx_end (by kernel_rfl) ?_
      refine K3 (K6 ?_)
      have h8 : x.i = 8 := by omega
      obtain ⟨rfl, rfl⟩ := RunD.last (by rw [h8] at hx; exact hx)
      exact fin3 rfl rfl rfl rfl ⟨_, ⟨rfl, x.K, x.R, tx, rfl⟩, hO.only [.o r, .o z, .o yl]⟩
end
end Go.Proofs.YtoohapbaelmkcaaGreat
end
section
set_option maxRecDepth 100000
namespace Go.Proofs.YtoohapbaelmkcaaGreat
open Go Go.Hb Go.RowKit
/-- two results that lie in memory -/
theorem fincc {P : Program} {n : Nat} {E : Env} {w : World} {fn : Func} {T : Value → World → Prop} {t u : Nat} {ty tz : TypeId} {m q : Nat} [hl : Lay P ty true m] [hl2 : Lay P tz true q] {a b : Addr} {cs es : List Value} (hrs : fn.results = #[.cell t ty, .cell u tz]) (hv : Hb.look E t = some (.pointer (some a))) (hx : Hb.look E u = some (.pointer (some b))) (hm : cs.length = m) (hn : es.length = q) (hh : Holds w a cs) (hk : Holds w b es) (hT : T (.tuple #[.agg cs.toArray, .agg es.toArray]) w) :
    QW (bodyPost P fn fun e w' => ∃ v, e = .returned v ∧ T v w') n [] .ret E w := fun c hc =>
  ⟨hc.defers, _, by
    subst hm hn
    have h0 := hc.at_ t _ hv
    have h2 := hc.at_ u _ hx
    simp only [Array.getD_eq_getD_getElem?] at h0 h2
    have h1 := run_loadCells_list (P := P) w a cs hh
    have h3 := run_loadCells_list (P := P) w b es hk
    simp [results, hrs, h0, h2, asAddr, loadVar, hl.isAgg, hl.size, hl2.isAgg, hl2.size, h1, h3], _, rfl, hT⟩
section
variable {k : Ctx} {w : World}
section
variable {nm : ByteArray} {fo : Bool} {p q : Option Addr}
end
end
end Go.Proofs.YtoohapbaelmkcaaGreat
end
section
set_option maxRecDepth 100000
namespace Go.Proofs.YtoohapbaelmkcaaGreat
open Go Go.Hb Go.RowKit
structure W15 where
 i : Nat
 A : List Node_one
 K : Int → List Int
 R : List Ref01_one
 st : List Int
 L : List Api_entry
abbrev wld (b a s l : Nat) : HP := blk b 26 [.pointer (some ⟨a, 0, none⟩), .pointer (some ⟨s, 0, none⟩), .pointer (some ⟨l, 0, none⟩)]
abbrev mir (b r z y : Nat) : HP := blk b 31 [.pointer (some ⟨r, 0, none⟩), .pointer (some ⟨z, 0, none⟩), .pointer (some ⟨y, 0, none⟩)]
theorem BldD.add' {xs : List Law15_act} {A B : List Node_one} {st s9 : List Int} {L L8 : List Api_entry} {e : Law15_act} {q : Option Addr} {d : Nat} {EL : Int × Int × List Node_one} (g : BldD xs A st L) (hE : EL = elementL A 0 e.Text [] q d) (h : EL.2.1 = 0) (hB : B = (linkL EL.2.2 e.Up EL.1 (-1)).2) (hs : s9 = bldS EL.1 e B st) (hL : L8 = bldL EL.1 e B (bldM e L)) : BldD (xs ++ [e]) B s9 L8 := by
 rw [hE] at h hB hs hL
 rw [hs, hL]
 exact .add _ _ _ _ _ _ _ g h _ hB
theorem BldD.err' {xs : List Law15_act} {A : List Node_one} {st : List Int} {L : List Api_entry} {e : Law15_act} {q : Option Addr} {d : Nat} {EL : Int × Int × List Node_one} (g : BldD xs A st L) (hE : EL = elementL A 0 e.Text [] q d) (h : ¬ EL.2.1 = 0) : BldD (xs ++ [e]) EL.2.2 st L := by
 rw [hE] at h ⊢
 exact .err _ _ _ _ _ _ _ g h
section
variable {k : Ctx} {w : World}
set_option maxHeartbeats 4000000 in
theorem build_spec {lp : Option Addr} {lc : Nat} {acts : List Law15_act} (hs : Sli (Ro k) (.slice lp acts.length lc) (acts.map Law15_act.cells)) (hO : Own k w []) :
  Tri Tryz.prog 7 #[.slice lp acts.length lc] k w fun v m => ∃ a s l r z y A K R st L, v = .tuple #[.agg [.pointer (some ⟨a, 0, none⟩), .pointer (some ⟨s, 0, none⟩), .pointer (some ⟨l, 0, none⟩)].toArray, .agg [.pointer (some ⟨r, 0, none⟩), .pointer (some ⟨z, 0, none⟩), .pointer (some ⟨y, 0, none⟩)].toArray] ∧ m = [arenaL a A, stkL s a st, actL l a L, rarL r R, rstkL z r st, ralL y r L] ∧ Two A K R ∧ BldD (acts.take 100) A st L := by
 refine enter (args := [.slice lp acts.length lc]) Tryz.func7 rfl rfl ?_
 have hgs := sli_gs hs
 refine K0 (K1 (s_alloc (vs := [.pointer none, .pointer none, .pointer none]) hO rfl rfl rfl fun b2 w hO => ?_))
 refine s_alloc (vs := [.pointer none, .pointer none, .pointer none]) hO rfl rfl rfl fun b3 w hO => ?_
 refine K2 (K3 (K0 (K1 (CK [] hO rfl (fun k' hx hr hO' => New_spec (hO := hO')) ?_))))
 rintro _ _ w ⟨a11, rfl, rfl⟩ hO
 simp only [List.cons_append, List.nil_append] at hO
 refine s_build (parts := [(0, .tmp 11)]) (cs := [.pointer (some ⟨a11, 0, none⟩), .pointer none, .pointer none]) rfl rfl (fun a ha => partsOf_sound ha _ _ rfl) (by kernel_rfl) (s_alloc (vs := [.pointer none, .pointer none, .pointer none]) hO rfl rfl rfl fun b4 w hO => ?_)
 refine Y3 hO rfl rfl (fun w hO => ?_)
 refine K2 (K3 (K0 (K1 (l_y rfl rfl (y_fldb (o' := 0) rfl) (l_y rfl rfl (D5 hO rfl) ?_)))))
 refine CK [.o a11] hO rfl (fun k' hx hr hO' => sNew_spec (A := [docD]) (by decide) (hO := hO')) ?_
 rintro _ _ w ⟨s, rfl, rfl⟩ hO
 simp only [List.cons_append, List.nil_append] at hO
 refine V1 rfl rfl rfl (l_y rfl rfl (y_extract rfl rfl) (l_y rfl rfl (y_extract rfl rfl) (l_y rfl rfl (y_fldb (o' := 1) rfl) (Y1 hO rfl rfl (fun w hO => ?_)))))
 simp only [List.set_cons_zero, List.set_cons_succ] at hO
 refine K2 (K3 (K0 (K1 (l_y rfl rfl (y_fldb (o' := 0) rfl) (l_y rfl rfl (D5 hO rfl) ?_)))))
 refine CK [.o a11] hO rfl (fun k' hx hr hO' => aNew_spec (A := [docD]) (by decide) (hO := hO')) ?_
 rintro _ _ w ⟨l, rfl, rfl⟩ hO
 simp only [List.cons_append, List.nil_append] at hO
 refine V1 rfl rfl rfl (l_y rfl rfl (y_extract rfl rfl) (l_y rfl rfl (y_extract rfl rfl) (l_y rfl rfl (y_fldb (o' := 2) rfl) (Y1 hO rfl rfl (fun w hO => ?_)))))
 simp only [List.set_cons_zero, List.set_cons_succ] at hO
 refine K2 (K3 (K0 (K1 (CK [] hO rfl (fun k' hx hr hO' => rNew_spec (hO := hO')) ?_))))
 rintro _ _ w ⟨r27, rfl, rfl⟩ hO
 simp only [List.cons_append, List.nil_append] at hO
 refine V2 rfl rfl rfl (K2 (K3 (K0 (K1 (V1 rfl rfl rfl (V1 rfl rfl rfl (CK [.o r27] hO rfl (fun k' hx hr hO' => tNew_spec (hO := hO')) ?_)))))))
 rintro _ _ w ⟨z30, rfl, rfl⟩ hO
 simp only [List.cons_append, List.nil_append] at hO
 refine V1 rfl rfl rfl (CK [] hO rfl (fun k' hx hr hO' => zNew_spec (p := none) (hO := hO')) ?_)
 rintro _ _ w ⟨y32, rfl, rfl⟩ hO
 simp only [List.cons_append, List.nil_append] at hO
 refine s_build (parts := [(0, .tmp 28), (1, .tmp 30), (2, .tmp 32)]) (cs := [.pointer (some ⟨r27, 0, none⟩), .pointer (some ⟨z30, 0, none⟩), .pointer (some ⟨y32, 0, none⟩)]) rfl rfl (fun a ha => partsOf_sound ha _ _ rfl) (by kernel_rfl) (s_alloc (vs := [.pointer none, .pointer none, .pointer none]) hO rfl rfl rfl fun b6 w hO => ?_)
 refine Y3 hO rfl rfl (fun w hO => ?_)
 refine K2 (K3 (K0 (K0 (K1 (V2 rfl rfl rfl (K2 (K3 (K4 (c_rounds (X := W15) (fun x => [(0, .slice lp acts.length lc), (2, .pointer (some ⟨b2, 0, none⟩)), (3, .pointer (some ⟨b3, 0, none⟩)), (4, .pointer (some ⟨b4, 0, none⟩)), (5, .pointer (some ⟨r27, 0, none⟩)), (6, .pointer (some ⟨b6, 0, none⟩)), (7, .int .i64 (x.i : Int))]) (fun x w => Own k w [arenaL a11 x.A, stkL s a11 x.st, actL l a11 x.L, rarL r27 x.R, rstkL z30 r27 x.st, ralL y32 r27 x.L, blk b2 26 [.pointer none, .pointer none, .pointer none], blk b3 31 [.pointer none, .pointer none, .pointer none], wld b4 a11 s l, mir b6 r27 z30 y32] ∧ (x.i ≤ acts.length ∧ x.i ≤ 100) ∧ (Two x.A x.K x.R) ∧ (BldD (acts.take x.i) x.A x.st x.L)) (fun x => acts.length - x.i) (⟨0, [docD], fun _ => [], [docR], [], []⟩) ⟨rfl, rfl, rfl, rfl, rfl, rfl, rfl, trivial⟩ ⟨hO.only [.o a11, .o s, .o l, .o r27, .o z30, .o y32, .b b2, .b b3, .b b4, .b b6], ⟨Nat.zero_le _, Nat.zero_le _⟩, Two.new, .nil⟩ ?_)))))))))
 rintro x w m hm ⟨hO, hi, t, hB⟩
 refine K0 (K0 (K1 (V1 rfl rfl rfl (V1 rfl rfl rfl (l_y rfl rfl (y_lenL rfl) ?_)))))
 refine Z0 (fun h7_3 => ?_) (fun h7_3 => ?_)
 ·refine V1 rfl rfl rfl (V1 rfl rfl rfl ?_)
  refine Z0 (fun h7_6 => ?_) (fun h7_6 => ?_)
  ·refine l_y rfl rfl (y_pick_t rfl rfl) (V1 rfl rfl rfl (l_y rfl rfl (y_fldb (o' := 0) rfl) (l_y rfl rfl (D5 hO rfl) ?_)))
   refine l_y rfl rfl (y_nePnil rfl rfl rfl) (l_y rfl rfl (y_pick_t rfl rfl) (K2 (K3 (L8 (K5 (K3 (K0 (K4 (K0 ?_)))))))))
   have hta : acts.take (x.i + 1) = acts.take x.i ++ [at_ acts x.i] := take_succ_at (by omega)
   have hbi := hB.inv k (by simp; omega)
   have hxs : x.st.length ≤ 1000000 := Nat.le_trans hbi.si.len (Nat.le_trans hbi.len (by simp; omega))
   have hxL : x.L.length ≤ 1000 := Nat.le_trans hbi.ll (by simp; omega)
   have hxA : x.A.length ≤ 1000 := Nat.le_trans hbi.len (by simp; omega)
   have hnx : ((x.i : Int)).toNat = x.i := rfl
   obtain ⟨e, he⟩ : ∃ e, e = at_ acts x.i := ⟨_, rfl⟩
   refine da_region (by intro c a d v w h; cases d <;> exact h) ?_
   have hO := hO.drew
   refine da_phase _ [7] (SO.ks [.b b4] hO) ?_
   refine dx_u 0 (by kernel_rfl) rfl rfl rfl (fun w => y_fldb (o' := 0) rfl) ?_
   refine dx_y 1 (by kernel_rfl) rfl rfl rfl (fun w ⟨m, hw⟩ => D5 hw rfl) ?_
   refine dx_u 2 (by kernel_rfl) rfl rfl rfl (fun w => y_move rfl) ?_
   refine dx_u 3 (by kernel_rfl) rfl rfl rfl (fun w => y_move rfl) ?_
   refine dx_u 4 (by kernel_rfl) rfl rfl rfl (fun w => y_idx rfl rfl) ?_
   refine dx_u 5 (by kernel_rfl) rfl rfl rfl (fun w => y_fld (j' := 0) rfl) ?_
   refine dx_y 6 (by kernel_rfl) rfl rfl rfl (fun w ⟨m, hw⟩ => y_r1 (x0 := 0) (enc := Law15_act.cells) (xs := acts) hw rfl) ?_
   refine dx_close 7 (by kernel_rfl) rfl rfl ?_
   rw [hnx, ← he]
   refine CK [.o a11] hO rfl (fun k' hx hr hO' => Element_spec (xs := []) t.pos t.max (Sli.nil rfl) (hO := hO')) ?_
   rintro _ _ w ⟨q1, d1, rfl, rfl⟩ hO
   simp only [List.cons_append, List.nil_append] at hO
   obtain ⟨EL, hEL⟩ : ∃ EL, EL = elementL x.A 0 e.Text [] q1 d1 := ⟨_, rfl⟩
   rw [← hEL] at hO ⊢
   refine o_done (da_phase _ [] (SO.ks [] hO) ?_)
   refine dx_u 8 (by kernel_rfl) rfl rfl rfl (fun w => y_move rfl) ?_
   refine dx_u 9 (by kernel_rfl) rfl rfl rfl (fun w => y_extract rfl rfl) ?_
   refine dx_u 10 (by kernel_rfl) rfl rfl rfl (fun w => y_extract rfl rfl) ?_
   refine dx_u 11 (by kernel_rfl) rfl rfl rfl (fun w => y_assign rfl) ?_
   refine dx_u 12 (by kernel_rfl) rfl rfl rfl (fun w => y_assign rfl) ?_
   refine dx_end (by kernel_rfl) ?_
   refine K3 (K0 (K1 (V1 rfl rfl rfl (V1 rfl rfl rfl (V1 rfl rfl rfl (l_y rfl rfl (y_idx rfl rfl) ?_))))))
   refine l_y rfl rfl (y_fld (j' := 0) rfl) ?_
   refine l_y rfl rfl (y_r1 (x0 := 0) (enc := Law15_act.cells) (xs := acts) hO rfl) ?_
   rw [hnx, ← he]
   refine CK [.o r27] hO rfl (fun k' hx hr hO' => rElement_spec (xs := []) t.rmax (Sli.nil rfl) (hO := hO')) ?_
   rintro _ _ w ⟨q2, d2, rfl, rfl⟩ hO
   simp only [List.cons_append, List.nil_append] at hO
   obtain ⟨e1, e2, Kz, t9⟩ := el_both t 0 e.Text [] q1 q2 d1 d2
   rw [← hEL] at t9
   clear e1 e2
   refine K2 (K3 (K0 (K0 (K1 (V1 rfl rfl rfl ?_)))))
   refine Z1 (fun h11_1 => ?_) (fun h11_1 => ?_)
   ·refine K2 (K3 (L8 (K7 (L1 (L2 (K3 (K1 (V1 rfl rfl rfl (l_y rfl rfl (D4) ?_)))))))))
    refine V2 rfl rfl rfl (K2 ?_)
    try simp only [hnx, ← he] at hc114
    obtain ⟨⟨_, Aa, Ka, Ra, sa, La⟩, rfl, hO, ta, hBa⟩ : ∃ y : W15, y.i = x.i + 1 ∧ Own k w [arenaL a11 y.A, stkL s a11 y.st, actL l a11 y.L, rarL r27 y.R, rstkL z30 r27 y.st, ralL y32 r27 y.L, blk b2 26 [.pointer none, .pointer none, .pointer none], blk b3 31 [.pointer none, .pointer none, .pointer none], wld b4 a11 s l, mir b6 r27 z30 y32] ∧ Two y.A y.K y.R ∧ BldD (acts.take (x.i + 1)) y.A y.st y.L := by
     first
     | exact ⟨⟨x.i + 1, _, Kz, _, x.st, x.L⟩, rfl, hO.only [.o a11, .o s, .o l, .o r27, .o z30, .o y32, .b b2, .b b3, .b b4, .b b6], t9, by rw [hta, ← he]; exact hB.err' hEL h11_1⟩
     | exact ⟨⟨x.i + 1, B, _, R9, s9, if freshF B L9 EL.1 = 0 then pushE B L9 ⟨EL.1, tokT e.Text⟩ else L9⟩, rfl, hO.only [.o a11, .o s, .o l, .o r27, .o z30, .o y32, .b b2, .b b3, .b b4, .b b6], tl, by rw [hta, ← he]; exact hB.add' hEL he0 hB9 hs9 (by rw [← hL9, bldL, if_pos (show e.Active = true by simpa using hc114)])⟩
     | exact ⟨⟨x.i + 1, B, _, R9, s9, L9⟩, rfl, hO.only [.o a11, .o s, .o l, .o r27, .o z30, .o y32, .b b2, .b b3, .b b4, .b b6], tl, by rw [hta, ← he]; exact hB.add' hEL he0 hB9 hs9 (by rw [← hL9, bldL, if_neg (show ¬ e.Active = true by rw [hc114]; simp)])⟩
    exact q_next ((⟨x.i + 1, Aa, Ka, Ra, sa, La⟩ : W15)) ⟨rfl, rfl, rfl, rfl, rfl, rfl, rfl, trivial⟩ ⟨hO.only [.o a11, .o s, .o l, .o r27, .o z30, .o y32, .b b2, .b b3, .b b4, .b b6], ⟨by dsimp only; omega, by dsimp only; omega⟩, ta, hBa⟩ (by dsimp only; omega)
   ·refine K2 (K3 (L9 (K5 (K3 (K0 ?_)))))
    have he0 : EL.2.1 = 0 := by omega
    obtain ⟨B, hB9⟩ : ∃ B, B = (linkL EL.2.2 e.Up EL.1 (-1)).2 := ⟨_, rfl⟩
    refine da_region (by intro c a d v w h; cases d <;> exact h) ?_
    have hO := hO.drew
    refine da_phase _ [8] (SO.ks [.b b4] hO) ?_
    refine dx_u 0 (by kernel_rfl) rfl rfl rfl (fun w => y_fldb (o' := 0) rfl) ?_
    refine dx_y 1 (by kernel_rfl) rfl rfl rfl (fun w ⟨m, hw⟩ => D5 hw rfl) ?_
    refine dx_u 2 (by kernel_rfl) rfl rfl rfl (fun w => y_move rfl) ?_
    refine dx_u 3 (by kernel_rfl) rfl rfl rfl (fun w => y_move rfl) ?_
    refine dx_u 4 (by kernel_rfl) rfl rfl rfl (fun w => y_idx rfl rfl) ?_
    refine dx_u 5 (by kernel_rfl) rfl rfl rfl (fun w => y_fld (j' := 1) rfl) ?_
    refine dx_y 6 (by kernel_rfl) rfl rfl rfl (fun w ⟨m, hw⟩ => y_r1 (x0 := 1) (enc := Law15_act.cells) (xs := acts) hw rfl) ?_
    refine dx_u 7 (by kernel_rfl) rfl rfl rfl (fun w => y_move rfl) ?_
    refine dx_close 8 (by kernel_rfl) rfl rfl ?_
    rw [hnx, ← he]
    refine CK [.o a11] hO rfl (fun k' hx hr hO' => LinkC_spec t9.pos t9.tree.rank t9.tree.links (hO := hO')) ?_
    rintro _ _ w ⟨rfl, rfl⟩ hO
    simp only [List.cons_append, List.nil_append] at hO
    rw [← hB9] at hO
    refine o_done (da_end (by kernel_rfl) ?_)
    refine K3 (K0 (K1 (V1 rfl rfl rfl (V1 rfl rfl rfl (V1 rfl rfl rfl (l_y rfl rfl (y_idx rfl rfl) ?_))))))
    refine l_y rfl rfl (y_fld (j' := 1) rfl) ?_
    refine l_y rfl rfl (y_r1 (x0 := 1) (enc := Law15_act.cells) (xs := acts) hO rfl) ?_
    refine V1 rfl rfl rfl ?_
    rw [hnx, ← he]
    refine CK [.o r27] hO rfl (fun k' hx hr hO' => rLink_spec t9.tree t9.sim t9.max (hO := hO')) ?_
    rintro _ _ w ⟨rfl, R9, rfl, s9⟩ hO
    simp only [List.cons_append, List.nil_append] at hO
    have tl := t9.link s9
    rw [← hB9] at tl
    have hkl : Keeps x.A B := by
     have h1 := keeps_el (A := x.A) (nm := e.Text) (q := q1) (d := d1)
     rw [← hEL] at h1
     have h2 := keeps_link t9.tree e.Up EL.1 (-1)
     rw [← hB9] at h2
     exact h1.trans h2
    have hsl := hbi.si.keeps hkl
    have hll := hbi.li.keeps hkl
    refine K2 (K3 ?_)
    refine c_cut (X := List Int) (fun s9 => [(0, .slice lp acts.length lc), (2, .pointer (some ⟨b2, 0, none⟩)), (3, .pointer (some ⟨b3, 0, none⟩)), (4, .pointer (some ⟨b4, 0, none⟩)), (5, .pointer (some ⟨r27, 0, none⟩)), (6, .pointer (some ⟨b6, 0, none⟩)), (7, .int .i64 (x.i : Int)), (8, .int .i64 EL.1)]) (fun s9 w => Own k w [arenaL a11 B, stkL s a11 s9, actL l a11 x.L, rarL r27 R9, rstkL z30 r27 s9, ralL y32 r27 x.L, blk b2 26 [.pointer none, .pointer none, .pointer none], blk b3 31 [.pointer none, .pointer none, .pointer none], wld b4 a11 s l, mir b6 r27 z30 y32] ∧ (s9 = bldS EL.1 e B x.st)) ?_ ?_
    ·refine K0 (K1 (V1 rfl rfl rfl (V1 rfl rfl rfl (l_y rfl rfl (y_idx rfl rfl) ?_))))
     refine l_y rfl rfl (y_fld (j' := 2) rfl) ?_
     refine l_y rfl rfl (y_r1 (x0 := 2) (enc := Law15_act.cells) (xs := acts) hO rfl) ?_
     refine K2 (K3 ?_)
     refine c_split rfl (fun hc90 => ?_) (fun hc90 => ?_)
     ·refine K0 (K1 (l_y rfl rfl (y_fldb (o' := 1) rfl) (l_y rfl rfl (D5 hO rfl) ?_)))
      refine V1 rfl rfl rfl (CK [.o a11, .o s] hO rfl (fun k' hx hr hO' => sPush_spec tl.pos tl.tree.attrs hxs (hO := hO')) ?_)
      rintro _ _ w ⟨rfl, rfl⟩ hO
      simp only [List.cons_append, List.nil_append] at hO
      refine K2 (K3 (K1 (l_y rfl rfl (y_fldb (o' := 1) rfl) (l_y rfl rfl (D5 hO rfl) ?_))))
      refine V1 rfl rfl rfl (CK [.o r27, .o z30] hO rfl (fun k' hx hr hO' => tPush_spec tl.sim hsl.nodup hxs (hO := hO')) ?_)
      rintro _ _ w ⟨rfl, rfl⟩ hO
      simp only [List.cons_append, List.nil_append] at hO
      refine K2 ?_
      exact q_cut (_) ⟨rfl, rfl, rfl, rfl, rfl, rfl, rfl, rfl, trivial⟩ ⟨hO.only [.o a11, .o s, .o l, .o r27, .o z30, .o y32, .b b2, .b b3, .b b4, .b b6], (by rw [bldS]; simp only [hnx, ← he] at hc90; first | (rw [if_pos (show e.Open = true by simpa using hc90)]; done) | (rw [if_neg (show ¬ e.Open = true by rw [hc90]; simp)]; done))⟩
     ·refine K5 ?_
      exact q_cut (_) ⟨rfl, rfl, rfl, rfl, rfl, rfl, rfl, rfl, trivial⟩ ⟨hO.only [.o a11, .o s, .o l, .o r27, .o z30, .o y32, .b b2, .b b3, .b b4, .b b6], (by rw [bldS]; simp only [hnx, ← he] at hc90; first | (rw [if_pos (show e.Open = true by simpa using hc90)]; done) | (rw [if_neg (show ¬ e.Open = true by rw [hc90]; simp)]; done))⟩
    ·rintro s9 w ⟨hO, hs9⟩
     refine c_cut (X := List Api_entry) (fun L9 => [(0, .slice lp acts.length lc), (2, .pointer (some ⟨b2, 0, none⟩)), (3, .pointer (some ⟨b3, 0, none⟩)), (4, .pointer (some ⟨b4, 0, none⟩)), (5, .pointer (some ⟨r27, 0, none⟩)), (6, .pointer (some ⟨b6, 0, none⟩)), (7, .int .i64 (x.i : Int)), (8, .int .i64 EL.1)]) (fun L9 w => Own k w [arenaL a11 B, stkL s a11 s9, actL l a11 L9, rarL r27 R9, rstkL z30 r27 s9, ralL y32 r27 L9, blk b2 26 [.pointer none, .pointer none, .pointer none], blk b3 31 [.pointer none, .pointer none, .pointer none], wld b4 a11 s l, mir b6 r27 z30 y32] ∧ (L9 = bldM e x.L)) ?_ ?_
     ·refine K0 (K1 (V1 rfl rfl rfl (V1 rfl rfl rfl (l_y rfl rfl (y_idx rfl rfl) ?_))))
      refine l_y rfl rfl (y_fld (j' := 4) rfl) ?_
      refine l_y rfl rfl (y_r1 (x0 := 4) (enc := Law15_act.cells) (xs := acts) hO rfl) ?_
      refine K2 (K3 ?_)
      refine c_split rfl (fun hc103 => ?_) (fun hc103 => ?_)
      ·refine K0 (K1 (l_y rfl rfl (y_fldb (o' := 2) rfl) (l_y rfl rfl (D5 hO rfl) ?_)))
       refine CK [.o l] hO rfl (fun k' hx hr hO' => aMark_spec (by omega) (hO := hO')) ?_
       rintro _ _ w ⟨rfl, rfl⟩ hO
       simp only [List.cons_append, List.nil_append] at hO
       refine K2 (K3 (K1 (l_y rfl rfl (y_fldb (o' := 2) rfl) (l_y rfl rfl (D5 hO rfl) ?_))))
       refine CK [.o y32] hO rfl (fun k' hx hr hO' => zMark_spec (by omega) (hO := hO')) ?_
       rintro _ _ w ⟨rfl, rfl⟩ hO
       simp only [List.cons_append, List.nil_append] at hO
       refine K2 ?_
       exact q_cut (_) ⟨rfl, rfl, rfl, rfl, rfl, rfl, rfl, rfl, trivial⟩ ⟨hO.only [.o a11, .o s, .o l, .o r27, .o z30, .o y32, .b b2, .b b3, .b b4, .b b6], (by rw [bldM]; simp only [hnx, ← he] at hc103; first | (rw [if_pos (show e.Mark = true by simpa using hc103)]; done) | (rw [if_neg (show ¬ e.Mark = true by rw [hc103]; simp)]; done))⟩
      ·refine K5 ?_
       exact q_cut (_) ⟨rfl, rfl, rfl, rfl, rfl, rfl, rfl, rfl, trivial⟩ ⟨hO.only [.o a11, .o s, .o l, .o r27, .o z30, .o y32, .b b2, .b b3, .b b4, .b b6], (by rw [bldM]; simp only [hnx, ← he] at hc103; first | (rw [if_pos (show e.Mark = true by simpa using hc103)]; done) | (rw [if_neg (show ¬ e.Mark = true by rw [hc103]; simp)]; done))⟩
     ·rintro L9 w ⟨hO, hL9⟩
      refine K0 ?_
      have hm9 := hll.bldM (e := e)
      rw [← hL9] at hm9
      have hL1 : L9.length ≤ 2000000 := by
       have h7 : L9.length ≤ x.L.length + 1 := hm9.2
       omega
      refine K1 (V1 rfl rfl rfl (V1 rfl rfl rfl (l_y rfl rfl (y_idx rfl rfl) ?_)))
      refine l_y rfl rfl (y_fld (j' := 3) rfl) ?_
      refine l_y rfl rfl (y_r1 (x0 := 3) (enc := Law15_act.cells) (xs := acts) hO rfl) ?_
      refine K2 (K3 ?_)
      refine c_split rfl (fun hc114 => ?_) (fun hc114 => ?_)
      ·refine K0 (K1 (V1 rfl rfl rfl (V1 rfl rfl rfl (l_y rfl rfl (y_idx rfl rfl) ?_))))
       refine l_y rfl rfl (y_fld (j' := 0) rfl) ?_
       refine l_y rfl rfl (y_r1 (x0 := 0) (enc := Law15_act.cells) (xs := acts) hO rfl) ?_
       refine s_build (parts := [(0, .const (.int .i64 1)), (1, .tmp 119)]) (cs := [.int .i64 1, .string (at_ acts ((x.i : Int) : Int).toNat).Text, .string ⟨#[]⟩, .string ⟨#[]⟩, .int .i64 0, .bool false, .int .i32 0, .bool false, .slice none 0 0]) rfl rfl (fun a ha => partsOf_sound ha _ _ rfl) (by kernel_rfl) (s_alloc (vs := [.int .i64 0, .string ⟨#[]⟩, .string ⟨#[]⟩, .string ⟨#[]⟩, .int .i64 0, .bool false, .int .i32 0, .bool false, .slice none 0 0]) hO rfl rfl rfl fun b10 w hO => ?_)
       refine Y3 hO rfl rfl (fun w hO => ?_)
       refine K2 (K3 (K0 (K1 (l_y rfl rfl (y_fldb (o' := 2) rfl) (l_y rfl rfl (D5 hO rfl) ?_)))))
       refine V1 rfl rfl rfl (l_y rfl rfl (D8 (cs := [.int .i64 1, .string (at_ acts ((x.i : Int) : Int).toNat).Text, .string ⟨#[]⟩, .string ⟨#[]⟩, .int .i64 0, .bool false, .int .i32 0, .bool false, .slice none 0 0]) hO rfl) ?_)
       rw [hnx, ← he]
       refine CK [.o a11, .o l] hO rfl (fun k' hx hr hO' => aPush_spec (id := EL.1) (tk := tokT e.Text) (es := L9) tl.pos tl.tree.attrs hL1 hm9.1.has (fun e he => eok_of k' (hm9.1.tok e he)) ⟨Sli.nil rfl, Nat.zero_le _⟩ (hO := hO')) ?_
       rintro _ _ w ⟨rfl, rfl⟩ hO
       simp only [List.cons_append, List.nil_append] at hO
       refine K2 (K3 (K1 (l_y rfl rfl (y_fldb (o' := 2) rfl) (l_y rfl rfl (D5 hO rfl) ?_))))
       refine V1 rfl rfl rfl (l_y rfl rfl (D8 (cs := [.int .i64 1, .string (at_ acts ((x.i : Int) : Int).toNat).Text, .string ⟨#[]⟩, .string ⟨#[]⟩, .int .i64 0, .bool false, .int .i32 0, .bool false, .slice none 0 0]) hO rfl) ?_)
       rw [hnx, ← he]
       refine CK [.o r27, .o y32] hO rfl (fun k' hx hr hO' => zPush_spec (id := EL.1) (tk := tokT e.Text) (L := L9) tl (hm9.1.pl k').dist hL1 hm9.1.has (fun e he => eok_of k' (hm9.1.tok e he)) ⟨Sli.nil rfl, Nat.zero_le _⟩ (hO := hO')) ?_
       rintro _ _ w ⟨rfl, rfl⟩ hO
       simp only [List.cons_append, List.nil_append] at hO
       refine K2 (K8 (K3 (K1 (V1 rfl rfl rfl (l_y rfl rfl (D4) ?_)))))
       refine V2 rfl rfl rfl (K2 ?_)
       try simp only [hnx, ← he] at hc114
       obtain ⟨⟨_, Aa, Ka, Ra, sa, La⟩, rfl, hO, ta, hBa⟩ : ∃ y : W15, y.i = x.i + 1 ∧ Own k w [arenaL a11 y.A, stkL s a11 y.st, actL l a11 y.L, rarL r27 y.R, rstkL z30 r27 y.st, ralL y32 r27 y.L, blk b2 26 [.pointer none, .pointer none, .pointer none], blk b3 31 [.pointer none, .pointer none, .pointer none], wld b4 a11 s l, mir b6 r27 z30 y32] ∧ Two y.A y.K y.R ∧ BldD (acts.take (x.i + 1)) y.A y.st y.L := by
        first
        | exact ⟨⟨x.i + 1, _, Kz, _, x.st, x.L⟩, rfl, hO.only [.o a11, .o s, .o l, .o r27, .o z30, .o y32, .b b2, .b b3, .b b4, .b b6], t9, by rw [hta, ← he]; exact hB.err' hEL h11_1⟩
        | exact ⟨⟨x.i + 1, B, _, R9, s9, if freshF B L9 EL.1 = 0 then pushE B L9 ⟨EL.1, tokT e.Text⟩ else L9⟩, rfl, hO.only [.o a11, .o s, .o l, .o r27, .o z30, .o y32, .b b2, .b b3, .b b4, .b b6], tl, by rw [hta, ← he]; exact hB.add' hEL he0 hB9 hs9 (by rw [← hL9, bldL, if_pos (show e.Active = true by simpa using hc114)])⟩
        | exact ⟨⟨x.i + 1, B, _, R9, s9, L9⟩, rfl, hO.only [.o a11, .o s, .o l, .o r27, .o z30, .o y32, .b b2, .b b3, .b b4, .b b6], tl, by rw [hta, ← he]; exact hB.add' hEL he0 hB9 hs9 (by rw [← hL9, bldL, if_neg (show ¬ e.Active = true by rw [hc114]; simp)])⟩
       exact q_next ((⟨x.i + 1, Aa, Ka, Ra, sa, La⟩ : W15)) ⟨rfl, rfl, rfl, rfl, rfl, rfl, rfl, trivial⟩ ⟨hO.only [.o a11, .o s, .o l, .o r27, .o z30, .o y32, .b b2, .b b3, .b b4, .b b6], ⟨by dsimp only; omega, by dsimp only; omega⟩, ta, hBa⟩ (by dsimp only; omega)
      ·refine K5 (K8 (K3 (K1 (V1 rfl rfl rfl (l_y rfl rfl (D4) ?_)))))
       refine V2 rfl rfl rfl (K2 ?_)
       try simp only [hnx, ← he] at hc114
       obtain ⟨⟨_, Aa, Ka, Ra, sa, La⟩, rfl, hO, ta, hBa⟩ : ∃ y : W15, y.i = x.i + 1 ∧ Own k w [arenaL a11 y.A, stkL s a11 y.st, actL l a11 y.L, rarL r27 y.R, rstkL z30 r27 y.st, ralL y32 r27 y.L, blk b2 26 [.pointer none, .pointer none, .pointer none], blk b3 31 [.pointer none, .pointer none, .pointer none], wld b4 a11 s l, mir b6 r27 z30 y32] ∧ Two y.A y.K y.R ∧ BldD (acts.take (x.i + 1)) y.A y.st y.L := by
        first
        | exact ⟨⟨x.i + 1, _, Kz, _, x.st, x.L⟩, rfl, hO.only [.o a11, .o s, .o l, .o r27, .o z30, .o y32, .b b2, .b b3, .b b4, .b b6], t9, by rw [hta, ← he]; exact hB.err' hEL h11_1⟩
        | exact ⟨⟨x.i + 1, B, _, R9, s9, if freshF B L9 EL.1 = 0 then pushE B L9 ⟨EL.1, tokT e.Text⟩ else L9⟩, rfl, hO.only [.o a11, .o s, .o l, .o r27, .o z30, .o y32, .b b2, .b b3, .b b4, .b b6], tl, by rw [hta, ← he]; exact hB.add' hEL he0 hB9 hs9 (by rw [← hL9, bldL, if_pos (show e.Active = true by simpa using hc114)])⟩
        | exact ⟨⟨x.i + 1, B, _, R9, s9, L9⟩, rfl, hO.only [.o a11, .o s, .o l, .o r27, .o z30, .o y32, .b b2, .b b3, .b b4, .b b6], tl, by rw [hta, ← he]; exact hB.add' hEL he0 hB9 hs9 (by rw [← hL9, bldL, if_neg (show ¬ e.Active = true by rw [hc114]; simp)])⟩
       exact q_next ((⟨x.i + 1, Aa, Ka, Ra, sa, La⟩ : W15)) ⟨rfl, rfl, rfl, rfl, rfl, rfl, rfl, trivial⟩ ⟨hO.only [.o a11, .o s, .o l, .o r27, .o z30, .o y32, .b b2, .b b3, .b b4, .b b6], ⟨by dsimp only; omega, by dsimp only; omega⟩, ta, hBa⟩ (by dsimp only; omega)
  ·refine l_y rfl rfl (y_pick_t rfl rfl) (V1 rfl rfl rfl ?_)
   repeat refine M2 ?_
   refine l_y rfl rfl (y_pick_f rfl rfl) (K2 (K3 (L9 (K7 (L1 (L1 (L2 (K3 (K0 (da_region (by intro c a d v w h; cases d <;> exact h) ?_))))))))))
   have hO := hO.drew
   refine da_phase _ [3] (SO.ks [.b b4, .b b6] hO) ?_
   refine dx_y 0 (by kernel_rfl) rfl rfl rfl (fun w ⟨m, hw⟩ => D8 (cs := [.pointer (some ⟨a11, 0, none⟩), .pointer (some ⟨s, 0, none⟩), .pointer (some ⟨l, 0, none⟩)]) hw rfl) ?_
   refine dx_y 1 (by kernel_rfl) rfl rfl rfl (fun w ⟨m, hw⟩ => D8 (cs := [.pointer (some ⟨r27, 0, none⟩), .pointer (some ⟨z30, 0, none⟩), .pointer (some ⟨y32, 0, none⟩)]) hw rfl) ?_
   refine dx_only 2 (by kernel_rfl) rfl rfl ?_
   refine Y3 hO rfl rfl (fun w hO => ?_)
   refine o_done (⟨SO.ks [.b b4, .b b6] hO, ?_⟩)
   refine dx_close 3 (by kernel_rfl) rfl rfl ?_
   refine Y3 hO rfl rfl (fun w hO => ?_)
   refine o_done (da_end (by kernel_rfl) ?_)
   refine K3 (K6 ?_)
   have hb2 := (hO.only [.b b2]).holds (.hd _ _ _) (.ofBlkA (o := 0) (cs := [.pointer (some ⟨a11, 0, none⟩), .pointer (some ⟨s, 0, none⟩), .pointer (some ⟨l, 0, none⟩)]) 3 rfl)
   have hb3 := (hO.only [.b b3]).holds (.hd _ _ _) (.ofBlkA (o := 0) (cs := [.pointer (some ⟨r27, 0, none⟩), .pointer (some ⟨z30, 0, none⟩), .pointer (some ⟨y32, 0, none⟩)]) 3 rfl)
   have hxe : acts.take x.i = acts.take 100 := by
    rcases Nat.lt_or_ge acts.length 100 with h | h
    ·rw [List.take_of_length_le (by omega), List.take_of_length_le (by omega)]
    ·rw [show x.i = 100 by omega]
   exact fincc rfl rfl rfl rfl rfl hb2 hb3 ⟨_, ⟨_, _, _, _, _, _, _, _, _, _, _, rfl, rfl, t, by rw [← hxe]; exact hB⟩, hO.only [.o a11, .o s, .o l, .o r27, .o z30, .o y32]⟩
 ·refine V1 rfl rfl rfl ?_
  repeat refine M2 ?_
  refine l_y rfl rfl (y_pick_f rfl rfl) (V1 rfl rfl rfl ?_)
  repeat refine M2 ?_
  refine l_y rfl rfl (y_pick_f rfl rfl) (K2 (K3 (L9 (K7 (L1 (L1 (L2 (K3 (K0 (da_region (by intro c a d v w h; cases d <;> exact h) ?_))))))))))
  have hO := hO.drew
  refine da_phase _ [3] (SO.ks [.b b4, .b b6] hO) ?_
  refine dx_y 0 (by kernel_rfl) rfl rfl rfl (fun w ⟨m, hw⟩ => D8 (cs := [.pointer (some ⟨a11, 0, none⟩), .pointer (some ⟨s, 0, none⟩), .pointer (some ⟨l, 0, none⟩)]) hw rfl) ?_
  refine dx_y 1 (by kernel_rfl) rfl rfl rfl (fun w ⟨m, hw⟩ => D8 (cs := [.pointer (some ⟨r27, 0, none⟩), .pointer (some ⟨z30, 0, none⟩), .pointer (some ⟨y32, 0, none⟩)]) hw rfl) ?_
  refine dx_only 2 (by kernel_rfl) rfl rfl ?_
  refine Y3 hO rfl rfl (fun w hO => ?_)
  refine o_done (⟨SO.ks [.b b4, .b b6] hO, ?_⟩)
  refine dx_close 3 (by kernel_rfl) rfl rfl ?_
  refine Y3 hO rfl rfl (fun w hO => ?_)
  refine o_done (da_end (by kernel_rfl) ?_)
  refine K3 (K6 ?_)
  have hb2 := (hO.only [.b b2]).holds (.hd _ _ _) (.ofBlkA (o := 0) (cs := [.pointer (some ⟨a11, 0, none⟩), .pointer (some ⟨s, 0, none⟩), .pointer (some ⟨l, 0, none⟩)]) 3 rfl)
  have hb3 := (hO.only [.b b3]).holds (.hd _ _ _) (.ofBlkA (o := 0) (cs := [.pointer (some ⟨r27, 0, none⟩), .pointer (some ⟨z30, 0, none⟩), .pointer (some ⟨y32, 0, none⟩)]) 3 rfl)
  have hxe : acts.take x.i = acts.take 100 := by
   rcases Nat.lt_or_ge acts.length 100 with h | h
   ·rw [List.take_of_length_le (by omega), List.take_of_length_le (by omega)]
   ·rw [show x.i = 100 by omega]
  exact fincc rfl rfl rfl rfl rfl hb2 hb3 ⟨_, ⟨_, _, _, _, _, _, _, _, _, _, _, rfl, rfl, t, by rw [← hxe]; exact hB⟩, hO.only [.o a11, .o s, .o l, .o r27, .o z30, .o y32]⟩
end
end Go.Proofs.YtoohapbaelmkcaaGreat
end
section
set_option maxRecDepth 100000
namespace Go.Proofs.YtoohapbaelmkcaaGreat
open Go Go.Hb Go.RowKit
theorem el_one {A : List Node_one} {nm : ByteArray} (h : ¬ tmpl 0 nm) (hs : nm.size ≤ 100) (hl : A.length ≤ 1000) (q : Option Addr) (d : Nat) : elementL A 0 nm [] q d = ((A.length : Int), 0, A ++ [blankN (elementN q d 0 nm [])]) := by
 have h2 : longB (nm :: attrTexts []) = false := by simp [longB, attrTexts]; omega
 rw [elementL, if_neg (by omega), if_neg (by simp), if_neg (fun h1 => h h1.1), if_neg (by rw [h2]; simp), if_neg (by omega), if_neg h]
end Go.Proofs.YtoohapbaelmkcaaGreat
end
section
set_option maxRecDepth 100000
namespace Go.Proofs.YtoohapbaelmkcaaGreat
open Go Go.Hb Go.RowKit
def eB : Law15_act := ⟨⟨#[98]⟩, 0, true, false, false⟩
theorem bld_nil {A : List Node_one} {st : List Int} {L : List Api_entry} {xs : List Law15_act} (g : BldD xs A st L) (h : xs = []) : A = [docD] ∧ st = [] ∧ L = [] := by
 cases g with
 | nil => exact ⟨rfl, rfl, rfl⟩
 | err xs => simp at h
 | add xs => simp at h
theorem bld_b {A : List Node_one} {st : List Int} {L : List Api_entry} {xs : List Law15_act} (g : BldD xs A st L) (h : xs = [eB]) : st = [1] ∧ L = [] ∧ Short ⟨A, st, L, 0⟩ ⟨#[98]⟩ := by
  have e1 : ∀ (q : Option Addr) (d : Nat), elementL [docD] 0 ⟨#[98]⟩ [] q d = (((([docD] : List Node_one).length : Nat) : Int), 0, [docD] ++ [blankN (elementN q d 0 ⟨#[98]⟩ [])]) := fun q d => el_one (by decide) (by decide) (by decide) q d
  cases g with
  | nil => simp at h
  | err xs A st L e q d g hh =>
    have hx : xs = [] := by
      cases xs with
      | nil => rfl
      | cons a l => simp at h
    subst hx
    obtain rfl : e = eB := by simpa using h
    obtain ⟨rfl, rfl, rfl⟩ := bld_nil g rfl
    have e2 := e1 q d
    exact absurd (show (elementL [docD] 0 ⟨#[98]⟩ [] q d).2.1 = 0 by rw [e2]) hh
  | add xs A0 st L e q d g hh B hB =>
    have hx : xs = [] := by
      cases xs with
      | nil => rfl
      | cons a l => simp at h
    subst hx
    obtain rfl : e = eB := by simpa using h
    obtain ⟨rfl, rfl, rfl⟩ := bld_nil g rfl
    have e2 := e1 q d
    have t0 := Tree.new.add (elementN q d 0 ⟨#[98]⟩ []) (Nat.zero_le _)
    have hB2 : A = (linkL ([docD] ++ [blankN (elementN q d 0 ⟨#[98]⟩ [])]) 0 1 (-1)).2 := by
      rw [hB]
      show (linkL (elementL [docD] 0 ⟨#[98]⟩ [] q d).2.2 0 (elementL [docD] 0 ⟨#[98]⟩ [] q d).1 (-1)).2 = _
      rw [e2]; rfl
    have hid : (elementL [docD] 0 eB.Text [] q d).1 = 1 := by
      show (elementL [docD] 0 ⟨#[98]⟩ [] q d).1 = 1
      rw [e2]; rfl
    have hl : A.length = 2 := by rw [hB2, linkL_len]; rfl
    have hc : coreN (at_ A ((1 : Int)).toNat) = coreN (blankN (elementN q d 0 ⟨#[98]⟩ [])) := by rw [hB2]; exact linkL_core t0 (by decide)
    have hb : hasB A 1 = true := by rw [hasB, hl]; rfl
    have hk : elB A 1 = true := by
      rw [elB, hb]
      have := core_kind hc
      rw [show (at_ A ((1 : Int)).toNat).Node.Kind = 1 from this]; rfl
    have hfr : freshE A [] 1 = 0 := by rw [freshE, hk, if_neg (by simp)]; rfl
    rw [hid]
    have hs : bldS 1 eB A [] = [1] := by
      show (if freshE A [] 1 = 0 then _ else _) = _
      rw [if_pos hfr]; rfl
    rw [hs]
    exact ⟨rfl, rfl, hb, core_space hc, core_name hc, by show findE [] (topI [1]) < 0; decide⟩
section
variable {k : Ctx} {w : World}
set_option maxHeartbeats 1000000 in
theorem awake15_spec (hO : Own k w []) : Tri Tryz.prog 11 #[] k w fun v m => v = .bool true ∧ m = [] := by
 refine enter (args := []) Tryz.func11 rfl rfl (K0 (K1 (V2 rfl rfl rfl (K2 (K3 (K0 (K1 (s_build (parts := [(0, .const (.string ⟨#[98]⟩)), (2, .const (.bool true))]) (cs := [.string ⟨#[98]⟩, .int .i64 0, .bool true, .bool false, .bool false]) rfl rfl (fun a ha => partsOf_sound ha _ _ rfl) (by kernel_rfl) (s_lit (parts := [(0, .tmp 7)]) (enc := Law15_act.cells) [⟨⟨#[98]⟩, 0, true, false, false⟩] [.agg [.string ⟨#[98]⟩, .int .i64 0, .bool true, .bool false, .bool false].toArray] hO rfl (fun b8 w hO => ?_))))))))))
 refine CK [] hO rfl (fun k' hx hr hO' => build_spec (acts := [eB]) (sls_roK (p := (some ⟨b8, 0, none⟩)) hr (sls_fct (p := (some ⟨b8, 0, none⟩)) hO)) (hO := hO')) ?_
 rintro _ _ w ⟨a, s, l, r, z, y, A, K, R, st, L, rfl, rfl, t, hB⟩ hO
 simp only [List.cons_append, List.nil_append] at hO
 have hb := bld_b hB rfl
 have hR := hB.inv k (by decide)
 refine V1 rfl rfl rfl (l_y rfl rfl (y_extract rfl rfl) (l_y rfl rfl (y_extract rfl rfl) (s_alloc (vs := [.pointer none, .pointer none, .pointer none]) hO rfl rfl rfl fun b1 w hO => ?_)))
 refine s_alloc (vs := [.pointer none, .pointer none, .pointer none]) hO rfl rfl rfl fun b2 w hO => ?_
 refine Y3 hO rfl rfl (fun w hO => ?_)
 refine Y3 hO rfl rfl (fun w hO => ?_)
 refine K2 (K3 (K0 (K1 (l_y rfl rfl (y_fldb (o' := 0) rfl) (l_y rfl rfl (D5 hO rfl) ?_)))))
 refine l_y rfl rfl (y_fldb (o' := 1) rfl) (l_y rfl rfl (D5 hO rfl) ?_)
 refine l_y rfl rfl (y_fldb (o' := 2) rfl) (l_y rfl rfl (D5 hO rfl) ?_)
 refine CK [.o a, .o s, .o l] hO rfl (fun k' hx hr hO' => run_spec hR (by decide) (by decide) (hO := hO')) ?_
 rintro _ _ w ⟨o, y9, hrun, rfl, rfl⟩ hO
 simp only [List.cons_append, List.nil_append] at hO
 obtain ⟨_, ho, hy⟩ := hrun.resolve_right (fun h => h.1 hb.2.2)
 have h1 : y9.errs = 0 := by rw [hy]
 have h2 : y9.st.length = 0 := by rw [hy]; show (st.take (st.length - 1)).length = 0; rw [hb.1]; rfl
 rw [h1, ho]
 refine V1 rfl rfl rfl (l_y rfl rfl (y_extract rfl rfl) (l_y rfl rfl (y_extract rfl rfl) (l_y rfl rfl (y_extract rfl rfl) (V2 rfl rfl rfl (V2 rfl rfl rfl (V2 rfl rfl rfl (K2 (K3 (K0 (K1 (V1 rfl rfl rfl (l_y rfl rfl (y_not rfl rfl) (V1 rfl rfl rfl (V1 rfl rfl rfl (N2 (l_y rfl rfl (y_pick_t rfl rfl) (V1 rfl rfl rfl (V1 rfl rfl rfl (N2 (l_y rfl rfl (y_pick_t rfl rfl) (V1 rfl rfl rfl (l_y rfl rfl (y_fldb (o' := 1) rfl) (l_y rfl rfl (D5 hO rfl) ?_)))))))))))))))))))))))
 refine CK [.o s] hO rfl (fun k' hx hr hO' => sLenC_spec (hO := hO')) ?_
 rintro _ _ w ⟨rfl, rfl⟩ hO
 simp only [List.cons_append, List.nil_append] at hO
 rw [h2]
 refine N2 (hp := rfl) (l_y rfl rfl (y_pick_t rfl rfl) (V2 rfl rfl rfl (K2 (K3 (K6 ?_)))))
 exact fin1 rfl rfl ⟨_, ⟨rfl, rfl⟩, hO.none⟩
end
end Go.Proofs.YtoohapbaelmkcaaGreat
end
section
set_option maxRecDepth 100000
namespace Go.Proofs.YtoohapbaelmkcaaGreat
open Go Go.Hb Go.RowKit
section
variable {k : Ctx} {w : World} {a s l r z yl : Nat} {A : List Node_one} {K : Int → List Int} {R : List Ref01_one} {st : List Int} {L : List Api_entry}
set_option maxHeartbeats 400000 in
theorem same15_spec (t : Two A K R) (hl : st.length ≤ 1000000) (hL : L.length ≤ 1000000) (hO : Own k w [arenaL a A, stkL s a st, actL l a L, rarL r R, rstkL z r st, ralL yl r L]) :
  Tri Tryz.prog 10 #[.agg (Law15_world.cells (Law15_world.mk (some ⟨a, 0, none⟩) (some ⟨s, 0, none⟩) (some ⟨l, 0, none⟩))).toArray, .agg (Law15_mirror.cells (Law15_mirror.mk (some ⟨r, 0, none⟩) (some ⟨z, 0, none⟩) (some ⟨yl, 0, none⟩))).toArray] k w fun v m => v = .bool true ∧ m = [arenaL a A, stkL s a st, actL l a L, rarL r R, rstkL z r st, ralL yl r L] := by
 refine enter (args := [.agg (Law15_world.cells (Law15_world.mk (some ⟨a, 0, none⟩) (some ⟨s, 0, none⟩) (some ⟨l, 0, none⟩))).toArray, .agg (Law15_mirror.cells (Law15_mirror.mk (some ⟨r, 0, none⟩) (some ⟨z, 0, none⟩) (some ⟨yl, 0, none⟩))).toArray]) Tryz.func10 rfl rfl ?_
 have hRl := t.sim.len
 have hAm := t.max
 have hpos := t.pos
 refine K0 (K1 (s_box (vs := [.pointer (Law15_world.mk (some ⟨a, 0, none⟩) (some ⟨s, 0, none⟩) (some ⟨l, 0, none⟩)).a, .pointer (Law15_world.mk (some ⟨a, 0, none⟩) (some ⟨s, 0, none⟩) (some ⟨l, 0, none⟩)).s, .pointer (Law15_world.mk (some ⟨a, 0, none⟩) (some ⟨s, 0, none⟩) (some ⟨l, 0, none⟩)).l]) hO rfl rfl rfl (by rfl) fun b2 w hO => ?_))
 refine s_box (vs := [.pointer (Law15_mirror.mk (some ⟨r, 0, none⟩) (some ⟨z, 0, none⟩) (some ⟨yl, 0, none⟩)).a, .pointer (Law15_mirror.mk (some ⟨r, 0, none⟩) (some ⟨z, 0, none⟩) (some ⟨yl, 0, none⟩)).s, .pointer (Law15_mirror.mk (some ⟨r, 0, none⟩) (some ⟨z, 0, none⟩) (some ⟨yl, 0, none⟩)).l]) hO rfl rfl rfl (by rfl) fun b3 w hO => ?_
 refine V2 rfl rfl rfl (K2 (K3 (K0 (K0 (K1 (V2 rfl rfl rfl (K2 (K3 (K4 (c_rounds (X := Nat) (fun i => [(2, .pointer (some ⟨b2, 0, none⟩)), (3, .pointer (some ⟨b3, 0, none⟩)), (4, .bool false), (5, .int .i64 (i : Int))]) (fun i w => Own k w [arenaL a A, stkL s a st, actL l a L, rarL r R, rstkL z r st, ralL yl r L, wld b2 a s l, mir b3 r z yl] ∧ (i ≤ R.length)) (fun i => R.length - i) (0) ⟨rfl, rfl, rfl, rfl, trivial⟩ ⟨hO.only [.o a, .o s, .o l, .o r, .o z, .o yl, .b b2, .b b3], Nat.zero_le _⟩ ?_))))))))))
 rintro i w m hm ⟨hO, hi⟩
 refine K0 (K0 ?_)
 obtain ⟨p, c, F, hg, hF, hO⟩ := rarL_open (hO.ks [.o r])
 refine K1 (V1 rfl rfl rfl (l_y rfl rfl (y_fldb (o' := 0) rfl) (l_y rfl rfl (D5 hO rfl) ?_)))
 refine V3 rfl rfl rfl rfl (l_y rfl rfl (y_fieldAddr rfl) (l_y rfl rfl (D5 hO rfl) ?_))
 refine l_y rfl rfl (y_lenL rfl) ?_
 refine Z0 (fun h2_7 => ?_) (fun h2_7 => ?_)
 ·have hO := rarL_shut hF (hO.ks [.b r, .p p, .f])
  refine K2 (K3 (L8 (K5 (K3 (K0 (K4 (K0 (K1 (l_y rfl rfl (y_fldb (o' := 0) rfl) (l_y rfl rfl (D5 hO rfl) ?_))))))))))
  refine V1 rfl rfl rfl (CK [.o a] hO rfl (fun k' hx hr hO' => NodeD_spec (id := (i : Int)) hpos t.tree.attrs (hO := hO')) ?_)
  rintro _ _ w ⟨n, hnv, rfl, rfl⟩ hO
  simp only [List.cons_append, List.nil_append] at hO
  have hb : hasB A (i : Int) = true := by rw [hasB, decide_eq_true (by omega)]
  rw [errN, if_pos hb]
  obtain ⟨q1, d1, hn⟩ : ∃ q d, n = ownN (at_ A ((i : Int)).toNat).Node q d := by
   rcases hnv with ⟨h, _⟩ | ⟨_, h⟩
   ·rw [hb] at h; cases h
   ·exact h
  refine V1 rfl rfl rfl (l_y rfl rfl (y_extract rfl rfl) (l_y rfl rfl (y_extract rfl rfl) (s_alloc (vs := [.int .i64 0, .int .i64 0, .string ⟨#[]⟩, .slice none 0 0, .string ⟨#[]⟩, .string ⟨#[]⟩, .int .i64 0, .int .i64 0, .int .i64 0, .int .i64 0, .int .i64 0, .int .i64 0]) hO rfl rfl rfl fun b6 w hO => ?_)))
  refine Y3 hO rfl rfl (fun w hO => ?_)
  refine V2 rfl rfl rfl (K2 (K3 (K0 (K1 (l_y rfl rfl (y_fldb (o' := 0) rfl) (l_y rfl rfl (D5 hO rfl) ?_))))))
  refine V1 rfl rfl rfl (CK [.o r] hO rfl (fun k' hx hr hO' => rNodeD_spec (id := (i : Int)) t (hO := hO')) ?_)
  rintro _ _ w ⟨n2, hn2, rfl, rfl⟩ hO
  simp only [List.cons_append, List.nil_append] at hO
  obtain ⟨q2, d2, hm⟩ := hn2 hb
  refine V1 rfl rfl rfl (l_y rfl rfl (y_extract rfl rfl) (l_y rfl rfl (y_extract rfl rfl) (s_alloc (vs := [.int .i64 0, .int .i64 0, .string ⟨#[]⟩, .slice none 0 0, .string ⟨#[]⟩, .string ⟨#[]⟩, .int .i64 0, .int .i64 0, .int .i64 0, .int .i64 0, .int .i64 0, .int .i64 0]) hO rfl rfl rfl fun b8 w hO => ?_)))
  refine Y3 hO rfl rfl (fun w hO => ?_)
  refine V2 rfl rfl rfl (K2 (K3 (K0 (K1 (V1 rfl rfl rfl (N4 (V1 rfl rfl rfl (l_y rfl rfl (y_fldb (o' := 2) rfl) (l_y rfl rfl (D5 hO rfl) ?_)))))))))
  refine l_y rfl rfl (y_fldb (o' := 2) rfl) (l_y rfl rfl (D5 hO rfl) ?_)
  refine N8 (hp := (by rw [hn, hm]; rfl)) (l_y rfl rfl (y_pick_f rfl rfl) (V1 rfl rfl rfl (l_y rfl rfl (y_fldb (o' := 6) rfl) (l_y rfl rfl (D5 hO rfl) ?_))))
  refine l_y rfl rfl (y_fldb (o' := 6) rfl) (l_y rfl rfl (D5 hO rfl) ?_)
  refine N4 (hp := (by rw [hn, hm]; rfl)) (l_y rfl rfl (y_pick_f rfl rfl) (V1 rfl rfl rfl (l_y rfl rfl (y_fldb (o' := 9) rfl) (l_y rfl rfl (D5 hO rfl) ?_))))
  refine l_y rfl rfl (y_fldb (o' := 9) rfl) (l_y rfl rfl (D5 hO rfl) ?_)
  refine N4 (hp := (by rw [hn, hm]; rfl)) (l_y rfl rfl (y_pick_f rfl rfl) (V1 rfl rfl rfl (l_y rfl rfl (y_fldb (o' := 10) rfl) (l_y rfl rfl (D5 hO rfl) ?_))))
  refine l_y rfl rfl (y_fldb (o' := 10) rfl) (l_y rfl rfl (D5 hO rfl) ?_)
  refine N4 (hp := (by rw [hn, hm]; rfl)) (l_y rfl rfl (y_pick_f rfl rfl) (K2 (K3 (L9 (K5 (K8 (K3 (K1 (V1 rfl rfl rfl (l_y rfl rfl (D4) ?_))))))))))
  refine V2 rfl rfl rfl (K2 ?_)
  exact q_next (i + 1) ⟨rfl, rfl, rfl, rfl, trivial⟩ ⟨hO.only [.o a, .o s, .o l, .o r, .o z, .o yl, .b b2, .b b3], by omega⟩ (by omega)
 ·have hO := rarL_shut hF (hO.ks [.b r, .p p, .f])
  refine K2 (K3 (L9 (K7 (L1 (L1 (L2 (K3 (K0 (K0 (K1 (V2 rfl rfl rfl (K2 (K3 (K4 (c_rounds (X := Nat) (fun i => [(2, .pointer (some ⟨b2, 0, none⟩)), (3, .pointer (some ⟨b3, 0, none⟩)), (4, .bool false), (10, .int .i64 (i : Int))]) (fun i w => Own k w [arenaL a A, stkL s a st, actL l a L, rarL r R, rstkL z r st, ralL yl r L, wld b2 a s l, mir b3 r z yl] ∧ (i ≤ st.length + 1)) (fun i => st.length + 1 - i) (0) ⟨rfl, rfl, rfl, rfl, trivial⟩ ⟨hO.only [.o a, .o s, .o l, .o r, .o z, .o yl, .b b2, .b b3], Nat.zero_le _⟩ ?_)))))))))))))))
  rintro i w m hm ⟨hO, hi⟩
  refine K0 (K0 ?_)
  obtain ⟨q, d, hq, hld, hO⟩ := rstkL_open (hO.ks [.o z])
  refine K1 (V1 rfl rfl rfl (l_y rfl rfl (y_fldb (o' := 1) rfl) (l_y rfl rfl (D5 hO rfl) ?_)))
  refine V3 rfl rfl rfl rfl (l_y rfl rfl (y_fieldAddr rfl) (l_y rfl rfl (D5 hO rfl) ?_))
  refine l_y rfl rfl (y_lenL rfl) ?_
  refine Z0 (fun h9_7 => ?_) (fun h9_7 => ?_)
  ·have hO := rstkL_shut (hO.ks [.b z, .p q])
   refine K2 (K3 (L8 (K5 (K3 (K0 (K4 (K0 (da_region (by intro c a d v w h; cases d <;> exact h) ?_))))))))
   have hO := hO.drew
   refine da_phase _ [7] (SO.ks [.b b2, .b b3] hO) ?_
   refine dx_u 0 (by kernel_rfl) rfl rfl rfl (fun w => y_fldb (o' := 1) rfl) ?_
   refine dx_y 1 (by kernel_rfl) rfl rfl rfl (fun w ⟨m, hw⟩ => D5 hw rfl) ?_
   refine dx_u 2 (by kernel_rfl) rfl rfl rfl (fun w => y_move rfl) ?_
   refine dx_u 4 (by kernel_rfl) rfl rfl rfl (fun w => y_fldb (o' := 1) rfl) ?_
   refine dx_y 5 (by kernel_rfl) rfl rfl rfl (fun w ⟨m, hw⟩ => D5 hw rfl) ?_
   refine dx_u 6 (by kernel_rfl) rfl rfl rfl (fun w => y_move rfl) ?_
   refine dx_only 3 (by kernel_rfl) rfl rfl ?_
   refine CK [.o s] hO rfl (fun k' hx hr hO' => sAtC_spec (x := (i : Int)) hl (hO := hO')) ?_
   rintro _ _ w ⟨rfl, rfl⟩ hO
   simp only [List.cons_append, List.nil_append] at hO
   refine o_done (⟨SO.ks [.b b2, .b b3] hO, ?_⟩)
   refine dx_close 7 (by kernel_rfl) rfl rfl ?_
   refine CK [.o z] hO rfl (fun k' hx hr hO' => tAt_spec (i := (i : Int)) (hO := hO')) ?_
   rintro _ _ w ⟨rfl, rfl⟩ hO
   simp only [List.cons_append, List.nil_append] at hO
   refine o_done (da_phase _ [] (SO.ks [] hO) ?_)
   refine dx_y 8 (by kernel_rfl) rfl rfl rfl (fun w ⟨m, hw⟩ => D2 (hp := rfl)) ?_
   refine dx_end (by kernel_rfl) ?_
   refine K3 (L9 (K5 (K8 (K3 (K1 (V1 rfl rfl rfl (l_y rfl rfl (D4) ?_)))))))
   refine V2 rfl rfl rfl (K2 ?_)
   exact q_next (i + 1) ⟨rfl, rfl, rfl, rfl, trivial⟩ ⟨hO.only [.o a, .o s, .o l, .o r, .o z, .o yl, .b b2, .b b3], by omega⟩ (by omega)
  ·have hO := rstkL_shut (hO.ks [.b z, .p q])
   refine K2 (K3 (L9 (K7 (L1 (L1 (L2 (K3 (K0 (K0 (K1 (V2 rfl rfl rfl (K2 (K3 (K4 (c_rounds (X := Nat) (fun i => [(2, .pointer (some ⟨b2, 0, none⟩)), (3, .pointer (some ⟨b3, 0, none⟩)), (4, .bool false), (11, .int .i64 (i : Int))]) (fun i w => Own k w [arenaL a A, stkL s a st, actL l a L, rarL r R, rstkL z r st, ralL yl r L, wld b2 a s l, mir b3 r z yl] ∧ (i ≤ L.length)) (fun i => L.length - i) (0) ⟨rfl, rfl, rfl, rfl, trivial⟩ ⟨hO.only [.o a, .o s, .o l, .o r, .o z, .o yl, .b b2, .b b3], Nat.zero_le _⟩ ?_)))))))))))))))
   rintro i w m hm ⟨hO, hi⟩
   refine K0 (K0 ?_)
   obtain ⟨q, d, hq, hld, hO⟩ := ralL_open (hO.ks [.o yl])
   refine K1 (V1 rfl rfl rfl (l_y rfl rfl (y_fldb (o' := 2) rfl) (l_y rfl rfl (D5 hO rfl) ?_)))
   refine V3 rfl rfl rfl rfl (l_y rfl rfl (y_fieldAddr rfl) (l_y rfl rfl (D5 hO rfl) ?_))
   refine l_y rfl rfl (y_lenL rfl) ?_
   refine Z0 (fun h14_7 => ?_) (fun h14_7 => ?_)
   ·have hO := ralL_shut (hO.ks [.b yl, .p q])
    refine K2 (K3 (L8 (K5 (K3 (K0 (K4 (K0 (K1 (l_y rfl rfl (y_fldb (o' := 2) rfl) (l_y rfl rfl (D5 hO rfl) ?_))))))))))
    refine V1 rfl rfl rfl (CK [.o l] hO rfl (fun k' hx hr hO' => aAt_spec (i := (i : Int)) (by omega) (hO := hO')) ?_)
    rintro _ _ w ⟨h5, rfl⟩ hO
    simp only [List.cons_append, List.nil_append] at hO
    obtain ⟨_, rfl⟩ := h5.resolve_left (fun h => by omega)
    refine V1 rfl rfl rfl (l_y rfl rfl (y_extract rfl rfl) (l_y rfl rfl (y_extract rfl rfl) (s_alloc (vs := [.int .i64 0, .int .i64 0, .string ⟨#[]⟩, .string ⟨#[]⟩, .string ⟨#[]⟩, .int .i64 0, .bool false, .int .i32 0, .bool false, .slice none 0 0]) hO rfl rfl rfl fun b12 w hO => ?_)))
    refine Y3 hO rfl rfl (fun w hO => ?_)
    refine V2 rfl rfl rfl (K2 (K3 (K0 ?_)))
    obtain ⟨q, d, hq, hld, hO⟩ := ralL_open (hO.ks [.o yl])
    refine da_region (by intro c a d v w h; cases d <;> exact h) ?_
    have hO := hO.drew
    refine da_phase _ [] (SO.ks [.b b12, .b b3, .b yl, .p q] hO) ?_
    refine dx_u 0 (by kernel_rfl) rfl rfl rfl (fun w => y_move rfl) ?_
    refine dx_y 1 (by kernel_rfl) rfl rfl rfl (fun w ⟨m, hw⟩ => D2) ?_
    refine dx_u 2 (by kernel_rfl) rfl rfl rfl (fun w => y_move rfl) ?_
    refine dx_u 3 (by kernel_rfl) rfl rfl rfl (fun w => y_fldb (o' := 0) rfl) ?_
    refine dx_y 4 (by kernel_rfl) rfl rfl rfl (fun w ⟨m, hw⟩ => D5 hw rfl) ?_
    refine dx_u 5 (by kernel_rfl) rfl rfl rfl (fun w => y_fldb (o' := 2) rfl) ?_
    refine dx_y 6 (by kernel_rfl) rfl rfl rfl (fun w ⟨m, hw⟩ => D5 hw rfl) ?_
    refine dx_u 7 (by kernel_rfl) rfl rfl rfl (fun w => y_nilCheck rfl rfl) ?_
    refine dx_u 8 (by kernel_rfl) rfl rfl rfl (fun w => y_fldb (o' := 1) rfl) ?_
    refine dx_y 9 (by kernel_rfl) rfl rfl rfl (fun w ⟨m, hw⟩ => D5 hw rfl) ?_
    refine dx_u 10 (by kernel_rfl) rfl rfl rfl (fun w => y_move rfl) ?_
    refine dx_u 11 (by kernel_rfl) rfl rfl rfl (fun w => y_idx rfl rfl) ?_
    refine dx_u 12 (by kernel_rfl) rfl rfl rfl (fun w => y_fld (j' := 0) rfl) ?_
    refine dx_y 13 (by kernel_rfl) rfl rfl rfl (fun w ⟨m, hw⟩ => y_e1 (x0 := 0) hw rfl) ?_
    refine dx_y 14 (by kernel_rfl) rfl rfl rfl (fun w ⟨m, hw⟩ => D2 (hp := rfl)) ?_
    refine dx_u 15 (by kernel_rfl) rfl rfl rfl (fun w => y_pick_f rfl rfl) ?_
    refine dx_end (by kernel_rfl) ?_
    refine K3 (L9 (K5 (K8 (K3 (K1 (V1 rfl rfl rfl (l_y rfl rfl (D4) ?_)))))))
    refine V2 rfl rfl rfl (K2 ?_)
    have hO := ralL_shut (hO.ks [.b yl, .p q])
    exact q_next (i + 1) ⟨rfl, rfl, rfl, rfl, trivial⟩ ⟨hO.only [.o a, .o s, .o l, .o r, .o z, .o yl, .b b2, .b b3], by omega⟩ (by omega)
   ·have hO := ralL_shut (hO.ks [.b yl, .p q])
    refine K2 (K3 (L9 (K7 (L1 (L1 (L2 (K3 (K0 ?_))))))))
    obtain ⟨p, c, F, hg, hF, hO⟩ := rarL_open (hO.ks [.o r])
    obtain ⟨q, d, hq, hld, hO⟩ := rstkL_open (hO.ks [.o z])
    obtain ⟨q3, d3, hq3, hld3, hO⟩ := ralL_open (hO.ks [.o yl])
    refine da_region (by intro c a d v w h; cases d <;> exact h) ?_
    have hO := hO.drew
    refine da_phase _ [] (SO.ks [.b b2, .b b3, .b r, .b z, .b yl] hO) ?_
    refine dx_u 0 (by kernel_rfl) rfl rfl rfl (fun w => y_fldb (o' := 0) rfl) ?_
    refine dx_y 1 (by kernel_rfl) rfl rfl rfl (fun w ⟨m, hw⟩ => D5 hw rfl) ?_
    refine dx_u 3 (by kernel_rfl) rfl rfl rfl (fun w => y_fldb (o' := 0) rfl) ?_
    refine dx_y 4 (by kernel_rfl) rfl rfl rfl (fun w ⟨m, hw⟩ => D5 hw rfl) ?_
    refine dx_u 5 (by kernel_rfl) rfl rfl rfl (fun w => y_nilCheck rfl rfl) ?_
    refine dx_u 6 (by kernel_rfl) rfl rfl rfl (fun w => y_fldb (o' := 0) rfl) ?_
    refine dx_y 7 (by kernel_rfl) rfl rfl rfl (fun w ⟨m, hw⟩ => D5 hw rfl) ?_
    refine dx_u 8 (by kernel_rfl) rfl rfl rfl (fun w => y_lenL rfl) ?_
    refine dx_only 2 (by kernel_rfl) rfl rfl ?_
    refine CK [.o a] hO rfl (fun k' hx hr hO' => LenC_spec hpos (hO := hO')) ?_
    rintro _ _ w ⟨rfl, rfl⟩ hO
    simp only [List.cons_append, List.nil_append] at hO
    refine o_done (⟨SO.ks [.b b2, .b b3, .b r, .b z, .b yl] hO, ?_⟩)
    refine dx_y 9 (by kernel_rfl) rfl rfl rfl (fun w ⟨m, hw⟩ => D0 (hp := (by omega))) ?_
    refine dx_u 10 (by kernel_rfl) rfl rfl rfl (fun w => y_move rfl) ?_
    refine dx_u 11 (by kernel_rfl) rfl rfl rfl (fun w => y_fldb (o' := 1) rfl) ?_
    refine dx_y 12 (by kernel_rfl) rfl rfl rfl (fun w ⟨m, hw⟩ => D5 hw rfl) ?_
    refine dx_u 14 (by kernel_rfl) rfl rfl rfl (fun w => y_fldb (o' := 1) rfl) ?_
    refine dx_y 15 (by kernel_rfl) rfl rfl rfl (fun w ⟨m, hw⟩ => D5 hw rfl) ?_
    refine dx_u 16 (by kernel_rfl) rfl rfl rfl (fun w => y_nilCheck rfl rfl) ?_
    refine dx_u 17 (by kernel_rfl) rfl rfl rfl (fun w => y_fldb (o' := 1) rfl) ?_
    refine dx_y 18 (by kernel_rfl) rfl rfl rfl (fun w ⟨m, hw⟩ => D5 hw rfl) ?_
    refine dx_u 19 (by kernel_rfl) rfl rfl rfl (fun w => y_lenL rfl) ?_
    refine dx_only 13 (by kernel_rfl) rfl rfl ?_
    refine CK [.o s] hO rfl (fun k' hx hr hO' => sLenC_spec (hO := hO')) ?_
    rintro _ _ w ⟨rfl, rfl⟩ hO
    simp only [List.cons_append, List.nil_append] at hO
    refine o_done (⟨SO.ks [.b b2, .b b3, .b r, .b z, .b yl] hO, ?_⟩)
    refine dx_y 20 (by kernel_rfl) rfl rfl rfl (fun w ⟨m, hw⟩ => D0 (hp := rfl)) ?_
    refine dx_u 21 (by kernel_rfl) rfl rfl rfl (fun w => y_pick_t rfl rfl) ?_
    refine dx_u 22 (by kernel_rfl) rfl rfl rfl (fun w => y_move rfl) ?_
    refine dx_u 23 (by kernel_rfl) rfl rfl rfl (fun w => y_fldb (o' := 2) rfl) ?_
    refine dx_y 24 (by kernel_rfl) rfl rfl rfl (fun w ⟨m, hw⟩ => D5 hw rfl) ?_
    refine dx_u 26 (by kernel_rfl) rfl rfl rfl (fun w => y_fldb (o' := 2) rfl) ?_
    refine dx_y 27 (by kernel_rfl) rfl rfl rfl (fun w ⟨m, hw⟩ => D5 hw rfl) ?_
    refine dx_u 28 (by kernel_rfl) rfl rfl rfl (fun w => y_nilCheck rfl rfl) ?_
    refine dx_u 29 (by kernel_rfl) rfl rfl rfl (fun w => y_fldb (o' := 1) rfl) ?_
    refine dx_y 30 (by kernel_rfl) rfl rfl rfl (fun w ⟨m, hw⟩ => D5 hw rfl) ?_
    refine dx_u 31 (by kernel_rfl) rfl rfl rfl (fun w => y_lenL rfl) ?_
    refine dx_only 25 (by kernel_rfl) rfl rfl ?_
    refine CK [.o l] hO rfl (fun k' hx hr hO' => aLen_spec (hO := hO')) ?_
    rintro _ _ w ⟨rfl, rfl⟩ hO
    simp only [List.cons_append, List.nil_append] at hO
    refine o_done (⟨SO.ks [.b b2, .b b3, .b r, .b z, .b yl] hO, ?_⟩)
    refine dx_y 32 (by kernel_rfl) rfl rfl rfl (fun w ⟨m, hw⟩ => D0 (hp := rfl)) ?_
    refine dx_u 33 (by kernel_rfl) rfl rfl rfl (fun w => y_pick_t rfl rfl) ?_
    refine dx_u 34 (by kernel_rfl) rfl rfl rfl (fun w => y_assign rfl) ?_
    refine dx_end (by kernel_rfl) ?_
    refine K3 (K6 ?_)
    exact fin1 rfl rfl ⟨_, ⟨rfl, rfl⟩, (rarL_shut hF ((rstkL_shut ((ralL_shut (hO.ks [.b yl, .p q3])).ks [.b z, .p q])).ks [.b r, .p p, .f])).ks [.o a, .o s, .o l, .o r, .o z, .o yl] |>.only [.o a, .o s, .o l, .o r, .o z, .o yl]⟩
set_option maxHeartbeats 4000000 in
theorem AdoptRuns_spec {lp np : Option Addr} {lc nc : Nat} {acts : List Law15_act} {nms : List ByteArray} {fo : Bool} (hs : Sli (Ro k) (.slice lp acts.length lc) (acts.map Law15_act.cells)) (hsn : Sli (Ro k) (.slice np nms.length nc) (nms.map eS)) (hO : Own k w []) :
    Tri Tryz.prog 4 #[.slice lp acts.length lc, .slice np nms.length nc, .bool fo] k w fun v m => v = .bool true := by
  refine enter (args := [.slice lp acts.length lc, .slice np nms.length nc, .bool fo]) Tryz.func4 rfl rfl ?_
  have hgn := sli_gs hsn
  refine K0 (K1 (V2 rfl rfl rfl (K2 (K3 (K0 (K1 (V1 rfl rfl rfl (CK [] hO rfl (fun k' hx hr hO' => build_spec (hs.ext hO hx) (hO := hO')) ?_))))))))
  rintro _ _ w ⟨a, s, l, r, z, yl, A, K, R, st, L, rfl, rfl, t, hB⟩ hO
  simp only [List.cons_append, List.nil_append] at hO
  have hn9 : (acts.take 100).length ≤ 100 := by simp; omega
  have hR0 := hB.inv k (by omega)
  have hA0 : A.length ≤ 201 := Nat.le_trans hR0.len (by omega)
  have hL0 : L.length ≤ 200 := Nat.le_trans hR0.ll (by omega)
  have hR : RsI (201 + 64 * 0) 200 ⟨A, st, L, 0⟩ := ⟨hR0.ai, hR0.si, hR0.li, hA0, hL0⟩
  refine V1 rfl rfl rfl (l_y rfl rfl (y_extract rfl rfl) (l_y rfl rfl (y_extract rfl rfl) (s_alloc (vs := [.pointer none, .pointer none, .pointer none]) hO rfl rfl rfl fun b7 w hO => ?_)))
  refine s_alloc (vs := [.pointer none, .pointer none, .pointer none]) hO rfl rfl rfl fun b8 w hO => ?_
  refine Y3 hO rfl rfl (fun w hO => ?_)
  refine Y3 hO rfl rfl (fun w hO => ?_)
  refine K2 (K3 (K0 (K0 (K1 (l_y rfl rfl (y_fldb (o' := 0) rfl) (l_y rfl rfl (D5 hO rfl) ?_))))))
  refine l_y rfl rfl (y_eqPnil rfl rfl rfl) (V1 rfl rfl rfl (l_y rfl rfl (y_fldb (o' := 1) rfl) (l_y rfl rfl (D5 hO rfl) ?_)))
  refine l_y rfl rfl (y_eqPnil rfl rfl rfl) (l_y rfl rfl (y_pick_f rfl rfl) (V1 rfl rfl rfl (l_y rfl rfl (y_fldb (o' := 2) rfl) (l_y rfl rfl (D5 hO rfl) ?_))))
  refine l_y rfl rfl (y_eqPnil rfl rfl rfl) (l_y rfl rfl (y_pick_f rfl rfl) (K2 (K3 (L9 (K5 (K3 (K0 (K0 (K1 (V2 rfl rfl rfl (K2 (K3 (K4 (c_rounds (X := Rx) (fun x => [(1, .slice np nms.length nc), (2, .bool fo), (6, .bool false), (7, .pointer (some ⟨b7, 0, none⟩)), (8, .pointer (some ⟨b8, 0, none⟩)), (9, .int .i64 (x.i : Int))]) (fun x w => Own k w [arenaL a x.s.A, stkL s a x.s.st, actL l a x.s.L, rarL r x.R, rstkL z r x.s.st, ralL yl r x.s.L, wld b7 a s l, mir b8 r z yl] ∧ (x.i ≤ nms.length ∧ x.i ≤ 20) ∧ (RsI (201 + 64 * x.i) 200 ⟨x.s.A, x.s.st, x.s.L, 0⟩) ∧ (Two x.s.A x.K x.R)) (fun x => 20 - x.i) (⟨0, ⟨A, st, L, 0⟩, K, R⟩) ⟨rfl, rfl, rfl, rfl, rfl, rfl, trivial⟩ ⟨hO.only [.o a, .o s, .o l, .o r, .o z, .o yl, .b b7, .b b8], ⟨Nat.zero_le _, Nat.zero_le _⟩, hR, t⟩ ?_))))))))))))))
  rintro x w m hm ⟨hO, hi, hRx, tx⟩
  refine K0 (K0 (K1 (V1 rfl rfl rfl (V1 rfl rfl rfl (l_y rfl rfl (y_lenL rfl) ?_)))))
  refine Z0 (fun h5_3 => ?_) (fun h5_3 => ?_)
  · refine V1 rfl rfl rfl (V1 rfl rfl rfl ?_)
    refine Z0 (fun h5_6 => ?_) (fun h5_6 => ?_)
    · refine l_y rfl rfl (y_pick_t rfl rfl) (K2 (K3 (L8 (K5 (K3 (K0 (K4 (K0 (da_region (by intro c a d v w h; cases d <;> exact h) ?_)))))))))
      have hO := hO.drew
      refine da_phase _ [11] (SO.ks [.b b7] hO) ?_
      refine dx_u 0 (by kernel_rfl) rfl rfl rfl (fun w => y_fldb (o' := 0) rfl) ?_
      refine dx_y 1 (by kernel_rfl) rfl rfl rfl (fun w ⟨m, hw⟩ => D5 hw rfl) ?_
      refine dx_u 2 (by kernel_rfl) rfl rfl rfl (fun w => y_fldb (o' := 1) rfl) ?_
      refine dx_y 3 (by kernel_rfl) rfl rfl rfl (fun w ⟨m, hw⟩ => D5 hw rfl) ?_
      refine dx_u 4 (by kernel_rfl) rfl rfl rfl (fun w => y_fldb (o' := 2) rfl) ?_
      refine dx_y 5 (by kernel_rfl) rfl rfl rfl (fun w ⟨m, hw⟩ => D5 hw rfl) ?_
      refine dx_u 6 (by kernel_rfl) rfl rfl rfl (fun w => y_move rfl) ?_
      refine dx_u 7 (by kernel_rfl) rfl rfl rfl (fun w => y_move rfl) ?_
      refine dx_u 8 (by kernel_rfl) rfl rfl rfl (fun w => y_idx rfl rfl) ?_
      refine dx_y 9 (by kernel_rfl) rfl rfl rfl (fun w ⟨m, hw⟩ => y_r1 (x0 := 0) (enc := eS) (xs := nms) hw rfl) ?_
      refine dx_u 10 (by kernel_rfl) rfl rfl rfl (fun w => y_move rfl) ?_
      refine dx_close 11 (by kernel_rfl) rfl rfl ?_
      refine CK [.o a, .o s, .o l] hO rfl (fun k' hx hr hO' => run_spec (fo := fo) hRx (by omega) (by decide) (hO := hO')) ?_
      rintro _ _ w ⟨o, y9, hrun, rfl, rfl⟩ hO
      simp only [List.cons_append, List.nil_append] at hO
      obtain ⟨h9, hu1, hu2⟩ := hrun.keep k hRx (by omega)
      have hsl9 : y9.st.length ≤ 1000000 := Nat.le_trans h9.si.len (Nat.le_trans h9.len (by omega))
      have hLl9 : y9.L.length ≤ 1000000 := Nat.le_trans h9.ll (by decide)
      refine o_done (da_phase _ [] (SO.ks [] hO) ?_)
      refine dx_u 12 (by kernel_rfl) rfl rfl rfl (fun w => y_move rfl) ?_
      refine dx_u 13 (by kernel_rfl) rfl rfl rfl (fun w => y_extract rfl rfl) ?_
      refine dx_u 14 (by kernel_rfl) rfl rfl rfl (fun w => y_extract rfl rfl) ?_
      refine dx_u 15 (by kernel_rfl) rfl rfl rfl (fun w => y_extract rfl rfl) ?_
      refine dx_u 16 (by kernel_rfl) rfl rfl rfl (fun w => y_assign rfl) ?_
      refine dx_u 17 (by kernel_rfl) rfl rfl rfl (fun w => y_assign rfl) ?_
      refine dx_u 18 (by kernel_rfl) rfl rfl rfl (fun w => y_assign rfl) ?_
      refine dx_end (by kernel_rfl) ?_
      refine K3 (K0 (da_region (by intro c a d v w h; cases d <;> exact h) ?_))
      have hO := hO.drew
      refine da_phase _ [11] (SO.ks [.b b8] hO) ?_
      refine dx_u 0 (by kernel_rfl) rfl rfl rfl (fun w => y_fldb (o' := 0) rfl) ?_
      refine dx_y 1 (by kernel_rfl) rfl rfl rfl (fun w ⟨m, hw⟩ => D5 hw rfl) ?_
      refine dx_u 2 (by kernel_rfl) rfl rfl rfl (fun w => y_fldb (o' := 1) rfl) ?_
      refine dx_y 3 (by kernel_rfl) rfl rfl rfl (fun w ⟨m, hw⟩ => D5 hw rfl) ?_
      refine dx_u 4 (by kernel_rfl) rfl rfl rfl (fun w => y_fldb (o' := 2) rfl) ?_
      refine dx_y 5 (by kernel_rfl) rfl rfl rfl (fun w ⟨m, hw⟩ => D5 hw rfl) ?_
      refine dx_u 6 (by kernel_rfl) rfl rfl rfl (fun w => y_move rfl) ?_
      refine dx_u 7 (by kernel_rfl) rfl rfl rfl (fun w => y_move rfl) ?_
      refine dx_u 8 (by kernel_rfl) rfl rfl rfl (fun w => y_idx rfl rfl) ?_
      refine dx_y 9 (by kernel_rfl) rfl rfl rfl (fun w ⟨m, hw⟩ => y_r1 (x0 := 0) (enc := eS) (xs := nms) hw rfl) ?_
      refine dx_u 10 (by kernel_rfl) rfl rfl rfl (fun w => y_move rfl) ?_
      refine dx_close 11 (by kernel_rfl) rfl rfl ?_
      refine CK [.o r, .o z, .o yl] hO rfl (fun k' hx hr hO' => rRun_spec hRx (by omega) (by decide) tx hrun (hO := hO')) ?_
      rintro _ _ w ⟨rfl, K9', R9', t9, rfl⟩ hO
      simp only [List.cons_append, List.nil_append] at hO
      refine o_done (da_phase _ [] (SO.ks [] hO) ?_)
      refine dx_u 12 (by kernel_rfl) rfl rfl rfl (fun w => y_move rfl) ?_
      refine dx_u 13 (by kernel_rfl) rfl rfl rfl (fun w => y_extract rfl rfl) ?_
      refine dx_u 14 (by kernel_rfl) rfl rfl rfl (fun w => y_extract rfl rfl) ?_
      refine dx_u 15 (by kernel_rfl) rfl rfl rfl (fun w => y_extract rfl rfl) ?_
      refine dx_u 16 (by kernel_rfl) rfl rfl rfl (fun w => y_assign rfl) ?_
      refine dx_u 17 (by kernel_rfl) rfl rfl rfl (fun w => y_assign rfl) ?_
      refine dx_u 18 (by kernel_rfl) rfl rfl rfl (fun w => y_assign rfl) ?_
      refine dx_end (by kernel_rfl) ?_
      refine K3 (K0 (K1 (V1 rfl rfl rfl (V1 rfl rfl rfl (l_y (v := .bool false) rfl rfl (y_neB (a := o) (b := o) (c := false) rfl rfl (by simp)) (V1 rfl rfl rfl (V1 rfl rfl rfl (V1 rfl rfl rfl (N4 (hp := rfl) (l_y rfl rfl (y_pick_f rfl rfl) (V1 rfl rfl rfl (V1 rfl rfl rfl (V1 rfl rfl rfl (N4 (l_y rfl rfl (y_pick_f rfl rfl) (V1 rfl rfl rfl (l_y rfl rfl (D8 (cs := [.pointer (some ⟨a, 0, none⟩), .pointer (some ⟨s, 0, none⟩), .pointer (some ⟨l, 0, none⟩)]) hO rfl) ?_)))))))))))))))))
      refine l_y rfl rfl (D8 (cs := [.pointer (some ⟨r, 0, none⟩), .pointer (some ⟨z, 0, none⟩), .pointer (some ⟨yl, 0, none⟩)]) hO rfl) ?_
      refine CK [.o a, .o s, .o l, .o r, .o z, .o yl] hO rfl (fun k' hx hr hO' => same15_spec t9 hsl9 hLl9 (hO := hO')) ?_
      rintro _ _ w ⟨rfl, rfl⟩ hO
      simp only [List.cons_append, List.nil_append] at hO
      refine l_y rfl rfl (y_not rfl rfl) (l_y rfl rfl (y_pick_f rfl rfl) (K2 (K3 (L9 (K5 (K8 (K3 (K1 (V1 rfl rfl rfl (l_y rfl rfl (D4) ?_))))))))))
      refine V2 rfl rfl rfl (K2 ?_)
      exact q_next ((⟨x.i + 1, y9, K9', R9'⟩ : Rx)) ⟨rfl, rfl, rfl, rfl, rfl, rfl, trivial⟩ ⟨hO.only [.o a, .o s, .o l, .o r, .o z, .o yl, .b b7, .b b8], ⟨by dsimp only; omega, by dsimp only; omega⟩, (by have h8 := h9.errs 0; dsimp only; rw [show 201 + 64 * (x.i + 1) = 201 + 64 * x.i + 64 by omega]; exact h8), t9⟩ (by dsimp only; omega)
    · refine l_y rfl rfl (y_pick_t rfl rfl) (K2 (K3 (L9 (K7 (L1 (L1 (L2 (K3 (K0 (K1 (CK [] hO rfl (fun k' hx hr hO' => awake15_spec (hO := hO')) ?_)))))))))))
      rintro _ _ w ⟨rfl, rfl⟩ hO
      simp only [List.cons_append, List.nil_append] at hO
      refine V2 rfl rfl rfl (K2 (K3 (K6 ?_)))
      exact fin1 rfl rfl ⟨_, rfl, hO⟩
  · refine V1 rfl rfl rfl ?_
    repeat refine M2 ?_
    refine l_y rfl rfl (y_pick_f rfl rfl) (K2 (K3 (L9 (K7 (L1 (L1 (L2 (K3 (K0 (K1 (CK [] hO rfl (fun k' hx hr hO' => awake15_spec (hO := hO')) ?_)))))))))))
    rintro _ _ w ⟨rfl, rfl⟩ hO
    simp only [List.cons_append, List.nil_append] at hO
    refine V2 rfl rfl rfl (K2 (K3 (K6 ?_)))
    exact fin1 rfl rfl ⟨_, rfl, hO⟩
end
end Go.Proofs.YtoohapbaelmkcaaGreat
end
