/- The walk of the answer's Copy beside the program's; no condition. -/
import Derived.Test.YtnolpajggmfpdaaCopy1
set_option linter.unusedVariables false
set_option linter.unusedSimpArgs false
set_option maxRecDepth 100000
namespace Go.Proofs.Ytnolpajggmfpdaa
open Go Go.Hb Go.RowKit
theorem Sim1.ptrs {a : Node_one} {ks : List Int} {o : Ref01_one} (s : Sim1 a ks o) (p q : Option Addr) (c d : Nat) : Sim1 a ks { o with AttrsP := p, AttrsC := c, KidsP := q, KidsC := d } := ⟨s.kind, s.space, s.name, s.attrs, s.data, s.system, s.inner, s.host, s.up, s.kids⟩
set_option maxHeartbeats 4000000 in
theorem rCopy_spec {k : Ctx} {w : World} {r : Nat} {A : List Node_one} {K : Int → List Int} {R : List Ref01_one} (t : Two A K R) (hO : Own k w [rarL r R]) :
    Tri Try.prog 31 #[.pointer (some ⟨r, 0, none⟩)] k w fun v m => ∃ b B, v = .pointer (some ⟨b, 0, none⟩) ∧ Sim A K B ∧ m = [rarL r R, rarL b B] := by
  refine enter (args := [.pointer (some ⟨r, 0, none⟩)]) Try.func31 rfl rfl ?_
  have hl := t.sim.len
  have hmx := t.max
  refine K0 (K1 ?_)
  refine l_y rfl rfl (y_assign rfl) ?_
  refine K2 (K3 (K0 (K1 ?_)))
  refine s_build (parts := []) (cs := [.slice none 0 0]) rfl rfl (fun a ha => partsOf_sound ha _ _ rfl) (by kernel_rfl) ?_
  refine s_box (vs := [.slice none 0 0]) hO rfl rfl rfl (by rfl) fun b7 w hO => ?_
  refine l_y rfl rfl (y_assign rfl) ?_
  refine K2 (K3 (K0 (K0 ?_)))
  have hO : Own k w (sls none 0 79 10 Ref01_one.cells ([] : List Ref01_one) :: _) := sl_nil 79 10 hO
  have hO := hO.pool0
  have hO := rarL_shut (R := []) (fun o ho => absurd ho (by simp)) (hO.ks [.b b7, .p none, .f])
  refine K1 ?_
  refine l_y rfl rfl (y_assign rfl) ?_
  refine K2 (K3 (K4 ?_))
  refine c_rounds (X := Nat × List Ref01_one) (fun x => [(0, .pointer (some ⟨r, 0, none⟩)), (2, .pointer none), (3, .pointer (some ⟨b7, 0, none⟩)), (4, .int .i64 (x.1 : Int))]) (fun x w => Own k w [rarL r R, rarL b7 x.2] ∧ (x.1 ≤ R.length ∧ x.2.length = x.1) ∧ (∀ j : Nat, j < x.1 → Sim1 (at_ A j) (K (j : Int)) (at_ x.2 j))) (fun x => R.length - x.1) ((0, [])) ⟨rfl, rfl, rfl, rfl, trivial⟩ ⟨hO.only [.o r, .o b7], ⟨Nat.zero_le _, rfl⟩, fun j hj => absurd hj (Nat.not_lt_zero j)⟩ ?_
  rintro x w m hm ⟨hO, hx, hh⟩
  refine K0 (K0 ?_)
  obtain ⟨p, c, F, hg, hF, hO⟩ := rarL_open (hO.ks [.o r])
  refine K1 ?_
  refine l_y rfl rfl (y_move rfl) ?_
  refine l_y rfl rfl (y_move rfl) ?_
  refine l_y rfl rfl (y_nilCheck rfl rfl) ?_
  refine l_y rfl rfl (y_fldb (o' := 0) rfl) ?_
  refine l_y rfl rfl (D5 hO rfl) ?_
  refine l_y rfl rfl (y_lenL rfl) ?_
  refine Z0 (fun h3_6 => ?_) (fun h3_6 => ?_)
  · refine K2 (K3 (L8 (K5 (K3 (K0 (K4 (K0 ?_)))))))
    have hiA : InA A (x.1 : Int) := ⟨by omega, by omega⟩
    have s1 := t.sim.one (x.1 : Int) hiA
    have hkl := t.tree.len hiA
    rw [← s1.kids] at hkl
    have hal : (at_ R ((x.1 : Int)).toNat).Attrs.length ≤ 1024 := by rw [s1.attrs]; exact t.tree.attrs _ (by have h1 := hiA.2; omega)
    have hat := (hF.atR (i := ((x.1 : Int)).toNat) (by omega)).attrs
    have hkids := (hF.atR (i := ((x.1 : Int)).toNat) (by omega)).kids
    refine K1 ?_
    refine l_y rfl rfl (y_move rfl) ?_
    refine l_y rfl rfl (y_nilCheck rfl rfl) ?_
    refine l_y rfl rfl (y_fldb (o' := 0) rfl) ?_
    refine l_y rfl rfl (D5 hO rfl) ?_
    refine l_y rfl rfl (y_move rfl) ?_
    refine l_y rfl rfl (y_idx rfl rfl) ?_
    refine l_y rfl rfl (y_eA (x0 := 0) (cs := [.int .i64 (at_ R ((x.1 : Int) : Int).toNat).Kind, .int .i64 (at_ R ((x.1 : Int) : Int).toNat).Space, .string (at_ R ((x.1 : Int) : Int).toNat).Name, .slice (at_ R ((x.1 : Int) : Int).toNat).AttrsP (at_ R ((x.1 : Int) : Int).toNat).Attrs.length (at_ R ((x.1 : Int) : Int).toNat).AttrsC, .string (at_ R ((x.1 : Int) : Int).toNat).Data, .string (at_ R ((x.1 : Int) : Int).toNat).System, .int .i64 (at_ R ((x.1 : Int) : Int).toNat).Inner, .int .i64 (at_ R ((x.1 : Int) : Int).toNat).Host, .int .i64 (at_ R ((x.1 : Int) : Int).toNat).Up, .slice (at_ R ((x.1 : Int) : Int).toNat).KidsP (at_ R ((x.1 : Int) : Int).toNat).Kids.length (at_ R ((x.1 : Int) : Int).toNat).KidsC]) hO rfl) ?_
    refine s_alloc (vs := [.int .i64 0, .int .i64 0, .string ⟨#[]⟩, .slice none 0 0, .string ⟨#[]⟩, .string ⟨#[]⟩, .int .i64 0, .int .i64 0, .int .i64 0, .slice none 0 0]) hO rfl rfl rfl fun b5 w hO => ?_
    refine Y3 hO rfl rfl (fun w hO => ?_)
    refine K2 (K3 (K0 (K1 ?_)))
    refine s_lit0 (eI .i64) hO (fun b24 w hO => ?_)
    refine l_y rfl rfl (y_fldb (o' := 9) rfl) ?_
    refine l_y rfl rfl (D5 hO rfl) ?_
    refine s_app0 hO rfl rfl (src_pool hO (by assumption)) (fun p27 c27 w hO gs27 => ?_)
    refine l_y rfl rfl (y_fldb (o' := 9) rfl) ?_
    refine Y1 hO rfl rfl (fun w hO => ?_)
    simp only [List.set_cons_zero, List.set_cons_succ] at hO
    refine K2 (K3 (K0 (K1 ?_)))
    refine s_lit0 Api_attr.cells hO (fun b29 w hO => ?_)
    refine l_y rfl rfl (y_fldb (o' := 3) rfl) ?_
    refine l_y rfl rfl (D5 hO rfl) ?_
    refine s_app0 hO rfl rfl (src_pool hO (by assumption)) (fun p32 c32 w hO gs32 => ?_)
    refine l_y rfl rfl (y_fldb (o' := 3) rfl) ?_
    refine Y1 hO rfl rfl (fun w hO => ?_)
    simp only [List.set_cons_zero, List.set_cons_succ] at hO
    refine K2 (K3 ?_)
    have hO := rarL_shut hF (hO.ks [.b r, .p p, .f])
    obtain ⟨p2, c2, F2, hg2, hF2, hO⟩ := rarL_open (hO.ks [.o b7])
    obtain ⟨F3, hle3, hO, hsa3⟩ := (hO.ks [.p p27, .f]).pooled
    obtain ⟨F4, hle4, hO, hsa4⟩ := (hO.ks [.p p32, .f]).pooled
    refine da_region (by intro c a d v w h; cases d <;> exact h) ?_
    have hO := hO.drew
    refine da_phase _ [7] (SO.ks [.b b7, .b b5] hO) ?_
    refine dx_u 0 (by kernel_rfl) rfl rfl rfl (fun w => y_move rfl) ?_
    refine dx_u 1 (by kernel_rfl) rfl rfl rfl (fun w => y_move rfl) ?_
    refine dx_u 2 (by kernel_rfl) rfl rfl rfl (fun w => y_nilCheck rfl rfl) ?_
    refine dx_u 3 (by kernel_rfl) rfl rfl rfl (fun w => y_fldb (o' := 0) rfl) ?_
    refine dx_y 4 (by kernel_rfl) rfl rfl rfl (fun w ⟨m, hw⟩ => D5 hw rfl) ?_
    refine dx_y 5 (by kernel_rfl) rfl rfl rfl (fun w ⟨m, hw⟩ => D8 (cs := [.int .i64 (at_ R ((x.1 : Int) : Int).toNat).Kind, .int .i64 (at_ R ((x.1 : Int) : Int).toNat).Space, .string (at_ R ((x.1 : Int) : Int).toNat).Name, .slice p32 (at_ R ((x.1 : Int)).toNat).Attrs.length c32, .string (at_ R ((x.1 : Int) : Int).toNat).Data, .string (at_ R ((x.1 : Int) : Int).toNat).System, .int .i64 (at_ R ((x.1 : Int) : Int).toNat).Inner, .int .i64 (at_ R ((x.1 : Int) : Int).toNat).Host, .int .i64 (at_ R ((x.1 : Int) : Int).toNat).Up, .slice p27 (at_ R ((x.1 : Int)).toNat).Kids.length c27]) hw rfl) ?_
    refine dx_only 6 (by kernel_rfl) rfl rfl ?_
    refine s_lit (parts := [(0, .tmp 39)]) (enc := Ref01_one.cells) [⟨(at_ R ((x.1 : Int) : Int).toNat).Kind, (at_ R ((x.1 : Int) : Int).toNat).Space, (at_ R ((x.1 : Int) : Int).toNat).Name, p32, (at_ R ((x.1 : Int)).toNat).Attrs, c32, (at_ R ((x.1 : Int) : Int).toNat).Data, (at_ R ((x.1 : Int) : Int).toNat).System, (at_ R ((x.1 : Int) : Int).toNat).Inner, (at_ R ((x.1 : Int) : Int).toNat).Host, (at_ R ((x.1 : Int) : Int).toNat).Up, p27, (at_ R ((x.1 : Int)).toNat).Kids, c27⟩] [.agg [.int .i64 (at_ R ((x.1 : Int) : Int).toNat).Kind, .int .i64 (at_ R ((x.1 : Int) : Int).toNat).Space, .string (at_ R ((x.1 : Int) : Int).toNat).Name, .slice p32 (at_ R ((x.1 : Int)).toNat).Attrs.length c32, .string (at_ R ((x.1 : Int) : Int).toNat).Data, .string (at_ R ((x.1 : Int) : Int).toNat).System, .int .i64 (at_ R ((x.1 : Int) : Int).toNat).Inner, .int .i64 (at_ R ((x.1 : Int) : Int).toNat).Host, .int .i64 (at_ R ((x.1 : Int) : Int).toNat).Up, .slice p27 (at_ R ((x.1 : Int)).toNat).Kids.length c27].toArray] hO rfl (fun b40 w hO => ?_)
    refine o_done ?_
    refine ⟨SO.ks [.b b7, .b b5] hO, ?_⟩
    refine dx_close 7 (by kernel_rfl) rfl rfl ?_
    refine s_app hO rfl rfl (src_own hO) (fun p41 c41 w hO gs41 => ?_)
    refine o_done ?_
    refine da_phase _ [10] (SO.ks [] hO) ?_
    refine dx_u 8 (by kernel_rfl) rfl rfl rfl (fun w => y_nilCheck rfl rfl) ?_
    refine dx_u 9 (by kernel_rfl) rfl rfl rfl (fun w => y_fldb (o' := 0) rfl) ?_
    refine dx_close 10 (by kernel_rfl) rfl rfl ?_
    refine Y1 hO rfl rfl (fun w hO => ?_)
    simp only [List.set_cons_zero, List.set_cons_succ] at hO
    refine o_done ?_
    refine da_end (by kernel_rfl) ?_
    refine K8 (K3 (K1 ?_))
    refine l_y rfl rfl (y_move rfl) ?_
    refine l_y rfl rfl (D4) ?_
    refine l_y rfl rfl (y_assign rfl) ?_
    refine K2 ?_
    have hO := rarL_shut ((hF2.le (hle3.trans hle4)).app ⟨hsa4, hsa3.le hle4⟩) (hO.ks [.b b7, .p p41, .f])
    exact q_next ((x.1 + 1, _)) ⟨rfl, rfl, rfl, rfl, trivial⟩ ⟨hO.only [.o r, .o b7], ⟨by dsimp only; omega, by dsimp only; rw [List.length_append, hx.2]; rfl⟩, fun j hj => (by dsimp only at hj ⊢; by_cases e : j < x.1; (rw [at_app_l (by omega)]; exact hh j e); (have e2 : j = x.2.length := by omega); subst e2; rw [at_app_new]; rw [hx.2]; exact (t.sim.one (x.1 : Int) ⟨by omega, by omega⟩).ptrs _ _ _ _)⟩ (by dsimp only; omega)
  · refine K2 (K3 (L9 (K7 (L1 (L1 (L2 (K3 (K0 ?_))))))))
    have hO := rarL_shut hF (hO.ks [.b r, .p p, .f])
    have hxe : x.1 = R.length := by omega
    refine K1 ?_
    refine l_y rfl rfl (y_move rfl) ?_
    refine l_y rfl rfl (y_assign rfl) ?_
    refine K2 (K3 (K6 ?_))
    exact fin1 rfl rfl ⟨_, ⟨b7, x.2, rfl, ⟨by rw [hx.2, hxe, hl], fun y hy => by have h0 := hy.1; have h1 := hy.2; have h2 := hh y.toNat (by omega); rw [show ((y.toNat : Nat) : Int) = y by omega] at h2; exact h2⟩, rfl⟩, hO.ks [.o r, .o b7]⟩
theorem Tree.moved {A B : List Node_one} {K : Int → List Int} (t : Tree A K) (hlen : B.length = A.length) (f1 : ∀ y : Int, InA A y → ∃ q d, at_ B y.toNat = setAttrs (at_ A y.toNat) q (at_ A y.toNat).Node.Attrs d) : Tree B K := by
  have hiA : ∀ {y}, InA B y → InA A y := fun h => h.len hlen.symm
  have g : ∀ y : Int, InA A y → (nodeA B y).Parent = (nodeA A y).Parent ∧ (nodeA B y).First = (nodeA A y).First ∧ (nodeA B y).Last = (nodeA A y).Last ∧ (nodeA B y).Prev = (nodeA A y).Prev ∧ (nodeA B y).Next = (nodeA A y).Next ∧ (nodeA B y).Kind = (nodeA A y).Kind ∧ (nodeA B y).Inner = (nodeA A y).Inner ∧ (at_ B y.toNat).host = (at_ A y.toNat).host ∧ (nodeA B y).Attrs = (nodeA A y).Attrs := fun y hy => by
    obtain ⟨_, _, e⟩ := f1 y hy
    rw [nodeA, e]; exact ⟨rfl, rfl, rfl, rfl, rfl, rfl, rfl, rfl, rfl⟩
  constructor
  · intro x hx
    have hX := t.lnk x (hiA hx)
    have gx := g x (hiA hx)
    refine ⟨by rw [gx.2.1]; exact hX.first, by rw [gx.2.2.1]; exact hX.last, fun pre y suf e => ?_⟩
    obtain ⟨g1, g2, g3, g4⟩ := hX.kid pre y suf e
    have gy := g y g1
    exact ⟨g1.len hlen, by rw [gy.1, g2], by rw [gy.2.2.2.1, g3], by rw [gy.2.2.2.2.1, g4]⟩
  · exact fun x hx => t.nodup x (hiA hx)
  · intro y hy hp
    rw [(g y (hiA hy)).1] at hp ⊢
    exact (t.up y (hiA hy) hp).imp (fun h => h.len hlen) fun h => h
  · intro y hy hp
    have gy := g y (hiA hy)
    rw [gy.1] at hp
    rw [gy.2.2.2.1, gy.2.2.2.2.1]
    exact t.free y (hiA hy) hp
  · intro y hy
    rw [(g y (hiA hy)).2.2.2.2.2.2.2.1]
    exact (t.host y (hiA hy)).imp (fun h => h) fun h => h.len hlen
  · intro y hy hk
    rw [(g y (hiA hy)).2.2.2.2.2.1] at hk
    rw [(g y (hiA hy)).2.2.2.2.2.2.2.1]
    exact t.hostK y (hiA hy) hk
  · intro y hy hp
    rw [(g y (hiA hy)).1] at hp
    rw [(g y (hiA hy)).2.2.2.2.2.1]
    exact t.upK y (hiA hy) hp
  · intro y hy
    rw [(g y (hiA hy)).2.2.2.2.2.2.1]
    exact (t.inner y (hiA hy)).imp (fun h => h) fun h => h.len hlen
  · obtain ⟨rk, hrk⟩ := t.rank
    refine ⟨rk, fun x hx => ?_⟩
    have hxA := hiA (inA_iff.1 hx)
    have gx := g x hxA
    have e1 := gx.1
    simp only [nodeA] at e1
    simp only [nextUp, e1, gx.2.2.2.2.2.2.2.1]
    exact (hrk x hxA.b).imp (fun h => h) fun h => ⟨((inA_iff.1 h.1).len hlen).b, h.2⟩
  · intro i hi
    have := (g (i : Int) ⟨by omega, by omega⟩).2.2.2.2.2.2.2.2
    simp only [nodeA, toNat_nat] at this
    rw [this]; exact t.attrs i (by omega)
theorem copied {A B : List Node_one} {K : Int → List Int} {R R2 : List Ref01_one} (t : Two A K R) (hl : B.length = A.length) (hc : CopyTo A B A.length) (s : Sim A K R2) : Two B K R2 := by
  have f1 : ∀ y : Int, InA A y → ∃ q d, at_ B y.toNat = setAttrs (at_ A y.toNat) q (at_ A y.toNat).Node.Attrs d := fun y hy => (hc y.toNat (by have := hy.1; have := hy.2; omega)).1 (by have := hy.1; have := hy.2; omega)
  refine ⟨t.tree.moved hl f1, ⟨by rw [s.len, hl], fun y hy => ?_⟩, by rw [hl]; exact t.pos, by rw [hl]; exact t.max⟩
  have hyA : InA A y := hy.len hl.symm
  obtain ⟨q, d, e⟩ := f1 y hyA
  have sy := s.one y hyA
  rw [e]
  exact ⟨sy.kind, sy.space, sy.name, sy.attrs, sy.data, sy.system, sy.inner, sy.host, sy.up, sy.kids⟩
set_option maxHeartbeats 2000000 in
theorem NodeCopies_spec {k : Ctx} {w : World} {sp sp' : Option Addr} {sc sc' : Nat} {l l' : List Law01_op} (hs : Scr k sp sc l) (hs' : Scr k sp' sc' l') (hO : Own k w []) :
    Tri Try.prog 10 #[.slice sp l.length sc, .slice sp' l'.length sc'] k w fun v m => v = .bool true := by
  refine enter (args := [.slice sp l.length sc, .slice sp' l'.length sc']) Try.func10 rfl rfl ?_
  have hsl := hs.sli
  have hgs := sli_gs hsl
  have hll := hs.len
  have hsl' := hs'.sli
  have hgs' := sli_gs hsl'
  have hll' := hs'.len
  refine K0 (K1 ?_)
  refine l_y rfl rfl (y_assign rfl) ?_
  refine K2 (K3 (K0 (K1 ?_)))
  refine CK [] hO rfl (fun k' hx hr hO' => New_spec (hO := hO')) ?_
  rintro _ _ w ⟨a11, rfl, rfl⟩ hO
  simp only [List.cons_append, List.nil_append] at hO
  refine l_y rfl rfl (y_assign rfl) ?_
  refine K2 (K3 (K0 (K0 (K1 ?_))))
  refine l_y rfl rfl (y_move rfl) ?_
  refine l_y rfl rfl (y_eqPnil rfl rfl rfl) ?_
  refine K2 (K3 (L9 (K5 (K3 (K0 (K1 ?_))))))
  refine CK [] hO rfl (fun k' hx hr hO' => rNew_spec (hO := hO')) ?_
  rintro _ _ w ⟨r14, rfl, rfl⟩ hO
  simp only [List.cons_append, List.nil_append] at hO
  refine l_y rfl rfl (y_assign rfl) ?_
  refine K2 (K3 (K0 (K0 (K1 ?_))))
  refine l_y rfl rfl (y_assign rfl) ?_
  refine K2 (K3 (K4 ?_))
  refine c_rounds (X := Nat × List Node_one × (Int → List Int) × List Ref01_one) (fun x => [(0, .slice sp l.length sc), (1, .slice sp' l'.length sc'), (4, .bool false), (5, .pointer (some ⟨a11, 0, none⟩)), (6, .pointer (some ⟨r14, 0, none⟩)), (7, .int .i64 (x.1 : Int))]) (fun x w => Own k w [arenaL a11 x.2.1, rarL r14 x.2.2.2] ∧ (x.1 ≤ l.length) ∧ (Two x.2.1 x.2.2.1 x.2.2.2)) (fun x => l.length - x.1) ((0, [docD], fun _ => [], [docR])) ⟨rfl, rfl, rfl, rfl, rfl, rfl, trivial⟩ ⟨hO.only [.o a11, .o r14], Nat.zero_le _, Two.new⟩ ?_
  rintro x w m hm ⟨hO, hi, t⟩
  refine K0 (K0 (K1 ?_))
  refine l_y rfl rfl (y_move rfl) ?_
  refine l_y rfl rfl (y_move rfl) ?_
  refine l_y rfl rfl (y_lenL rfl) ?_
  refine Z0 (fun h6_3 => ?_) (fun h6_3 => ?_)
  · refine l_y rfl rfl (y_move rfl) ?_
    refine l_y rfl rfl (y_move rfl) ?_
    refine Z0 (fun h6_6 => ?_) (fun h6_6 => ?_)
    · refine l_y rfl rfl (y_pick_t rfl rfl) ?_
      refine K2 (K3 (L8 (K5 (K3 (K0 (K4 (K1 ?_)))))))
      refine l_y rfl rfl (y_move rfl) ?_
      refine l_y rfl rfl (y_move rfl) ?_
      refine l_y rfl rfl (y_move rfl) ?_
      refine l_y rfl rfl (y_move rfl) ?_
      refine l_y rfl rfl (y_idx rfl rfl) ?_
      refine l_y rfl rfl (y_rA (x0 := 0) (enc := Law01_op.cells) (xs := l) (cs := [.int .i64 (at_ l ((x.1 : Int) : Int).toNat).What, .int .i64 (at_ l ((x.1 : Int) : Int).toNat).A, .int .i64 (at_ l ((x.1 : Int) : Int).toNat).B, .int .i64 (at_ l ((x.1 : Int) : Int).toNat).C, .int .i64 (at_ l ((x.1 : Int) : Int).toNat).N, .string (at_ l ((x.1 : Int) : Int).toNat).Text, .string (at_ l ((x.1 : Int) : Int).toNat).More, .int .i64 (at_ l ((x.1 : Int) : Int).toNat).X.Space, .string (at_ l ((x.1 : Int) : Int).toNat).X.Prefix, .string (at_ l ((x.1 : Int) : Int).toNat).X.Name, .string (at_ l ((x.1 : Int) : Int).toNat).X.Value, .slice (at_ l ((x.1 : Int) : Int).toNat).LP (at_ l ((x.1 : Int) : Int).toNat).L.length (at_ l ((x.1 : Int) : Int).toNat).LC]) hO rfl) ?_
      refine CK [.o a11, .o r14] hO rfl (fun k' hx hr hO' => play_spec (o := at_ l x.1) t ((hs.one _ (at_mem (by omega))).1.ext hO hx) (hs.one _ (at_mem (by omega))).2 (hO := hO')) ?_
      rintro _ _ w ⟨b9, rfl, hb9, A9, Kz, R9, t9, rfl⟩ hO
      simp only [List.cons_append, List.nil_append] at hO
      refine K2 (K8 (K3 (K1 ?_)))
      refine l_y rfl rfl (y_move rfl) ?_
      refine l_y rfl rfl (D4) ?_
      refine l_y rfl rfl (y_assign rfl) ?_
      refine K2 ?_
      exact q_next ((x.1 + 1, A9, Kz, R9)) ⟨rfl, rfl, rfl, rfl, rfl, rfl, trivial⟩ ⟨hO.only [.o a11, .o r14], by dsimp only; omega, t9⟩ (by dsimp only; omega)
    · refine l_y rfl rfl (y_pick_t rfl rfl) ?_
      refine K2 (K3 (L9 (K7 (L1 (L1 (L2 (K3 (K0 (K1 ?_)))))))))
      refine l_y rfl rfl (y_move rfl) ?_
      refine CK [.o a11] hO rfl (fun k' hx hr hO' => Copy_spec t.pos t.max t.tree.attrs (hO := hO')) ?_
      rintro _ _ w ⟨a33, B, rfl, hbl, hbc, rfl⟩ hO
      simp only [List.cons_append, List.nil_append] at hO
      refine l_y rfl rfl (y_assign rfl) ?_
      refine K2 (K3 (K0 (K1 ?_)))
      refine l_y rfl rfl (y_move rfl) ?_
      refine CK [.o r14] hO rfl (fun k' hx hr hO' => rCopy_spec t (hO := hO')) ?_
      rintro _ _ w ⟨r35, R2, rfl, hrs, rfl⟩ hO
      simp only [List.cons_append, List.nil_append] at hO
      have t2 := copied t hbl hbc hrs
      refine l_y rfl rfl (y_assign rfl) ?_
      refine K2 (K3 (K0 (K0 (K1 ?_))))
      refine l_y rfl rfl (y_move rfl) ?_
      refine l_y rfl rfl (y_eqPnil rfl rfl rfl) ?_
      refine K2 (K3 (L9 (K5 (K3 (K0 (K0 (K1 ?_)))))))
      refine l_y rfl rfl (y_assign rfl) ?_
      refine K2 (K3 (K4 ?_))
      refine c_rounds (X := Nat × List Node_one × (Int → List Int) × List Ref01_one) (fun y => [(1, .slice sp' l'.length sc'), (4, .bool false), (5, .pointer (some ⟨a11, 0, none⟩)), (6, .pointer (some ⟨r14, 0, none⟩)), (8, .pointer (some ⟨a33, 0, none⟩)), (9, .pointer (some ⟨r35, 0, none⟩)), (10, .int .i64 (y.1 : Int))]) (fun y w => Own k w [arenaL a11 x.2.1, rarL r14 x.2.2.2, arenaL a33 y.2.1, rarL r35 y.2.2.2] ∧ (y.1 ≤ l'.length) ∧ (Two y.2.1 y.2.2.1 y.2.2.2)) (fun y => l'.length - y.1) ((0, B, x.2.2.1, R2)) ⟨rfl, rfl, rfl, rfl, rfl, rfl, rfl, trivial⟩ ⟨hO.only [.o a11, .o r14, .o a33, .o r35], Nat.zero_le _, t2⟩ ?_
      rintro y w m hm ⟨hO, hi2, t3⟩
      refine K0 (K0 (K1 ?_))
      refine l_y rfl rfl (y_move rfl) ?_
      refine l_y rfl rfl (y_move rfl) ?_
      refine l_y rfl rfl (y_lenL rfl) ?_
      refine Z0 (fun h14_3 => ?_) (fun h14_3 => ?_)
      · refine l_y rfl rfl (y_move rfl) ?_
        refine l_y rfl rfl (y_move rfl) ?_
        refine Z0 (fun h14_6 => ?_) (fun h14_6 => ?_)
        · refine l_y rfl rfl (y_pick_t rfl rfl) ?_
          refine K2 (K3 (L8 (K5 (K3 (K0 (K4 (K0 (K1 ?_))))))))
          refine l_y rfl rfl (y_move rfl) ?_
          refine l_y rfl rfl (y_move rfl) ?_
          refine l_y rfl rfl (y_move rfl) ?_
          refine l_y rfl rfl (y_move rfl) ?_
          refine l_y rfl rfl (y_idx rfl rfl) ?_
          refine l_y rfl rfl (y_rA (x0 := 0) (enc := Law01_op.cells) (xs := l') (cs := [.int .i64 (at_ l' ((y.1 : Int) : Int).toNat).What, .int .i64 (at_ l' ((y.1 : Int) : Int).toNat).A, .int .i64 (at_ l' ((y.1 : Int) : Int).toNat).B, .int .i64 (at_ l' ((y.1 : Int) : Int).toNat).C, .int .i64 (at_ l' ((y.1 : Int) : Int).toNat).N, .string (at_ l' ((y.1 : Int) : Int).toNat).Text, .string (at_ l' ((y.1 : Int) : Int).toNat).More, .int .i64 (at_ l' ((y.1 : Int) : Int).toNat).X.Space, .string (at_ l' ((y.1 : Int) : Int).toNat).X.Prefix, .string (at_ l' ((y.1 : Int) : Int).toNat).X.Name, .string (at_ l' ((y.1 : Int) : Int).toNat).X.Value, .slice (at_ l' ((y.1 : Int) : Int).toNat).LP (at_ l' ((y.1 : Int) : Int).toNat).L.length (at_ l' ((y.1 : Int) : Int).toNat).LC]) hO rfl) ?_
          refine CK [.o a33, .o r35] hO rfl (fun k' hx hr hO' => play_spec (o := at_ l' y.1) t3 ((hs'.one _ (at_mem (by omega))).1.ext hO hx) (hs'.one _ (at_mem (by omega))).2 (hO := hO')) ?_
          rintro _ _ w ⟨b9, rfl, hb9, A9, Kz, R9, t9, rfl⟩ hO
          simp only [List.cons_append, List.nil_append] at hO
          obtain rfl : b9 = true := hb9 (.inr (hs'.text _ (at_mem (by omega))))
          refine l_y rfl rfl (y_not rfl rfl) ?_
          refine K2 (K3 (L9 (K5 (K8 (K3 (K1 ?_))))))
          refine l_y rfl rfl (y_move rfl) ?_
          refine l_y rfl rfl (D4) ?_
          refine l_y rfl rfl (y_assign rfl) ?_
          refine K2 ?_
          exact q_next ((y.1 + 1, A9, Kz, R9)) ⟨rfl, rfl, rfl, rfl, rfl, rfl, rfl, trivial⟩ ⟨hO.only [.o a11, .o r14, .o a33, .o r35], by dsimp only; omega, t9⟩ (by dsimp only; omega)
        · refine l_y rfl rfl (y_pick_t rfl rfl) ?_
          refine K2 (K3 (L9 (K7 (L1 (L1 (L2 (K3 (K0 (K1 ?_)))))))))
          refine l_y rfl rfl (y_move rfl) ?_
          refine l_y rfl rfl (y_move rfl) ?_
          refine CK [.o a11, .o r14] hO rfl (fun k' hx hr hO' => same_spec t (hO := hO')) ?_
          rintro _ _ w ⟨rfl, rfl⟩ hO
          simp only [List.cons_append, List.nil_append] at hO
          refine l_y rfl rfl (y_move rfl) ?_
          refine l_y rfl rfl (y_move rfl) ?_
          refine l_y rfl rfl (y_move rfl) ?_
          refine CK [.o a33, .o r35] hO rfl (fun k' hx hr hO' => same_spec t3 (hO := hO')) ?_
          rintro _ _ w ⟨rfl, rfl⟩ hO
          simp only [List.cons_append, List.nil_append] at hO
          refine l_y rfl rfl (y_pick_t rfl rfl) ?_
          refine l_y rfl rfl (y_assign rfl) ?_
          refine K2 (K3 (K6 ?_))
          exact fin1 rfl rfl ⟨_, rfl, hO⟩
      · refine l_y rfl rfl (y_move rfl) ?_
        repeat refine M2 ?_
        refine l_y rfl rfl (y_pick_f rfl rfl) ?_
        refine K2 (K3 (L9 (K7 (L1 (L1 (L2 (K3 (K0 (K1 ?_)))))))))
        refine l_y rfl rfl (y_move rfl) ?_
        refine l_y rfl rfl (y_move rfl) ?_
        refine CK [.o a11, .o r14] hO rfl (fun k' hx hr hO' => same_spec t (hO := hO')) ?_
        rintro _ _ w ⟨rfl, rfl⟩ hO
        simp only [List.cons_append, List.nil_append] at hO
        refine l_y rfl rfl (y_move rfl) ?_
        refine l_y rfl rfl (y_move rfl) ?_
        refine l_y rfl rfl (y_move rfl) ?_
        refine CK [.o a33, .o r35] hO rfl (fun k' hx hr hO' => same_spec t3 (hO := hO')) ?_
        rintro _ _ w ⟨rfl, rfl⟩ hO
        simp only [List.cons_append, List.nil_append] at hO
        refine l_y rfl rfl (y_pick_t rfl rfl) ?_
        refine l_y rfl rfl (y_assign rfl) ?_
        refine K2 (K3 (K6 ?_))
        exact fin1 rfl rfl ⟨_, rfl, hO⟩
  · refine l_y rfl rfl (y_move rfl) ?_
    repeat refine M2 ?_
    refine l_y rfl rfl (y_pick_f rfl rfl) ?_
    refine K2 (K3 (L9 (K7 (L1 (L1 (L2 (K3 (K0 (K1 ?_)))))))))
    refine l_y rfl rfl (y_move rfl) ?_
    refine CK [.o a11] hO rfl (fun k' hx hr hO' => Copy_spec t.pos t.max t.tree.attrs (hO := hO')) ?_
    rintro _ _ w ⟨a33, B, rfl, hbl, hbc, rfl⟩ hO
    simp only [List.cons_append, List.nil_append] at hO
    refine l_y rfl rfl (y_assign rfl) ?_
    refine K2 (K3 (K0 (K1 ?_)))
    refine l_y rfl rfl (y_move rfl) ?_
    refine CK [.o r14] hO rfl (fun k' hx hr hO' => rCopy_spec t (hO := hO')) ?_
    rintro _ _ w ⟨r35, R2, rfl, hrs, rfl⟩ hO
    simp only [List.cons_append, List.nil_append] at hO
    have t2 := copied t hbl hbc hrs
    refine l_y rfl rfl (y_assign rfl) ?_
    refine K2 (K3 (K0 (K0 (K1 ?_))))
    refine l_y rfl rfl (y_move rfl) ?_
    refine l_y rfl rfl (y_eqPnil rfl rfl rfl) ?_
    refine K2 (K3 (L9 (K5 (K3 (K0 (K0 (K1 ?_)))))))
    refine l_y rfl rfl (y_assign rfl) ?_
    refine K2 (K3 (K4 ?_))
    refine c_rounds (X := Nat × List Node_one × (Int → List Int) × List Ref01_one) (fun y => [(1, .slice sp' l'.length sc'), (4, .bool false), (5, .pointer (some ⟨a11, 0, none⟩)), (6, .pointer (some ⟨r14, 0, none⟩)), (8, .pointer (some ⟨a33, 0, none⟩)), (9, .pointer (some ⟨r35, 0, none⟩)), (10, .int .i64 (y.1 : Int))]) (fun y w => Own k w [arenaL a11 x.2.1, rarL r14 x.2.2.2, arenaL a33 y.2.1, rarL r35 y.2.2.2] ∧ (y.1 ≤ l'.length) ∧ (Two y.2.1 y.2.2.1 y.2.2.2)) (fun y => l'.length - y.1) ((0, B, x.2.2.1, R2)) ⟨rfl, rfl, rfl, rfl, rfl, rfl, rfl, trivial⟩ ⟨hO.only [.o a11, .o r14, .o a33, .o r35], Nat.zero_le _, t2⟩ ?_
    rintro y w m hm ⟨hO, hi2, t3⟩
    refine K0 (K0 (K1 ?_))
    refine l_y rfl rfl (y_move rfl) ?_
    refine l_y rfl rfl (y_move rfl) ?_
    refine l_y rfl rfl (y_lenL rfl) ?_
    refine Z0 (fun h14_3 => ?_) (fun h14_3 => ?_)
    · refine l_y rfl rfl (y_move rfl) ?_
      refine l_y rfl rfl (y_move rfl) ?_
      refine Z0 (fun h14_6 => ?_) (fun h14_6 => ?_)
      · refine l_y rfl rfl (y_pick_t rfl rfl) ?_
        refine K2 (K3 (L8 (K5 (K3 (K0 (K4 (K0 (K1 ?_))))))))
        refine l_y rfl rfl (y_move rfl) ?_
        refine l_y rfl rfl (y_move rfl) ?_
        refine l_y rfl rfl (y_move rfl) ?_
        refine l_y rfl rfl (y_move rfl) ?_
        refine l_y rfl rfl (y_idx rfl rfl) ?_
        refine l_y rfl rfl (y_rA (x0 := 0) (enc := Law01_op.cells) (xs := l') (cs := [.int .i64 (at_ l' ((y.1 : Int) : Int).toNat).What, .int .i64 (at_ l' ((y.1 : Int) : Int).toNat).A, .int .i64 (at_ l' ((y.1 : Int) : Int).toNat).B, .int .i64 (at_ l' ((y.1 : Int) : Int).toNat).C, .int .i64 (at_ l' ((y.1 : Int) : Int).toNat).N, .string (at_ l' ((y.1 : Int) : Int).toNat).Text, .string (at_ l' ((y.1 : Int) : Int).toNat).More, .int .i64 (at_ l' ((y.1 : Int) : Int).toNat).X.Space, .string (at_ l' ((y.1 : Int) : Int).toNat).X.Prefix, .string (at_ l' ((y.1 : Int) : Int).toNat).X.Name, .string (at_ l' ((y.1 : Int) : Int).toNat).X.Value, .slice (at_ l' ((y.1 : Int) : Int).toNat).LP (at_ l' ((y.1 : Int) : Int).toNat).L.length (at_ l' ((y.1 : Int) : Int).toNat).LC]) hO rfl) ?_
        refine CK [.o a33, .o r35] hO rfl (fun k' hx hr hO' => play_spec (o := at_ l' y.1) t3 ((hs'.one _ (at_mem (by omega))).1.ext hO hx) (hs'.one _ (at_mem (by omega))).2 (hO := hO')) ?_
        rintro _ _ w ⟨b9, rfl, hb9, A9, Kz, R9, t9, rfl⟩ hO
        simp only [List.cons_append, List.nil_append] at hO
        obtain rfl : b9 = true := hb9 (.inr (hs'.text _ (at_mem (by omega))))
        refine l_y rfl rfl (y_not rfl rfl) ?_
        refine K2 (K3 (L9 (K5 (K8 (K3 (K1 ?_))))))
        refine l_y rfl rfl (y_move rfl) ?_
        refine l_y rfl rfl (D4) ?_
        refine l_y rfl rfl (y_assign rfl) ?_
        refine K2 ?_
        exact q_next ((y.1 + 1, A9, Kz, R9)) ⟨rfl, rfl, rfl, rfl, rfl, rfl, rfl, trivial⟩ ⟨hO.only [.o a11, .o r14, .o a33, .o r35], by dsimp only; omega, t9⟩ (by dsimp only; omega)
      · refine l_y rfl rfl (y_pick_t rfl rfl) ?_
        refine K2 (K3 (L9 (K7 (L1 (L1 (L2 (K3 (K0 (K1 ?_)))))))))
        refine l_y rfl rfl (y_move rfl) ?_
        refine l_y rfl rfl (y_move rfl) ?_
        refine CK [.o a11, .o r14] hO rfl (fun k' hx hr hO' => same_spec t (hO := hO')) ?_
        rintro _ _ w ⟨rfl, rfl⟩ hO
        simp only [List.cons_append, List.nil_append] at hO
        refine l_y rfl rfl (y_move rfl) ?_
        refine l_y rfl rfl (y_move rfl) ?_
        refine l_y rfl rfl (y_move rfl) ?_
        refine CK [.o a33, .o r35] hO rfl (fun k' hx hr hO' => same_spec t3 (hO := hO')) ?_
        rintro _ _ w ⟨rfl, rfl⟩ hO
        simp only [List.cons_append, List.nil_append] at hO
        refine l_y rfl rfl (y_pick_t rfl rfl) ?_
        refine l_y rfl rfl (y_assign rfl) ?_
        refine K2 (K3 (K6 ?_))
        exact fin1 rfl rfl ⟨_, rfl, hO⟩
    · refine l_y rfl rfl (y_move rfl) ?_
      repeat refine M2 ?_
      refine l_y rfl rfl (y_pick_f rfl rfl) ?_
      refine K2 (K3 (L9 (K7 (L1 (L1 (L2 (K3 (K0 (K1 ?_)))))))))
      refine l_y rfl rfl (y_move rfl) ?_
      refine l_y rfl rfl (y_move rfl) ?_
      refine CK [.o a11, .o r14] hO rfl (fun k' hx hr hO' => same_spec t (hO := hO')) ?_
      rintro _ _ w ⟨rfl, rfl⟩ hO
      simp only [List.cons_append, List.nil_append] at hO
      refine l_y rfl rfl (y_move rfl) ?_
      refine l_y rfl rfl (y_move rfl) ?_
      refine l_y rfl rfl (y_move rfl) ?_
      refine CK [.o a33, .o r35] hO rfl (fun k' hx hr hO' => same_spec t3 (hO := hO')) ?_
      rintro _ _ w ⟨rfl, rfl⟩ hO
      simp only [List.cons_append, List.nil_append] at hO
      refine l_y rfl rfl (y_pick_t rfl rfl) ?_
      refine l_y rfl rfl (y_assign rfl) ?_
      refine K2 (K3 (K6 ?_))
      exact fin1 rfl rfl ⟨_, rfl, hO⟩
end Go.Proofs.Ytnolpajggmfpdaa
