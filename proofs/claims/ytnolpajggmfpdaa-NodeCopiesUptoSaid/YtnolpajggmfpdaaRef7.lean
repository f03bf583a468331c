/- The walks of the answer's arena beside the program's: attributes; no condition. -/
import Derived.Test.YtnolpajggmfpdaaRef6
set_option linter.unusedVariables false
set_option linter.unusedSimpArgs false
set_option maxRecDepth 100000
namespace Go.Proofs.Ytnolpajggmfpdaa
open Go Go.Hb Go.RowKit
def SetRes (A A' : List Node_one) (id : Int) (l : List Api_attr) : Prop := (hasB A id = false ∧ A' = A) ∨ (hasB A id = true ∧ ∃ q d, A' = A.set id.toNat (setAttrs (at_ A id.toNat) q l d))
theorem SetRes.len {A A' : List Node_one} {id : Int} {l : List Api_attr} (h : SetRes A A' id l) : A'.length = A.length := by
  rcases h with ⟨_, rfl⟩ | ⟨_, q, d, rfl⟩ <;> simp
theorem SetRes.at_old {A A' : List Node_one} {id : Int} {l : List Api_attr} (h : SetRes A A' id l) {y : Int} (hy : 0 ≤ y) (hl : hasB A id = true → l = (at_ A id.toNat).Node.Attrs) : ∃ q d, at_ A' y.toNat = setAttrs (at_ A y.toNat) q (at_ A y.toNat).Node.Attrs d := by
  rcases h with ⟨_, rfl⟩ | ⟨hb, q, d, rfl⟩
  · exact ⟨_, _, rfl⟩
  · rw [at_setI (inA_iff.1 hb) hy]
    split
    · next e => subst e; rw [hl hb]; exact ⟨_, _, rfl⟩
    · exact ⟨_, _, rfl⟩
theorem Sim1.attrsTo {a : Node_one} {ks : List Int} {o : Ref01_one} (s : Sim1 a ks o) (q : Option Addr) (d : Nat) (l : List Api_attr) (p : Option Addr) (c : Nat) : Sim1 (setAttrs a q l d) ks { o with AttrsP := p, Attrs := l, AttrsC := c } :=
  ⟨s.kind, s.space, s.name, rfl, s.data, s.system, s.inner, s.host, s.up, s.kids⟩
theorem Sim.attrsSame {A A' : List Node_one} {K : Int → List Int} {R : List Ref01_one} (s : Sim A K R) {id : Int} {l : List Api_attr} (h : SetRes A A' id l) (hl : hasB A id = true → l = (at_ A id.toNat).Node.Attrs) : Sim A' K R := by
  refine ⟨by rw [s.len, h.len], fun y hy => ?_⟩
  have hyA : InA A y := hy.len h.len.symm
  obtain ⟨q, d, e⟩ := h.at_old hy.1 hl
  have sy := s.one y hyA
  rw [e]
  exact ⟨sy.kind, sy.space, sy.name, sy.attrs, sy.data, sy.system, sy.inner, sy.host, sy.up, sy.kids⟩
theorem Sim.attrs' {A A' : List Node_one} {K : Int → List Int} {R : List Ref01_one} (s : Sim A K R) {id : Int} {l l' : List Api_attr} (hid : hasB A id = true) (h : SetRes A A' id l) (hl : l' = l) {p : Option Addr} {c : Nat} : Sim A' K (R.set id.toNat { at_ R id.toNat with AttrsP := p, Attrs := l', AttrsC := c }) := by
  subst hl
  refine ⟨by rw [List.length_set, s.len, h.len], fun y hy => ?_⟩
  have hyA : InA A y := hy.len h.len.symm
  rcases h with ⟨hf, _⟩ | ⟨_, q, d, rfl⟩
  · rw [hid] at hf; simp at hf
  · rw [at_setI (inA_iff.1 hid) hy.1, at_setR (s.inR (inA_iff.1 hid)) hy.1]
    by_cases e : y = id
    · subst e; rw [if_pos rfl, if_pos rfl]; exact (s.one y hyA).attrsTo q d l' p c
    · rw [if_neg e, if_neg e]; exact s.one y hyA
theorem Tree.attrs' {A A' : List Node_one} {K : Int → List Int} (t : Tree A K) {id : Int} {l : List Api_attr} (h : SetRes A A' id l) (hl : l.length ≤ 1024) : Tree A' K := by
  rcases h with ⟨_, rfl⟩ | ⟨hb, q, d, rfl⟩
  · exact t
  have hlen : (A.set id.toNat (setAttrs (at_ A id.toNat) q l d)).length = A.length := by simp
  have f1 : ∀ y : Int, 0 ≤ y → ∃ q' l' d', at_ (A.set id.toNat (setAttrs (at_ A id.toNat) q l d)) y.toNat = setAttrs (at_ A y.toNat) q' l' d' := fun y hy => by
    rw [at_setI (inA_iff.1 hb) hy]
    split
    · next e => subst e; exact ⟨_, _, _, rfl⟩
    · exact ⟨_, (at_ A y.toNat).Node.Attrs, _, rfl⟩
  have hiA : ∀ {y}, InA (A.set id.toNat (setAttrs (at_ A id.toNat) q l d)) y → InA A y := fun h => h.len hlen.symm
  have g : ∀ y : Int, 0 ≤ y → (nodeA (A.set id.toNat (setAttrs (at_ A id.toNat) q l d)) y).Parent = (nodeA A y).Parent ∧ (nodeA (A.set id.toNat (setAttrs (at_ A id.toNat) q l d)) y).First = (nodeA A y).First ∧ (nodeA (A.set id.toNat (setAttrs (at_ A id.toNat) q l d)) y).Last = (nodeA A y).Last ∧ (nodeA (A.set id.toNat (setAttrs (at_ A id.toNat) q l d)) y).Prev = (nodeA A y).Prev ∧ (nodeA (A.set id.toNat (setAttrs (at_ A id.toNat) q l d)) y).Next = (nodeA A y).Next ∧ (nodeA (A.set id.toNat (setAttrs (at_ A id.toNat) q l d)) y).Kind = (nodeA A y).Kind ∧ (nodeA (A.set id.toNat (setAttrs (at_ A id.toNat) q l d)) y).Inner = (nodeA A y).Inner ∧ (at_ (A.set id.toNat (setAttrs (at_ A id.toNat) q l d)) y.toNat).host = (at_ A y.toNat).host := fun y hy => by
    obtain ⟨_, _, _, e⟩ := f1 y hy
    rw [nodeA, e]; exact ⟨rfl, rfl, rfl, rfl, rfl, rfl, rfl, rfl⟩
  constructor
  · intro x hx
    have hX := t.lnk x (hiA hx)
    have gx := g x hx.1
    refine ⟨by rw [gx.2.1]; exact hX.first, by rw [gx.2.2.1]; exact hX.last, fun pre y suf e => ?_⟩
    obtain ⟨g1, g2, g3, g4⟩ := hX.kid pre y suf e
    have gy := g y g1.1
    exact ⟨g1.len hlen, by rw [gy.1, g2], by rw [gy.2.2.2.1, g3], by rw [gy.2.2.2.2.1, g4]⟩
  · exact fun x hx => t.nodup x (hiA hx)
  · intro y hy hp
    rw [(g y hy.1).1] at hp ⊢
    exact (t.up y (hiA hy) hp).imp (fun h => h.len hlen) fun h => h
  · intro y hy hp
    have gy := g y hy.1
    rw [gy.1] at hp
    rw [gy.2.2.2.1, gy.2.2.2.2.1]
    exact t.free y (hiA hy) hp
  · intro y hy
    rw [(g y hy.1).2.2.2.2.2.2.2]
    exact (t.host y (hiA hy)).imp (fun h => h) fun h => h.len hlen
  · intro y hy hk
    rw [(g y hy.1).2.2.2.2.2.1] at hk
    rw [(g y hy.1).2.2.2.2.2.2.2]
    exact t.hostK y (hiA hy) hk
  · intro y hy hp
    rw [(g y hy.1).1] at hp
    rw [(g y hy.1).2.2.2.2.2.1]
    exact t.upK y (hiA hy) hp
  · intro y hy
    rw [(g y hy.1).2.2.2.2.2.2.1]
    exact (t.inner y (hiA hy)).imp (fun h => h) fun h => h.len hlen
  · obtain ⟨rk, hrk⟩ := t.rank
    refine ⟨rk, fun x hx => ?_⟩
    have hxA := hiA (inA_iff.1 hx)
    have gx := g x hxA.1
    have e1 := gx.1
    simp only [nodeA] at e1
    simp only [nextUp, e1, gx.2.2.2.2.2.2.2]
    exact (hrk x hxA.b).imp (fun h => h) fun h => ⟨((inA_iff.1 h.1).len hlen).b, h.2⟩
  · intro i hi
    rw [at_set (by have := inA_iff.1 hb; have h1 := this.1; have h2 := this.2; omega)]
    split
    · exact hl
    · exact t.attrs i (by simpa using hi)
theorem rfind_spec {k : Ctx} {w : World} {r : Nat} {R : List Ref01_one} {p : Option Addr} {c : Nat} {F : Pl} {id space : Int} {name : ByteArray} (hg : Gs p R.length) (hF : RF F R) (h0 : 0 ≤ id) (h1 : id < R.length) (hl : (at_ R id.toNat).Attrs.length ≤ 1024) (hO : Own k w [rB r p R.length c, rS p c R, pool F]) :
    Tri Try.prog 64 #[.pointer (some ⟨r, 0, none⟩), .int .i64 id, .int .i64 space, .string name] k w fun v m => v = .int .i64 (idx (isA space name) (at_ R id.toNat).Attrs) ∧ m = [rB r p R.length c, rS p c R, pool F] := by
  refine enter (args := [.pointer (some ⟨r, 0, none⟩), .int .i64 id, .int .i64 space, .string name]) Try.func64 rfl rfl ?_
  have hat := (hF.atR (i := id.toNat) (by omega)).attrs
  have hga := sli_gs hat
  refine K0 (K1 ?_)
  refine l_y rfl rfl (y_assign rfl) ?_
  refine K2 (K3 (K0 ?_))
  skip
  refine K1 ?_
  refine l_y rfl rfl (y_move rfl) ?_
  refine l_y rfl rfl (y_nilCheck rfl rfl) ?_
  refine l_y rfl rfl (y_fldb (o' := 0) rfl) ?_
  refine l_y rfl rfl (D5 hO rfl) ?_
  refine l_y rfl rfl (y_move rfl) ?_
  refine l_y rfl rfl (y_idx rfl rfl) ?_
  refine l_y rfl rfl (y_fld (j' := 3) rfl) ?_
  refine l_y rfl rfl (y_e1 (x0 := 3) hO rfl) ?_
  refine l_y rfl rfl (y_assign rfl) ?_
  refine K2 (K3 (K0 (K0 (K1 ?_))))
  refine l_y rfl rfl (y_assign rfl) ?_
  refine K2 (K3 (K4 ?_))
  refine c_rounds (X := Nat) (fun j => [(2, .int .i64 space), (3, .string name), (8, .int .i64 0), (9, .slice (at_ R (id : Int).toNat).AttrsP (at_ R (id : Int).toNat).Attrs.length (at_ R (id : Int).toNat).AttrsC), (10, .int .i64 (j : Int))]) (fun j w => Own k w [rB r p R.length c, rS p c R, pool F] ∧ (j ≤ (at_ R id.toNat).Attrs.length) ∧ (∀ q, q < j → isA space name (at_ (at_ R id.toNat).Attrs q) = false)) (fun j => (at_ R id.toNat).Attrs.length - j) (0) ⟨rfl, rfl, rfl, rfl, rfl, trivial⟩ ⟨hO.only [.b r, .p p, .f], Nat.zero_le _, fun q hq => absurd hq (Nat.not_lt_zero q)⟩ ?_
  rintro j w m hm ⟨hO, hj, hn⟩
  refine K0 (K0 (K1 ?_))
  refine l_y rfl rfl (y_move rfl) ?_
  refine l_y rfl rfl (y_move rfl) ?_
  refine l_y rfl rfl (y_lenL rfl) ?_
  refine Z0 (fun h3_3 => ?_) (fun h3_3 => ?_)
  · refine K2 (K3 (L8 (K5 (K3 (K0 (K4 (K0 (K1 ?_))))))))
    refine l_y rfl rfl (y_move rfl) ?_
    refine l_y rfl rfl (y_move rfl) ?_
    refine l_y rfl rfl (y_idx rfl rfl) ?_
    refine l_y rfl rfl (y_fld (j' := 0) rfl) ?_
    refine l_y rfl rfl (y_p1 (x0 := 0) (enc := Api_attr.cells) (xs := (at_ R id.toNat).Attrs) hO rfl) ?_
    refine l_y rfl rfl (y_move rfl) ?_
    refine Z0 (fun h5_6 => ?_) (fun h5_6 => ?_)
    · refine l_y rfl rfl (y_move rfl) ?_
      refine l_y rfl rfl (y_move rfl) ?_
      refine l_y rfl rfl (y_move rfl) ?_
      refine l_y rfl rfl (y_idx rfl rfl) ?_
      refine l_y rfl rfl (y_fld (j' := 2) rfl) ?_
      refine l_y rfl rfl (y_p1 (x0 := 2) (enc := Api_attr.cells) (xs := (at_ R id.toNat).Attrs) hO rfl) ?_
      refine l_y rfl rfl (y_move rfl) ?_
      refine Z2 (fun h5_14 => ?_) (fun h5_14 => ?_)
      · refine l_y rfl rfl (y_pick_t rfl rfl) ?_
        refine K2 (K3 (L8 (K0 (K1 ?_))))
        refine l_y rfl rfl (y_move rfl) ?_
        refine l_y rfl rfl (y_assign rfl) ?_
        refine K2 (K3 (K6 (L0 (K9 (K9 (L0 (K9 ?_)))))))
        rw [idx_at (i := j) (by omega) (by simp [isA]; exact ⟨h5_6, h5_14⟩) hn]
        exact fin1 rfl rfl ⟨_, ⟨rfl, rfl⟩, hO⟩
      · refine l_y rfl rfl (y_pick_t rfl rfl) ?_
        refine K2 (K3 (L9 (K5 (K8 (K3 (K1 ?_))))))
        refine l_y rfl rfl (y_move rfl) ?_
        refine l_y rfl rfl (D4) ?_
        refine l_y rfl rfl (y_assign rfl) ?_
        refine K2 ?_
        exact q_next (j + 1) ⟨rfl, rfl, rfl, rfl, rfl, trivial⟩ ⟨hO.only [.b r, .p p, .f], by omega, fun q hq => (by by_cases e : q = j; (subst e; simp only [isA, decide_eq_false_iff_not]; intro h; simp_all); exact hn q (by omega))⟩ (by omega)
    · refine l_y rfl rfl (y_move rfl) ?_
      repeat refine M2 ?_
      refine l_y rfl rfl (y_pick_f rfl rfl) ?_
      refine K2 (K3 (L9 (K5 (K8 (K3 (K1 ?_))))))
      refine l_y rfl rfl (y_move rfl) ?_
      refine l_y rfl rfl (D4) ?_
      refine l_y rfl rfl (y_assign rfl) ?_
      refine K2 ?_
      exact q_next (j + 1) ⟨rfl, rfl, rfl, rfl, rfl, trivial⟩ ⟨hO.only [.b r, .p p, .f], by omega, fun q hq => (by by_cases e : q = j; (subst e; simp only [isA, decide_eq_false_iff_not]; intro h; simp_all); exact hn q (by omega))⟩ (by omega)
  · refine K2 (K3 (L9 (K7 (L1 (L1 (L2 (K3 (K0 (K1 ?_)))))))))
    refine l_y rfl rfl (y_assign rfl) ?_
    refine K2 (K3 (K6 ?_))
    rw [idx_none (fun q hq => hn q (by omega))]
    exact fin1 rfl rfl ⟨_, ⟨rfl, rfl⟩, hO⟩
theorem idx_nat {p : Api_attr → Bool} {l : List Api_attr} (h : 0 ≤ idx p l) : (idx p l).toNat < l.length := by have := idx_lt (p := p) (xs := l); omega
set_option maxHeartbeats 2000000 in
theorem rSetAttr_spec {k : Ctx} {w : World} {r : Nat} {A : List Node_one} {K : Int → List Int} {R : List Ref01_one} {id : Int} {x : Api_attr} (s : Sim A K R) (ha : AttrsOk A) (hO : Own k w [rarL r R]) :
    Tri Try.prog 47 #[.pointer (some ⟨r, 0, none⟩), .int .i64 id, .agg (Api_attr.cells x).toArray] k w fun v m => v = .int .i64 (setAttrV A id x).1 ∧ ∃ R', m = [rarL r R'] ∧ ∀ A', SetRes A A' id (setAttrV A id x).2 → Sim A' K R' := by
  refine enter (args := [.pointer (some ⟨r, 0, none⟩), .int .i64 id, .agg (Api_attr.cells x).toArray]) Try.func47 rfl rfl ?_
  obtain ⟨p, c, F, hg, hF, hO⟩ := rarL_open hO
  have hl := s.len
  refine K0 (K1 ?_)
  refine s_box (vs := [.int .i64 x.Space, .string x.Prefix, .string x.Name, .string x.Value]) hO rfl rfl rfl (by rfl) fun b5 w hO => ?_
  refine l_y rfl rfl (y_assign rfl) ?_
  refine K2 (K3 (K0 (K0 (K1 ?_))))
  refine l_y rfl rfl (y_move rfl) ?_
  refine l_y rfl rfl (y_move rfl) ?_
  refine CK [.b r, .p p] hO rfl (fun k' hx hr hO' => IsA_spec s (hO := hO')) ?_
  rintro _ _ w ⟨rfl, rfl⟩ hO
  simp only [List.cons_append, List.nil_append] at hO
  refine l_y rfl rfl (y_not rfl rfl) ?_
  refine K2 (K3 ?_)
  refine c_split rfl (fun hc12 => ?_) (fun hc12 => ?_)
  · simp only [Bool.not_eq_true', Bool.not_eq_false'] at hc12
    refine K0 (K1 ?_)
    refine l_y rfl rfl (y_assign rfl) ?_
    refine K2 (K3 (K6 (K9 ?_)))
    have e : setAttrV A id x = (6, (at_ A id.toNat).Node.Attrs) := by rw [setAttrV, if_pos hc12]
    exact fin1 rfl rfl ⟨_, ⟨by rw [e], _, rfl, fun A' h => s.attrsSame h (fun _ => by rw [e])⟩, (rarL_shut hF (hO.ks [.b r, .p p, .f])).one⟩
  · simp only [Bool.not_eq_true', Bool.not_eq_false'] at hc12
    refine K5 (K3 (K0 (K0 ?_)))
    have hid := hasB_true hc12
    have ki := (s.atB hc12).kind
    have ai := (s.atB hc12).attrs
    have hal : (at_ R id.toNat).Attrs.length ≤ 1024 := by rw [ai]; exact ha _ (by omega)
    have hat := (hF.atR (i := id.toNat) (by omega)).attrs
    have hga := sli_gs hat
    refine K1 ?_
    refine l_y rfl rfl (y_move rfl) ?_
    refine l_y rfl rfl (y_nilCheck rfl rfl) ?_
    refine l_y rfl rfl (y_fldb (o' := 0) rfl) ?_
    refine l_y rfl rfl (D5 hO rfl) ?_
    refine l_y rfl rfl (y_move rfl) ?_
    refine l_y rfl rfl (y_idx rfl rfl) ?_
    refine l_y rfl rfl (y_fld (j' := 0) rfl) ?_
    refine l_y rfl rfl (y_e1 (x0 := 0) hO rfl) ?_
    refine Z1 (fun h3_8 => ?_) (fun h3_8 => ?_)
    · refine K2 (K3 (L8 (K0 (K1 ?_))))
      refine l_y rfl rfl (y_assign rfl) ?_
      refine K2 (K3 (K6 (K9 ?_)))
      have e : setAttrV A id x = (10, (at_ A id.toNat).Node.Attrs) := by rw [setAttrV, if_neg (by rw [hc12]; simp), if_pos (by rw [← ki]; exact h3_8)]
      exact fin1 rfl rfl ⟨_, ⟨by rw [e], _, rfl, fun A' h => s.attrsSame h (fun _ => by rw [e])⟩, (rarL_shut hF (hO.ks [.b r, .p p, .f])).one⟩
    · refine K2 (K3 (L9 (K5 (K3 (K0 (K0 (K1 ?_)))))))
      refine l_y rfl rfl (y_fldb (o' := 1) rfl) ?_
      refine l_y rfl rfl (D5 hO rfl) ?_
      refine l_y rfl rfl (y_fldb (o' := 2) rfl) ?_
      refine l_y rfl rfl (D5 hO rfl) ?_
      refine l_y rfl rfl (y_fldb (o' := 3) rfl) ?_
      refine l_y rfl rfl (D5 hO rfl) ?_
      refine s_lit (parts := [(0, .tmp 23), (1, .tmp 25), (2, .tmp 27)]) (enc := eS) [x.Prefix, x.Name, x.Value] [.string x.Prefix, .string x.Name, .string x.Value] hO rfl (fun b28 w hO => ?_)
      refine CK [] hO rfl (fun k' hx hr hO' => rlong_spec (ts := [x.Prefix, x.Name, x.Value]) (sls_roK (p := some ⟨b28, 0, none⟩) hr (sls_fct hO)) (by simp) (hO := hO')) ?_
      rintro _ _ w ⟨rfl, rfl⟩ hO
      simp only [List.nil_append] at hO
      have hlo : longB [x.Prefix, x.Name, x.Value] = longX x := by simp [longB, longX, Bool.or_assoc]
      refine K2 (K3 ?_)
      refine c_split rfl (fun hc29 => ?_) (fun hc29 => ?_)
      · refine K0 (K1 ?_)
        refine l_y rfl rfl (y_assign rfl) ?_
        refine K2 (K3 (K6 (K9 ?_)))
        have e : setAttrV A id x = (2, (at_ A id.toNat).Node.Attrs) := by rw [setAttrV, if_neg (by rw [hc12]; simp), if_neg (by rw [← ki]; exact fun h => h h3_8), if_pos (by rw [← hlo]; exact hc29)]
        exact fin1 rfl rfl ⟨_, ⟨by rw [e], _, rfl, fun A' h => s.attrsSame h (fun _ => by rw [e])⟩, (rarL_shut hF (hO.ks [.b r, .p p, .f])).one⟩
      · refine K5 (K3 (K0 (K1 ?_)))
        refine l_y rfl rfl (y_move rfl) ?_
        refine l_y rfl rfl (y_move rfl) ?_
        refine l_y rfl rfl (y_fldb (o' := 0) rfl) ?_
        refine l_y rfl rfl (D5 hO rfl) ?_
        refine l_y rfl rfl (y_fldb (o' := 2) rfl) ?_
        refine l_y rfl rfl (D5 hO rfl) ?_
        refine CK [.b r, .p p, .f] hO rfl (fun k' hx hr hO' => rfind_spec hg hF (by omega) (by omega) hal (hO := hO')) ?_
        rintro _ _ w ⟨rfl, rfl⟩ hO
        simp only [List.cons_append, List.nil_append] at hO
        refine l_y rfl rfl (y_assign rfl) ?_
        refine K2 (K3 (K0 (K0 ?_)))
        have e0 : setAttrV A id x = if 0 ≤ idx (isA x.Space x.Name) (at_ A id.toNat).Node.Attrs then (0, (at_ A id.toNat).Node.Attrs.set (idx (isA x.Space x.Name) (at_ A id.toNat).Node.Attrs).toNat { at_ (at_ A id.toNat).Node.Attrs (idx (isA x.Space x.Name) (at_ A id.toNat).Node.Attrs).toNat with Value := x.Value })
            else if (at_ A id.toNat).Node.Attrs.length = 1024 then (2, (at_ A id.toNat).Node.Attrs) else (0, (at_ A id.toNat).Node.Attrs ++ [x]) := by
          rw [setAttrV, if_neg (by rw [hc12]; simp), if_neg (by rw [← ki]; exact fun h => h h3_8), if_neg (by rw [← hlo, hc29]; simp)]
        rw [← ai] at e0
        have hix := idx_lt (p := isA x.Space x.Name) (xs := (at_ R id.toNat).Attrs)
        refine K1 ?_
        refine l_y rfl rfl (y_move rfl) ?_
        refine Z0 (fun h8_1 => ?_) (fun h8_1 => ?_)
        · refine l_y rfl rfl (y_move rfl) ?_
          refine l_y rfl rfl (y_move rfl) ?_
          refine l_y rfl rfl (y_nilCheck rfl rfl) ?_
          refine l_y rfl rfl (y_fldb (o' := 0) rfl) ?_
          refine l_y rfl rfl (D5 hO rfl) ?_
          refine l_y rfl rfl (y_move rfl) ?_
          refine l_y rfl rfl (y_idx rfl rfl) ?_
          refine l_y rfl rfl (y_fld (j' := 3) rfl) ?_
          refine l_y rfl rfl (y_e1 (x0 := 3) hO rfl) ?_
          refine l_y rfl rfl (y_lenL rfl) ?_
          refine Z0 (fun h8_12 => ?_) (fun h8_12 => ?_)
          · refine l_y rfl rfl (y_pick_t rfl rfl) ?_
            refine K2 (K3 (L8 (K0 (K1 ?_))))
            refine l_y rfl rfl (y_assign rfl) ?_
            refine K2 (K3 (K6 (K9 ?_)))
            have e : setAttrV A id x = (2, (at_ R id.toNat).Attrs) := by rw [e0, if_neg (by omega), if_pos (by omega)]
            exact fin1 rfl rfl ⟨_, ⟨by rw [e], _, rfl, fun A' h => s.attrsSame h (fun _ => by rw [e, ai])⟩, (rarL_shut hF (hO.ks [.b r, .p p, .f])).one⟩
          · refine l_y rfl rfl (y_pick_t rfl rfl) ?_
            refine K2 (K3 (L9 (K5 (K3 (K0 (K1 ?_))))))
            refine s_lit0 Api_attr.cells hO (fun b51 w hO => ?_)
            refine l_y rfl rfl (y_move rfl) ?_
            refine l_y rfl rfl (y_nilCheck rfl rfl) ?_
            refine l_y rfl rfl (y_fldb (o' := 0) rfl) ?_
            refine l_y rfl rfl (D5 hO rfl) ?_
            refine l_y rfl rfl (y_move rfl) ?_
            refine l_y rfl rfl (y_idx rfl rfl) ?_
            refine l_y rfl rfl (y_fld (j' := 3) rfl) ?_
            refine l_y rfl rfl (y_e1 (x0 := 3) hO rfl) ?_
            refine s_app0 hO rfl rfl (src_pool hO (by assumption)) (fun p60 c60 w hO gs60 => ?_)
            refine l_y rfl rfl (y_assign rfl) ?_
            refine K2 (K3 (K0 (K0 (K1 ?_))))
            refine l_y rfl rfl (y_move rfl) ?_
            refine Z0 (fun h11_1 => ?_) (fun h11_1 => ?_)
            · first
              | (exfalso; omega)
              | skip
                refine K2 (K3 (L8 (K1 ?_)))
                refine l_y rfl rfl (y_move rfl) ?_
                refine l_y rfl rfl (D8 (cs := [.int .i64 x.Space, .string x.Prefix, .string x.Name, .string x.Value]) hO rfl) ?_
                refine s_lit (parts := [(0, .tmp 64)]) (enc := Api_attr.cells) [x] [.agg [.int .i64 x.Space, .string x.Prefix, .string x.Name, .string x.Value].toArray] hO rfl (fun b65 w hO => ?_)
                refine s_app hO rfl rfl (src_own hO) (fun p66 c66 w hO gs66 => ?_)
                refine l_y rfl rfl (y_assign rfl) ?_
                refine K2 (K3 (K0 ?_))
                obtain ⟨F2, hle, hO, hsa⟩ := (hO.ks [.p p66, .f]).pooled
                refine K1 ?_
                refine l_y rfl rfl (y_move rfl) ?_
                refine l_y rfl rfl (y_nilCheck rfl rfl) ?_
                refine l_y rfl rfl (y_fldb (o' := 0) rfl) ?_
                refine l_y rfl rfl (D5 hO rfl) ?_
                refine l_y rfl rfl (y_move rfl) ?_
                refine l_y rfl rfl (y_move rfl) ?_
                refine l_y rfl rfl (y_idx rfl rfl) ?_
                refine l_y rfl rfl (y_fld (j' := 3) rfl) ?_
                first
                | refine s_e1 (x0 := 3) (v := .slice p60 ((at_ R id.toNat).Attrs.set (idx (isA x.Space x.Name) (at_ R id.toNat).Attrs).toNat { at_ (at_ R id.toNat).Attrs (idx (isA x.Space x.Name) (at_ R id.toNat).Attrs).toNat with Value := x.Value }).length c60) hO rfl (congrArg (fun n => some (Value.slice p60 n c60)) List.length_set.symm) (fun w hO => ?_)
                | refine s_e1 (x0 := 3) hO rfl rfl (fun w hO => ?_)
                refine K2 (K3 (K0 (K1 ?_)))
                refine l_y rfl rfl (y_assign rfl) ?_
                refine K2 (K3 (K6 ?_))
                refine fin1 rfl rfl ⟨_, ⟨?_, _, rfl, fun A' h => s.attrs' hc12 h ?_⟩, (rarL_shut ?_ (hO.ks [.b r, .p p, .f]) ?_).one⟩
                · rw [e0]; first | rw [if_pos (by omega)] | rw [if_neg (by omega), if_neg (by omega)]
                · first | (rw [e0, if_pos (by omega)]; done) | (refine Eq.trans (b := (at_ R id.toNat).Attrs ++ [x]) rfl ?_; rw [e0, if_neg (by omega), if_neg (by omega)])
                · exact (hF.le hle).set ⟨hsa, ((hF.le hle).atR (by omega)).kids⟩
                · simp
            · first
              | (exfalso; omega)
              | skip
                refine K2 (K3 (L9 (K1 ?_)))
                refine l_y rfl rfl (y_move rfl) ?_
                refine l_y rfl rfl (y_move rfl) ?_
                refine l_y rfl rfl (y_fldb (o' := 3) rfl) ?_
                refine l_y rfl rfl (D5 hO rfl) ?_
                refine l_y rfl rfl (y_idx rfl rfl) ?_
                refine l_y rfl rfl (y_fld (j' := 3) rfl) ?_
                refine s_e1 (x0 := 3) hO rfl rfl (fun w hO => ?_)
                refine K2 (K3 (K0 ?_))
                obtain ⟨F2, hle, hO, hsa⟩ := (hO.ks [.p p60, .f]).pooled
                refine K1 ?_
                refine l_y rfl rfl (y_move rfl) ?_
                refine l_y rfl rfl (y_nilCheck rfl rfl) ?_
                refine l_y rfl rfl (y_fldb (o' := 0) rfl) ?_
                refine l_y rfl rfl (D5 hO rfl) ?_
                refine l_y rfl rfl (y_move rfl) ?_
                refine l_y rfl rfl (y_move rfl) ?_
                refine l_y rfl rfl (y_idx rfl rfl) ?_
                refine l_y rfl rfl (y_fld (j' := 3) rfl) ?_
                first
                | refine s_e1 (x0 := 3) (v := .slice p60 ((at_ R id.toNat).Attrs.set (idx (isA x.Space x.Name) (at_ R id.toNat).Attrs).toNat { at_ (at_ R id.toNat).Attrs (idx (isA x.Space x.Name) (at_ R id.toNat).Attrs).toNat with Value := x.Value }).length c60) hO rfl (congrArg (fun n => some (Value.slice p60 n c60)) List.length_set.symm) (fun w hO => ?_)
                | refine s_e1 (x0 := 3) hO rfl rfl (fun w hO => ?_)
                refine K2 (K3 (K0 (K1 ?_)))
                refine l_y rfl rfl (y_assign rfl) ?_
                refine K2 (K3 (K6 ?_))
                refine fin1 rfl rfl ⟨_, ⟨?_, _, rfl, fun A' h => s.attrs' hc12 h ?_⟩, (rarL_shut ?_ (hO.ks [.b r, .p p, .f]) ?_).one⟩
                · rw [e0]; first | rw [if_pos (by omega)] | rw [if_neg (by omega), if_neg (by omega)]
                · first | (rw [e0, if_pos (by omega)]; done) | (refine Eq.trans (b := (at_ R id.toNat).Attrs ++ [x]) rfl ?_; rw [e0, if_neg (by omega), if_neg (by omega)])
                · exact (hF.le hle).set ⟨hsa, ((hF.le hle).atR (by omega)).kids⟩
                · simp
        · refine l_y rfl rfl (y_move rfl) ?_
          repeat refine M2 ?_
          refine l_y rfl rfl (y_pick_f rfl rfl) ?_
          refine K2 (K3 (L9 (K5 (K3 (K0 (K1 ?_))))))
          refine s_lit0 Api_attr.cells hO (fun b51 w hO => ?_)
          refine l_y rfl rfl (y_move rfl) ?_
          refine l_y rfl rfl (y_nilCheck rfl rfl) ?_
          refine l_y rfl rfl (y_fldb (o' := 0) rfl) ?_
          refine l_y rfl rfl (D5 hO rfl) ?_
          refine l_y rfl rfl (y_move rfl) ?_
          refine l_y rfl rfl (y_idx rfl rfl) ?_
          refine l_y rfl rfl (y_fld (j' := 3) rfl) ?_
          refine l_y rfl rfl (y_e1 (x0 := 3) hO rfl) ?_
          refine s_app0 hO rfl rfl (src_pool hO (by assumption)) (fun p60 c60 w hO gs60 => ?_)
          refine l_y rfl rfl (y_assign rfl) ?_
          refine K2 (K3 (K0 (K0 (K1 ?_))))
          refine l_y rfl rfl (y_move rfl) ?_
          refine Z0 (fun h11_1 => ?_) (fun h11_1 => ?_)
          · first
            | (exfalso; omega)
            | skip
              refine K2 (K3 (L8 (K1 ?_)))
              refine l_y rfl rfl (y_move rfl) ?_
              refine l_y rfl rfl (D8 (cs := [.int .i64 x.Space, .string x.Prefix, .string x.Name, .string x.Value]) hO rfl) ?_
              refine s_lit (parts := [(0, .tmp 64)]) (enc := Api_attr.cells) [x] [.agg [.int .i64 x.Space, .string x.Prefix, .string x.Name, .string x.Value].toArray] hO rfl (fun b65 w hO => ?_)
              refine s_app hO rfl rfl (src_own hO) (fun p66 c66 w hO gs66 => ?_)
              refine l_y rfl rfl (y_assign rfl) ?_
              refine K2 (K3 (K0 ?_))
              obtain ⟨F2, hle, hO, hsa⟩ := (hO.ks [.p p66, .f]).pooled
              refine K1 ?_
              refine l_y rfl rfl (y_move rfl) ?_
              refine l_y rfl rfl (y_nilCheck rfl rfl) ?_
              refine l_y rfl rfl (y_fldb (o' := 0) rfl) ?_
              refine l_y rfl rfl (D5 hO rfl) ?_
              refine l_y rfl rfl (y_move rfl) ?_
              refine l_y rfl rfl (y_move rfl) ?_
              refine l_y rfl rfl (y_idx rfl rfl) ?_
              refine l_y rfl rfl (y_fld (j' := 3) rfl) ?_
              first
              | refine s_e1 (x0 := 3) (v := .slice p60 ((at_ R id.toNat).Attrs.set (idx (isA x.Space x.Name) (at_ R id.toNat).Attrs).toNat { at_ (at_ R id.toNat).Attrs (idx (isA x.Space x.Name) (at_ R id.toNat).Attrs).toNat with Value := x.Value }).length c60) hO rfl (congrArg (fun n => some (Value.slice p60 n c60)) List.length_set.symm) (fun w hO => ?_)
              | refine s_e1 (x0 := 3) hO rfl rfl (fun w hO => ?_)
              refine K2 (K3 (K0 (K1 ?_)))
              refine l_y rfl rfl (y_assign rfl) ?_
              refine K2 (K3 (K6 ?_))
              refine fin1 rfl rfl ⟨_, ⟨?_, _, rfl, fun A' h => s.attrs' hc12 h ?_⟩, (rarL_shut ?_ (hO.ks [.b r, .p p, .f]) ?_).one⟩
              · rw [e0]; first | rw [if_pos (by omega)] | rw [if_neg (by omega), if_neg (by omega)]
              · first | (rw [e0, if_pos (by omega)]; done) | (refine Eq.trans (b := (at_ R id.toNat).Attrs ++ [x]) rfl ?_; rw [e0, if_neg (by omega), if_neg (by omega)])
              · exact (hF.le hle).set ⟨hsa, ((hF.le hle).atR (by omega)).kids⟩
              · simp
          · first
            | (exfalso; omega)
            | skip
              refine K2 (K3 (L9 (K1 ?_)))
              refine l_y rfl rfl (y_move rfl) ?_
              refine l_y rfl rfl (y_move rfl) ?_
              refine l_y rfl rfl (y_fldb (o' := 3) rfl) ?_
              refine l_y rfl rfl (D5 hO rfl) ?_
              refine l_y rfl rfl (y_idx rfl rfl) ?_
              refine l_y rfl rfl (y_fld (j' := 3) rfl) ?_
              refine s_e1 (x0 := 3) hO rfl rfl (fun w hO => ?_)
              refine K2 (K3 (K0 ?_))
              obtain ⟨F2, hle, hO, hsa⟩ := (hO.ks [.p p60, .f]).pooled
              refine K1 ?_
              refine l_y rfl rfl (y_move rfl) ?_
              refine l_y rfl rfl (y_nilCheck rfl rfl) ?_
              refine l_y rfl rfl (y_fldb (o' := 0) rfl) ?_
              refine l_y rfl rfl (D5 hO rfl) ?_
              refine l_y rfl rfl (y_move rfl) ?_
              refine l_y rfl rfl (y_move rfl) ?_
              refine l_y rfl rfl (y_idx rfl rfl) ?_
              refine l_y rfl rfl (y_fld (j' := 3) rfl) ?_
              first
              | refine s_e1 (x0 := 3) (v := .slice p60 ((at_ R id.toNat).Attrs.set (idx (isA x.Space x.Name) (at_ R id.toNat).Attrs).toNat { at_ (at_ R id.toNat).Attrs (idx (isA x.Space x.Name) (at_ R id.toNat).Attrs).toNat with Value := x.Value }).length c60) hO rfl (congrArg (fun n => some (Value.slice p60 n c60)) List.length_set.symm) (fun w hO => ?_)
              | refine s_e1 (x0 := 3) hO rfl rfl (fun w hO => ?_)
              refine K2 (K3 (K0 (K1 ?_)))
              refine l_y rfl rfl (y_assign rfl) ?_
              refine K2 (K3 (K6 ?_))
              refine fin1 rfl rfl ⟨_, ⟨?_, _, rfl, fun A' h => s.attrs' hc12 h ?_⟩, (rarL_shut ?_ (hO.ks [.b r, .p p, .f]) ?_).one⟩
              · rw [e0]; first | rw [if_pos (by omega)] | rw [if_neg (by omega), if_neg (by omega)]
              · first | (rw [e0, if_pos (by omega)]; done) | (refine Eq.trans (b := (at_ R id.toNat).Attrs ++ [x]) rfl ?_; rw [e0, if_neg (by omega), if_neg (by omega)])
              · exact (hF.le hle).set ⟨hsa, ((hF.le hle).atR (by omega)).kids⟩
              · simp
set_option maxHeartbeats 2000000 in
theorem rDelAttr_spec {k : Ctx} {w : World} {r : Nat} {A : List Node_one} {K : Int → List Int} {R : List Ref01_one} {id space : Int} {name : ByteArray} (s : Sim A K R) (ha : AttrsOk A) (hO : Own k w [rarL r R]) :
    Tri Try.prog 48 #[.pointer (some ⟨r, 0, none⟩), .int .i64 id, .int .i64 space, .string name] k w fun v m => v = .int .i64 (delAttrV A id space name).1 ∧ ∃ R', m = [rarL r R'] ∧ ∀ A', SetRes A A' id (delAttrV A id space name).2 → Sim A' K R' := by
  refine enter (args := [.pointer (some ⟨r, 0, none⟩), .int .i64 id, .int .i64 space, .string name]) Try.func48 rfl rfl ?_
  obtain ⟨p, c, F, hg, hF, hO⟩ := rarL_open hO
  have hl := s.len
  refine K0 (K1 ?_)
  refine l_y rfl rfl (y_assign rfl) ?_
  refine K2 (K3 (K0 (K0 (K1 ?_))))
  refine l_y rfl rfl (y_move rfl) ?_
  refine l_y rfl rfl (y_move rfl) ?_
  refine CK [.b r, .p p] hO rfl (fun k' hx hr hO' => IsA_spec s (hO := hO')) ?_
  rintro _ _ w ⟨rfl, rfl⟩ hO
  simp only [List.cons_append, List.nil_append] at hO
  refine l_y rfl rfl (y_not rfl rfl) ?_
  refine K2 (K3 ?_)
  refine c_split rfl (fun hc14 => ?_) (fun hc14 => ?_)
  · simp only [Bool.not_eq_true', Bool.not_eq_false'] at hc14
    refine K0 (K1 ?_)
    refine l_y rfl rfl (y_assign rfl) ?_
    refine K2 (K3 (K6 (K9 ?_)))
    have e : delAttrV A id space name = (6, (at_ A id.toNat).Node.Attrs) := by rw [delAttrV, if_pos hc14]
    exact fin1 rfl rfl ⟨_, ⟨by rw [e], _, rfl, fun A' h => s.attrsSame h (fun _ => by rw [e])⟩, (rarL_shut hF (hO.ks [.b r, .p p, .f])).one⟩
  · simp only [Bool.not_eq_true', Bool.not_eq_false'] at hc14
    refine K5 (K3 (K0 (K0 ?_)))
    have hid := hasB_true hc14
    have ki := (s.atB hc14).kind
    have ai := (s.atB hc14).attrs
    have hal : (at_ R id.toNat).Attrs.length ≤ 1024 := by rw [ai]; exact ha _ (by omega)
    have hat := (hF.atR (i := id.toNat) (by omega)).attrs
    have hga := sli_gs hat
    have hix := idx_lt (p := isA space name) (xs := (at_ R id.toNat).Attrs)
    have hac : (at_ R id.toNat).Attrs.length ≤ (at_ R id.toNat).AttrsC := by
      obtain ⟨_, _, he, h2, _⟩ := hat
      injection he with _ _ e3
      rw [e3]
      simpa using h2
    refine K1 ?_
    refine l_y rfl rfl (y_move rfl) ?_
    refine l_y rfl rfl (y_nilCheck rfl rfl) ?_
    refine l_y rfl rfl (y_fldb (o' := 0) rfl) ?_
    refine l_y rfl rfl (D5 hO rfl) ?_
    refine l_y rfl rfl (y_move rfl) ?_
    refine l_y rfl rfl (y_idx rfl rfl) ?_
    refine l_y rfl rfl (y_fld (j' := 0) rfl) ?_
    refine l_y rfl rfl (y_e1 (x0 := 0) hO rfl) ?_
    refine Z1 (fun h3_8 => ?_) (fun h3_8 => ?_)
    · refine K2 (K3 (L8 (K0 (K1 ?_))))
      refine l_y rfl rfl (y_assign rfl) ?_
      refine K2 (K3 (K6 (K9 ?_)))
      have e : delAttrV A id space name = (10, (at_ A id.toNat).Node.Attrs) := by rw [delAttrV, if_neg (by rw [hc14]; simp), if_pos (by rw [← ki]; exact h3_8)]
      exact fin1 rfl rfl ⟨_, ⟨by rw [e], _, rfl, fun A' h => s.attrsSame h (fun _ => by rw [e])⟩, (rarL_shut hF (hO.ks [.b r, .p p, .f])).one⟩
    · refine K2 (K3 (L9 (K5 (K3 (K0 (K1 ?_))))))
      refine l_y rfl rfl (y_move rfl) ?_
      refine l_y rfl rfl (y_move rfl) ?_
      refine l_y rfl rfl (y_move rfl) ?_
      refine l_y rfl rfl (y_move rfl) ?_
      refine CK [.b r, .p p, .f] hO rfl (fun k' hx hr hO' => rfind_spec hg hF (by omega) (by omega) hal (hO := hO')) ?_
      rintro _ _ w ⟨rfl, rfl⟩ hO
      simp only [List.cons_append, List.nil_append] at hO
      refine l_y rfl rfl (y_assign rfl) ?_
      refine K2 (K3 (K0 (K0 ?_)))
      have e0 : delAttrV A id space name = if idx (isA space name) (at_ R id.toNat).Attrs < 0 then (1, (at_ R id.toNat).Attrs) else (0, (at_ R id.toNat).Attrs.eraseIdx (idx (isA space name) (at_ R id.toNat).Attrs).toNat) := by
        rw [delAttrV, if_neg (by rw [hc14]; simp), if_neg (by rw [← ki]; exact fun h => h h3_8), ai]
      refine K1 ?_
      refine l_y rfl rfl (y_move rfl) ?_
      refine Z0 (fun h6_1 => ?_) (fun h6_1 => ?_)
      · refine K2 (K3 (L8 (K0 (K1 ?_))))
        refine l_y rfl rfl (y_assign rfl) ?_
        refine K2 (K3 (K6 (K9 ?_)))
        have e : delAttrV A id space name = (1, (at_ R id.toNat).Attrs) := by rw [e0, if_pos (by omega)]
        exact fin1 rfl rfl ⟨_, ⟨by rw [e], _, rfl, fun A' h => s.attrsSame h (fun _ => by rw [e, ai])⟩, (rarL_shut hF (hO.ks [.b r, .p p, .f])).one⟩
      · refine K2 (K3 (L9 (K5 (K3 (K0 ?_)))))
        have hhd := sli_hd (cuts_ph F) hat (idx (isA space name) (at_ R id.toNat).Attrs).toNat (at_ R id.toNat).AttrsC (by omega) (by omega)
        have htl := sli_tl (cuts_ph F) hat ((idx (isA space name) (at_ R id.toNat).Attrs) + 1 : Int).toNat (by omega)
        have hdl : ((at_ R id.toNat).Attrs.drop ((idx (isA space name) (at_ R id.toNat).Attrs) + 1 : Int).toNat).length ≤ 1024 := by simp; omega
        have htk : ((at_ R id.toNat).Attrs.take (idx (isA space name) (at_ R id.toNat).Attrs).toNat).length ≤ 1024 := by simp; omega
        refine K1 ?_
        refine s_lit0 Api_attr.cells hO (fun b31 w hO => ?_)
        refine l_y rfl rfl (y_move rfl) ?_
        refine l_y rfl rfl (y_nilCheck rfl rfl) ?_
        refine l_y rfl rfl (y_fldb (o' := 0) rfl) ?_
        refine l_y rfl rfl (D5 hO rfl) ?_
        refine l_y rfl rfl (y_move rfl) ?_
        refine l_y rfl rfl (y_idx rfl rfl) ?_
        refine l_y rfl rfl (y_fld (j' := 3) rfl) ?_
        refine l_y rfl rfl (y_e1 (x0 := 3) hO rfl) ?_
        refine l_y rfl rfl (y_move rfl) ?_
        refine l_y rfl rfl (y_hd ((idx (isA space name) (at_ R id.toNat).Attrs) : Int).toNat rfl rfl) ?_
        refine s_app0 hO rfl rfl (src_pool hO hhd) (fun p42 c42 w hO gs42 => ?_)
        refine l_y rfl rfl (y_assign rfl) ?_
        refine K2 (K3 (K0 ?_))
        refine da_region (by intro c a d v w h; cases d <;> exact h) ?_
        have hO := hO.drew
        refine da_phase _ [20] (SO.ks [.b r, .p p] hO) ?_
        refine dx_u 0 (by kernel_rfl) rfl rfl rfl (fun w => y_move rfl) ?_
        refine dx_u 1 (by kernel_rfl) rfl rfl rfl (fun w => y_nilCheck rfl rfl) ?_
        refine dx_u 2 (by kernel_rfl) rfl rfl rfl (fun w => y_fldb (o' := 0) rfl) ?_
        refine dx_y 3 (by kernel_rfl) rfl rfl rfl (fun w ⟨m, hw⟩ => D5 hw rfl) ?_
        refine dx_u 4 (by kernel_rfl) rfl rfl rfl (fun w => y_move rfl) ?_
        refine dx_u 5 (by kernel_rfl) rfl rfl rfl (fun w => y_move rfl) ?_
        refine dx_u 6 (by kernel_rfl) rfl rfl rfl (fun w => y_move rfl) ?_
        refine dx_u 7 (by kernel_rfl) rfl rfl rfl (fun w => y_nilCheck rfl rfl) ?_
        refine dx_u 8 (by kernel_rfl) rfl rfl rfl (fun w => y_fldb (o' := 0) rfl) ?_
        refine dx_y 9 (by kernel_rfl) rfl rfl rfl (fun w ⟨m, hw⟩ => D5 hw rfl) ?_
        refine dx_u 10 (by kernel_rfl) rfl rfl rfl (fun w => y_move rfl) ?_
        refine dx_u 11 (by kernel_rfl) rfl rfl rfl (fun w => y_idx rfl rfl) ?_
        refine dx_u 12 (by kernel_rfl) rfl rfl rfl (fun w => y_fld (j' := 3) rfl) ?_
        refine dx_y 13 (by kernel_rfl) rfl rfl rfl (fun w ⟨m, hw⟩ => y_e1 (x0 := 3) hw rfl) ?_
        refine dx_u 14 (by kernel_rfl) rfl rfl rfl (fun w => y_move rfl) ?_
        refine dx_u 15 (by kernel_rfl) rfl rfl rfl (fun w => D4) ?_
        refine dx_u 16 (by kernel_rfl) rfl rfl rfl (fun w => y_tl (((idx (isA space name) (at_ R id.toNat).Attrs) + 1) : Int).toNat rfl rfl) ?_
        refine dx_only 17 (by kernel_rfl) rfl rfl ?_
        refine s_app (xs := (at_ R id.toNat).Attrs.take (idx (isA space name) (at_ R id.toNat).Attrs).toNat) hO rfl rfl (src_pool hO htl) (fun p60 c60 w hO gs60 => ?_)
        obtain ⟨F2, hle, hO, hsa⟩ := (hO.ks [.p p60, .f]).pooled
        refine o_done ?_
        refine ⟨SO.ks [.b r, .p p] hO, ?_⟩
        refine dx_u 18 (by kernel_rfl) rfl rfl rfl (fun w => y_idx rfl rfl) ?_
        refine dx_u 19 (by kernel_rfl) rfl rfl rfl (fun w => y_fld (j' := 3) rfl) ?_
        refine dx_close 20 (by kernel_rfl) rfl rfl ?_
        refine s_e1 (x0 := 3) hO rfl rfl (fun w hO => ?_)
        refine o_done ?_
        refine da_end (by kernel_rfl) ?_
        refine K3 (K0 (K1 ?_))
        refine l_y rfl rfl (y_assign rfl) ?_
        refine K2 (K3 (K6 ?_))
        refine fin1 rfl rfl ⟨_, ⟨?_, _, rfl, fun A' h => s.attrs' hc14 h ?_⟩, (rarL_shut ?_ (hO.ks [.b r, .p p, .f]) ?_).one⟩
        · rw [e0, if_neg (by omega)]
        · rw [e0, if_neg (by omega), List.eraseIdx_eq_take_drop_succ]
          have e9 : ((idx (isA space name) (at_ R id.toNat).Attrs) + 1 : Int).toNat = (idx (isA space name) (at_ R id.toNat).Attrs).toNat + 1 := by omega
          rw [e9]
        · exact (hF.le hle).set ⟨hsa, ((hF.le hle).atR (by omega)).kids⟩
        · simp
end Go.Proofs.Ytnolpajggmfpdaa
