/- The walk of Spot; no condition. -/
import Derived.Test.YtbhicbpfdbnpfaaPlc1
set_option linter.unusedVariables false
set_option linter.unusedSimpArgs false
set_option maxRecDepth 100000
namespace Go.Proofs.Ytbhicbpfdbnpfaa
open Go Go.Hb Go.RowKit
instance : DecidableEq Api_spot := fun a b => decidable_of_iff (a.Parent = b.Parent ∧ a.Before = b.Before) ⟨fun ⟨h1, h2⟩ => Api_spot.ext h1 h2, fun h => by subst h; exact ⟨rfl, rfl⟩⟩
instance : EqT Try.prog 89 Api_spot.cells := ⟨by kernel_rfl, fun x y w => by
  have u3 := Try.underlying3
  have hS : Try.prog.underlying 89 = some (.struct (Try.prog.fieldsOf 89)) := by kernel_rfl
  have hp : Try.prog.stoodInHeld 89 = false := by kernel_rfl
  rw [show (10000 : Nat) = 9999 + 1 from rfl, run_equalIn_agg w 9999 89 _ _ hS hp]
  simp only [Program.fieldsOf, Try.underlying89, Api_spot.cells]
  go_simp
  have e : (x = y) ↔ x.Parent = y.Parent ∧ x.Before = y.Before := Api_spot.ext_iff
  by_cases h1 : x.Parent = y.Parent <;> by_cases h2 : x.Before = y.Before <;> simp [e, h1, h2]⟩
def atV (A : List Node_one) (l : List Int) (target : Int) (f : Bool) : Api_spot := if f = true ∧ (elB A target && namA A tpartL target) = true ∧ fosterV A l ≠ ⟨-1, -1⟩ then fosterV A l else ⟨target, -1⟩
def innV (A : List Node_one) (at0 : Api_spot) : Api_spot := if (nd A at0.Parent).Inner ≠ -1 then ⟨(nd A at0.Parent).Inner, -1⟩ else at0
def spotV (A : List Node_one) (l : List Int) (target : Int) (f : Bool) : Api_spot × Int := if hasB A target = false then (⟨0, 0⟩, 6) else (innV A (atV A l target f), 0)
def FosOk (A : List Node_one) (l : List Int) : Prop := fosterV A l ≠ ⟨-1, -1⟩ → hasB A (fosterV A l).Parent = true
theorem atV_has {A : List Node_one} {l : List Int} {target : Int} {f : Bool} (hf : FosOk A l) (hb : hasB A target = true) : hasB A (atV A l target f).Parent = true := by
  unfold atV
  split
  · next h => exact hf h.2.2
  · exact hb
section
variable {k : Ctx} {w : World} {a s r z c : Nat} {p : Option Addr} {A : List Node_one} {K : Int → List Int} {R : List Ref01_one} {l : List Int}
theorem fosterC_spec (hn : 0 < A.length) (ha : AttrsOk A) (hel : AllEl A l) (hl : l.length ≤ 1000000) (hO : Own k w [arenaL a A, stkL s a l]) :
    Tri Try.prog 128 #[.pointer (some ⟨a, 0, none⟩), .pointer (some ⟨s, 0, none⟩)] k w fun v m => v = .agg (Api_spot.cells (fosterV A l)).toArray ∧ m = [arenaL a A, stkL s a l] := by
  obtain ⟨p, c, hg, hlc, hO⟩ := stkL_open (hO.ks [.o s])
  refine Ret.mono (foster_spec hn ha hel hg hl (hO.ks [.o a, .b s, .p p])) ?_
  rintro v w' ⟨m, ⟨rfl, rfl⟩, hO⟩
  exact ⟨_, ⟨rfl, rfl⟩, ((stkL_shut (hO.ks [.b s, .p p])).ks [.o a, .o s]).two⟩
set_option maxHeartbeats 2000000 in
theorem Spot_spec {target : Int} {f : Bool} (hn : 0 < A.length) (ha : AttrsOk A) (hel : AllEl A l) (hl : l.length ≤ 1000000) (hfo : FosOk A l) (hO : Own k w [arenaL a A, stkL s a l]) :
    Tri Try.prog 53 #[.pointer (some ⟨a, 0, none⟩), .pointer (some ⟨s, 0, none⟩), .int .i64 target, .bool f] k w fun v m => v = .tuple #[.agg (Api_spot.cells (spotV A l target f).1).toArray, .int .i64 (spotV A l target f).2] ∧ m = [arenaL a A, stkL s a l] := by
  refine enter (args := [.pointer (some ⟨a, 0, none⟩), .pointer (some ⟨s, 0, none⟩), .int .i64 target, .bool f]) Try.func53 rfl rfl ?_
  have hfr : freshE A l (-1) = 6 := by rw [freshE, show elB A (-1) = false from by rw [elB, show hasB A (-1) = false from by simp [hasB]]; rfl, if_pos rfl]
  obtain ⟨t0, ht0⟩ : ∃ t0, t0 = atV A l target f := ⟨_, rfl⟩
  refine K0 (K1 ?_)
  refine s_alloc (vs := [.int .i64 0, .int .i64 0]) hO rfl rfl rfl fun b8 w hO => ?_
  refine l_y rfl rfl (y_assign rfl) ?_
  refine K2 (K3 (K0 (K0 (K1 ?_))))
  refine l_y rfl rfl (y_move rfl) ?_
  refine CK [.o a] hO rfl (fun k' hx hr hO' => LenC_spec hn (hO := hO')) ?_
  rintro _ _ w ⟨rfl, rfl⟩ hO
  simp only [List.cons_append, List.nil_append] at hO
  refine N3 ?_
  refine l_y rfl rfl (y_move rfl) ?_
  refine l_y rfl rfl (y_move rfl) ?_
  refine CK [.o a, .o s] hO rfl (fun k' hx hr hO' => sPush_spec hn ha hl (hO := hO')) ?_
  rintro _ _ w ⟨rfl, rfl⟩ hO
  simp only [List.cons_append, List.nil_append] at hO
  rw [hfr, if_neg (by decide)] at hO
  rw [hfr]
  refine N3 ?_
  refine l_y rfl rfl (y_pick_f rfl rfl) ?_
  refine K2 (K3 (L9 (K5 (K3 (K0 (K1 ?_))))))
  refine l_y rfl rfl (y_move rfl) ?_
  refine l_y rfl rfl (y_move rfl) ?_
  refine CK [.o a] hO rfl (fun k' hx hr hO' => NodeD_spec hn ha (hO := hO')) ?_
  rintro _ _ w ⟨x3_2, hx3_2, rfl, rfl⟩ hO
  simp only [List.cons_append, List.nil_append] at hO
  refine l_y rfl rfl (y_move rfl) ?_
  refine l_y rfl rfl (y_extract rfl rfl) ?_
  refine l_y rfl rfl (y_extract rfl rfl) ?_
  refine s_alloc (vs := [.int .i64 0, .int .i64 0, .string ⟨#[]⟩, .slice none 0 0, .string ⟨#[]⟩, .string ⟨#[]⟩, .int .i64 0, .int .i64 0, .int .i64 0, .int .i64 0, .int .i64 0, .int .i64 0]) hO rfl rfl rfl fun b10 w hO => ?_
  refine Y3 hO rfl rfl (fun w hO => ?_)
  refine l_y rfl rfl (y_assign rfl) ?_
  refine K2 (K3 (K0 (K0 (K1 ?_))))
  refine l_y rfl rfl (y_move rfl) ?_
  refine Z1 (fun h4_1 => ?_) (fun h4_1 => ?_)
  · refine K2 (K3 (L8 (K0 (K1 ?_))))
    refine s_build (parts := []) (cs := [.int .i64 0, .int .i64 0]) rfl rfl (fun a ha => partsOf_sound ha _ _ rfl) (by kernel_rfl) ?_
    refine l_y rfl rfl (y_move rfl) ?_
    refine Y3 hO rfl rfl (fun w hO => ?_)
    refine l_y rfl rfl (y_assign rfl) ?_
    refine K2 (K3 (K6 (K9 ?_)))
    have e : spotV A l target f = (⟨0, 0⟩, 6) := by
      rw [spotV, if_pos]
      cases h : hasB A target with
      | false => rfl
      | true => rw [errN, h] at h4_1; simp at h4_1
    have e2 : errN A target = 6 := by
      rw [errN]; split
      · next h => rw [errN, h] at h4_1; simp at h4_1
      · rfl
    rw [e]
    exact finC1 hO rfl rfl rfl ⟨_, ⟨by rw [e2]; rfl, rfl⟩, hO.only [.o a, .o s]⟩
  · refine K2 (K3 (L9 (K5 (K3 (K0 ?_)))))
    have hb : hasB A target = true := by
      cases h : hasB A target with
      | true => rfl
      | false => rw [errN, h] at h4_1; simp at h4_1
    have hpl := hx3_2.pl (ts := tpartL) hb
    refine K1 ?_
    refine l_y rfl rfl (y_move rfl) ?_
    refine CK [] hO rfl (fun k' hx hr hO' => end_spec (hO := hO')) ?_
    rintro _ _ w ⟨rfl, rfl⟩ hO
    simp only [List.cons_append, List.nil_append] at hO
    refine s_alloc (vs := [.int .i64 0, .int .i64 0]) hO rfl rfl rfl fun b12 w hO => ?_
    refine Y3 hO rfl rfl (fun w hO => ?_)
    refine K2 (K3 ?_)
    refine c_cut (X := Nat) (fun b12 => [(0, .pointer (some ⟨a, 0, none⟩)), (8, .pointer (some ⟨b8, 0, none⟩)), (9, .int .i64 0), (12, .pointer (some ⟨b12, 0, none⟩))]) (fun b12 w => Own k w [arenaL a A, stkL s a l, blk b8 89 [.int .i64 0, .int .i64 0], blk b12 89 (Api_spot.cells t0)] ∧ True) ?_ ?_
    · refine K0 (K1 ?_)
      refine l_y rfl rfl (y_move rfl) ?_
      refine l_y rfl rfl (y_move rfl) ?_
      refine l_split 38 rfl (fun hg38 => ?_) (fun hg38 => ?_)
      · refine l_y rfl rfl (D8 (cs := [.int .i64 x3_2.Kind, .int .i64 x3_2.Space, .string x3_2.Name, .slice x3_2.AttrsP x3_2.Attrs.length x3_2.AttrsC, .string x3_2.Data, .string x3_2.System, .int .i64 x3_2.Parent, .int .i64 x3_2.First, .int .i64 x3_2.Last, .int .i64 x3_2.Prev, .int .i64 x3_2.Next, .int .i64 x3_2.Inner]) hO rfl) ?_
        refine s_lit (parts := [(0, .const (.string ⟨#[116, 97, 98, 108, 101]⟩)), (1, .const (.string ⟨#[116, 98, 111, 100, 121]⟩)), (2, .const (.string ⟨#[116, 102, 111, 111, 116]⟩)), (3, .const (.string ⟨#[116, 104, 101, 97, 100]⟩)), (4, .const (.string ⟨#[116, 114]⟩))]) (enc := eS) [⟨#[116, 97, 98, 108, 101]⟩, ⟨#[116, 98, 111, 100, 121]⟩, ⟨#[116, 102, 111, 111, 116]⟩, ⟨#[116, 104, 101, 97, 100]⟩, ⟨#[116, 114]⟩] [.string ⟨#[116, 97, 98, 108, 101]⟩, .string ⟨#[116, 98, 111, 100, 121]⟩, .string ⟨#[116, 102, 111, 111, 116]⟩, .string ⟨#[116, 104, 101, 97, 100]⟩, .string ⟨#[116, 114]⟩] hO rfl (fun b40 w hO => ?_)
        refine CK [] hO rfl (fun k' hx hr hO' => pis_spec (n := x3_2) (ts := tpartL) (sls_roK (p := (some ⟨b40, 0, none⟩)) hr (sls_fct (p := (some ⟨b40, 0, none⟩)) hO)) (by decide) (hO := hO')) ?_
        rintro _ _ w ⟨rfl, rfl⟩ hO
        simp only [List.nil_append] at hO
        rw [hpl]
        refine l_y rfl rfl (y_pick_t rfl rfl) ?_
        refine K2 (K3 ?_)
        refine c_split rfl (fun hc42 => ?_) (fun hc42 => ?_)
        · refine K0 (K1 ?_)
          refine l_y rfl rfl (y_move rfl) ?_
          refine l_y rfl rfl (y_move rfl) ?_
          refine CK [.o a, .o s] hO rfl (fun k' hx hr hO' => fosterC_spec hn ha hel hl (hO := hO')) ?_
          rintro _ _ w ⟨rfl, rfl⟩ hO
          simp only [List.cons_append, List.nil_append] at hO
          refine s_alloc (vs := [.int .i64 0, .int .i64 0]) hO rfl rfl rfl fun b13 w hO => ?_
          refine Y3 hO rfl rfl (fun w hO => ?_)
          refine K2 (K3 (K0 ?_))
          refine da_region (by intro c a d v w h; cases d <;> exact h) ?_
          have hO := hO.drew
          refine da_phase _ [] (SO.ks [.b b13] hO) ?_
          refine dx_y 0 (by kernel_rfl) rfl rfl rfl (fun w ⟨m, hw⟩ => D8 (cs := [.int .i64 (fosterV A l).Parent, .int .i64 (fosterV A l).Before]) hw rfl) ?_
          refine dx_only 1 (by kernel_rfl) rfl rfl ?_
          refine CK [] hO rfl (fun k' hx hr hO' => nowhere_spec (hO := hO')) ?_
          rintro _ _ w ⟨rfl, rfl⟩ hO
          simp only [List.cons_append, List.nil_append] at hO
          refine o_done ?_
          refine ⟨SO.ks [.b b13] hO, ?_⟩
          refine dx_y 2 (by kernel_rfl) rfl rfl rfl (fun w ⟨m, hw⟩ => y_neA (enc := Api_spot.cells) (a := fosterV A l) (b := ⟨-1, -1⟩) rfl rfl rfl) ?_
          refine dx_end (by kernel_rfl) ?_
          refine K3 ?_
          refine c_split rfl (fun hc48 => ?_) (fun hc48 => ?_)
          · simp only [Bool.not_eq_true', Bool.not_eq_false'] at hc48
            refine K1 ?_
            refine l_y rfl rfl (D8 (cs := [.int .i64 (fosterV A l).Parent, .int .i64 (fosterV A l).Before]) hO rfl) ?_
            refine Y3 hO rfl rfl (fun w hO => ?_)
            refine K2 ?_
            have e0 : (atV A l target f) = if f = true ∧ (elB A target && namA A tpartL target) = true ∧ fosterV A l ≠ ⟨-1, -1⟩ then fosterV A l else ⟨target, -1⟩ := rfl
            have e9 : t0 = fosterV A l ∨ t0 = ⟨target, -1⟩ := by rw [ht0, e0]; split <;> simp
            first
            | (have e1 : t0 = fosterV A l := by rw [ht0, e0, if_pos ⟨hg38, hc42, by simpa using hc48⟩]
               rw [e1])
            | (have e1 : t0 = ⟨target, -1⟩ := by
                 rw [ht0, e0, if_neg]
                 rintro ⟨h1, h2, h3⟩
                 first | (rw [hg38] at h1; simp at h1; done) | (rw [hc42] at h2; simp at h2; done) | (exact h3 (by simpa using hc48))
               rw [e1])
            exact q_cut (b12) ⟨rfl, rfl, rfl, rfl, trivial⟩ ⟨hO.only [.o a, .o s, .b b8, .b b12], trivial⟩
          · simp only [Bool.not_eq_true', Bool.not_eq_false'] at hc48
            refine K5 ?_
            have e0 : (atV A l target f) = if f = true ∧ (elB A target && namA A tpartL target) = true ∧ fosterV A l ≠ ⟨-1, -1⟩ then fosterV A l else ⟨target, -1⟩ := rfl
            have e9 : t0 = fosterV A l ∨ t0 = ⟨target, -1⟩ := by rw [ht0, e0]; split <;> simp
            first
            | (have e1 : t0 = fosterV A l := by rw [ht0, e0, if_pos ⟨hg38, hc42, by simpa using hc48⟩]
               rw [e1])
            | (have e1 : t0 = ⟨target, -1⟩ := by
                 rw [ht0, e0, if_neg]
                 rintro ⟨h1, h2, h3⟩
                 first | (rw [hg38] at h1; simp at h1; done) | (rw [hc42] at h2; simp at h2; done) | (exact h3 (by simpa using hc48))
               rw [e1])
            exact q_cut (b12) ⟨rfl, rfl, rfl, rfl, trivial⟩ ⟨hO.only [.o a, .o s, .b b8, .b b12], trivial⟩
        · refine K5 ?_
          have e0 : (atV A l target f) = if f = true ∧ (elB A target && namA A tpartL target) = true ∧ fosterV A l ≠ ⟨-1, -1⟩ then fosterV A l else ⟨target, -1⟩ := rfl
          have e9 : t0 = fosterV A l ∨ t0 = ⟨target, -1⟩ := by rw [ht0, e0]; split <;> simp
          first
          | (have e1 : t0 = fosterV A l := by rw [ht0, e0, if_pos ⟨hg38, hc42, by simpa using hc48⟩]
             rw [e1])
          | (have e1 : t0 = ⟨target, -1⟩ := by
               rw [ht0, e0, if_neg]
               rintro ⟨h1, h2, h3⟩
               first | (rw [hg38] at h1; simp at h1; done) | (rw [hc42] at h2; simp at h2; done) | (exact h3 (by simpa using hc48))
             rw [e1])
          exact q_cut (b12) ⟨rfl, rfl, rfl, rfl, trivial⟩ ⟨hO.only [.o a, .o s, .b b8, .b b12], trivial⟩
      · repeat refine M2 ?_
        refine l_y rfl rfl (y_pick_f rfl rfl) ?_
        refine K2 (K3 (L9 (K5 ?_)))
        have e0 : (atV A l target f) = if f = true ∧ (elB A target && namA A tpartL target) = true ∧ fosterV A l ≠ ⟨-1, -1⟩ then fosterV A l else ⟨target, -1⟩ := rfl
        have e9 : t0 = fosterV A l ∨ t0 = ⟨target, -1⟩ := by rw [ht0, e0]; split <;> simp
        first
        | (have e1 : t0 = fosterV A l := by rw [ht0, e0, if_pos ⟨hg38, hc42, by simpa using hc48⟩]
           rw [e1])
        | (have e1 : t0 = ⟨target, -1⟩ := by
             rw [ht0, e0, if_neg]
             rintro ⟨h1, h2, h3⟩
             first | (rw [hg38] at h1; simp at h1; done) | (rw [hc42] at h2; simp at h2; done) | (exact h3 (by simpa using hc48))
           rw [e1])
        exact q_cut (b12) ⟨rfl, rfl, rfl, rfl, trivial⟩ ⟨hO.only [.o a, .o s, .b b8, .b b12], trivial⟩
    · rintro b12 w ⟨hO, _⟩
      have hb : hasB A target = true := by
        cases h : hasB A target with
        | true => rfl
        | false => rw [errN, h] at h4_1; simp at h4_1
      have hbt := ht0 ▸ atV_has (f := f) hfo hb
      refine K0 (K0 (K1 ?_))
      refine l_y rfl rfl (y_move rfl) ?_
      refine l_y rfl rfl (y_fldb (o' := 0) rfl) ?_
      refine l_y rfl rfl (D5 hO rfl) ?_
      refine CK [.o a] hO rfl (fun k' hx hr hO' => NodeD_spec hn ha (hO := hO')) ?_
      rintro _ _ w ⟨x11_3, hx11_3, rfl, rfl⟩ hO
      simp only [List.cons_append, List.nil_append] at hO
      refine l_y rfl rfl (y_move rfl) ?_
      refine l_y rfl rfl (y_extract rfl rfl) ?_
      refine l_y rfl rfl (y_extract rfl rfl) ?_
      refine s_alloc (vs := [.int .i64 0, .int .i64 0, .string ⟨#[]⟩, .slice none 0 0, .string ⟨#[]⟩, .string ⟨#[]⟩, .int .i64 0, .int .i64 0, .int .i64 0, .int .i64 0, .int .i64 0, .int .i64 0]) hO rfl rfl rfl fun b14 w hO => ?_
      refine Y3 hO rfl rfl (fun w hO => ?_)
      refine l_y rfl rfl (y_assign rfl) ?_
      refine K2 (K3 (K0 ?_))
      have e2 := NV.inner hx11_3 hbt
      have e3 : spotV A l target f = (innV A t0, 0) := by rw [spotV, if_neg (by rw [hb]; simp), ht0]
      refine K1 ?_
      refine l_y rfl rfl (y_fldb (o' := 11) rfl) ?_
      refine l_y rfl rfl (D5 hO rfl) ?_
      refine Z1 (fun h12_2 => ?_) (fun h12_2 => ?_)
      · refine K2 (K3 (L8 (K1 ?_)))
        refine l_y rfl rfl (y_fldb (o' := 11) rfl) ?_
        refine l_y rfl rfl (D5 hO rfl) ?_
        refine CK [] hO rfl (fun k' hx hr hO' => end_spec (hO := hO')) ?_
        rintro _ _ w ⟨rfl, rfl⟩ hO
        simp only [List.cons_append, List.nil_append] at hO
        refine Y3 hO rfl rfl (fun w hO => ?_)
        refine K2 (K3 (K0 ?_))
        have e4 : innV A t0 = if x11_3.Inner ≠ -1 then ⟨x11_3.Inner, -1⟩ else t0 := by rw [e2]; rfl
        rw [e3, e4]
        refine K1 ?_
        refine l_y rfl rfl (D8 (cs := [.int .i64 (Api_spot.mk (x11_3.Inner) (-1)).Parent, .int .i64 (Api_spot.mk (x11_3.Inner) (-1)).Before]) hO rfl) ?_
        refine Y3 hO rfl rfl (fun w hO => ?_)
        refine l_y rfl rfl (y_assign rfl) ?_
        refine K2 (K3 (K6 ?_))
        first
        | (rw [if_pos h12_2]
           exact finC1 hO rfl rfl rfl ⟨_, ⟨rfl, rfl⟩, hO.only [.o a, .o s]⟩)
        | (rw [if_neg (fun h => h h12_2)]
           exact finC1 hO rfl rfl rfl ⟨_, ⟨rfl, rfl⟩, hO.only [.o a, .o s]⟩)
      · refine K2 (K3 (L9 (K5 (K3 (K0 ?_)))))
        have e4 : innV A t0 = if x11_3.Inner ≠ -1 then ⟨x11_3.Inner, -1⟩ else t0 := by rw [e2]; rfl
        rw [e3, e4]
        refine K1 ?_
        refine l_y rfl rfl (D8 (cs := [.int .i64 t0.Parent, .int .i64 t0.Before]) hO rfl) ?_
        refine Y3 hO rfl rfl (fun w hO => ?_)
        refine l_y rfl rfl (y_assign rfl) ?_
        refine K2 (K3 (K6 ?_))
        first
        | (rw [if_pos h12_2]
           exact finC1 hO rfl rfl rfl ⟨_, ⟨rfl, rfl⟩, hO.only [.o a, .o s]⟩)
        | (rw [if_neg (fun h => h h12_2)]
           exact finC1 hO rfl rfl rfl ⟨_, ⟨rfl, rfl⟩, hO.only [.o a, .o s]⟩)
end
end Go.Proofs.Ytbhicbpfdbnpfaa
