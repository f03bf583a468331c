/- The walk of Spot, the program's and the answer's; no condition. -/
import Derived.Test.YtbhicbpfdbnpfaaPlc1
import Derived.Test.YtbhicbpfdbnpfaaStk12
set_option linter.unusedVariables false
set_option linter.unusedSimpArgs false
set_option maxRecDepth 100000
namespace Go.Proofs.Ytbhicbpfdbnpfaa
open Go Go.Hb Go.RowKit
instance : DecidableEq Api_spot := fun a b => decidable_of_iff (a.Parent = b.Parent ∧ a.Before = b.Before) ⟨fun ⟨h1, h2⟩ => Api_spot.ext h1 h2, fun h => by subst h; exact ⟨rfl, rfl⟩⟩
instance : EqT Try.prog 89 Api_spot.cells := ⟨by kernel_rfl, fun x y w => by
  have u3 := Try.underlying3
  have hS : Try.prog.underlying 89 = some (.struct (Try.prog.fieldsOf 89)) := by kernel_rfl
  have hp : Try.prog.stoodInHeld 89 = false := by kernel_rfl
  rw [show (10000 : Nat) = 9999 + 1 from rfl, run_equalIn_agg w 9999 89 _ _ hS hp]
  simp only [Program.fieldsOf, Try.underlying89, Api_spot.cells]
  go_simp
  have e : (x = y) ↔ x.Parent = y.Parent ∧ x.Before = y.Before := Api_spot.ext_iff
  by_cases h1 : x.Parent = y.Parent <;> by_cases h2 : x.Before = y.Before <;> simp [e, h1, h2]⟩
def atV (A : List Node_one) (l : List Int) (target : Int) (f : Bool) : Api_spot := if f = true ∧ (elB A target && namA A tpartL target) = true ∧ fosterV A l ≠ ⟨-1, -1⟩ then fosterV A l else ⟨target, -1⟩
def innV (A : List Node_one) (at0 : Api_spot) : Api_spot := if (nd A at0.Parent).Inner ≠ -1 then ⟨(nd A at0.Parent).Inner, -1⟩ else at0
def spotV (A : List Node_one) (l : List Int) (target : Int) (f : Bool) : Api_spot × Int := if hasB A target = false then (⟨0, 0⟩, 6) else (innV A (atV A l target f), 0)
def FosOk (A : List Node_one) (l : List Int) : Prop := fosterV A l ≠ ⟨-1, -1⟩ → hasB A (fosterV A l).Parent = true
theorem atV_has {A : List Node_one} {l : List Int} {target : Int} {f : Bool} (hf : FosOk A l) (hb : hasB A target = true) : hasB A (atV A l target f).Parent = true := by
  unfold atV
  split
  · next h => exact hf h.2.2
  · exact hb
section
variable {k : Ctx} {w : World} {a s r z c : Nat} {p : Option Addr} {A : List Node_one} {K : Int → List Int} {R : List Ref01_one} {l : List Int}
theorem fosterC_spec (hn : 0 < A.length) (ha : AttrsOk A) (hel : AllEl A l) (hl : l.length ≤ 1000000) (hO : Own k w [arenaL a A, stkL s a l]) :
    Tri Try.prog 128 #[.pointer (some ⟨a, 0, none⟩), .pointer (some ⟨s, 0, none⟩)] k w fun v m => v = .agg (Api_spot.cells (fosterV A l)).toArray ∧ m = [arenaL a A, stkL s a l] := by
  obtain ⟨p, c, hg, hlc, hO⟩ := stkL_open (hO.ks [.o s])
  refine Ret.mono (foster_spec hn ha hel hg hl (hO.ks [.o a, .b s, .p p])) ?_
  rintro v w' ⟨m, ⟨rfl, rfl⟩, hO⟩
  exact ⟨_, ⟨rfl, rfl⟩, ((stkL_shut (hO.ks [.b s, .p p])).ks [.o a, .o s]).two⟩
set_option maxHeartbeats 2000000 in
theorem Spot_spec {target : Int} {f : Bool} (hn : 0 < A.length) (ha : AttrsOk A) (hel : AllEl A l) (hl : l.length ≤ 1000000) (hfo : FosOk A l) (hO : Own k w [arenaL a A, stkL s a l]) :
    Tri Try.prog 53 #[.pointer (some ⟨a, 0, none⟩), .pointer (some ⟨s, 0, none⟩), .int .i64 target, .bool f] k w fun v m => v = .tuple #[.agg (Api_spot.cells (spotV A l target f).1).toArray, .int .i64 (spotV A l target f).2] ∧ m = [arenaL a A, stkL s a l] := by
  refine enter (args := [.pointer (some ⟨a, 0, none⟩), .pointer (some ⟨s, 0, none⟩), .int .i64 target, .bool f]) Try.func53 rfl rfl ?_
  have hfr : freshE A l (-1) = 6 := by rw [freshE, elB_none, if_pos rfl]
  obtain ⟨t0, ht0⟩ : ∃ t0, t0 = atV A l target f := ⟨_, rfl⟩
  refine K0 (K1 ?_)
  refine s_alloc (vs := [.int .i64 0, .int .i64 0]) hO rfl rfl rfl fun b8 w hO => ?_
  refine l_y rfl rfl (y_assign rfl) ?_
  refine K2 (K3 (K0 (K0 (K1 ?_))))
  refine l_y rfl rfl (y_move rfl) ?_
  refine CK [.o a] hO rfl (fun k' hx hr hO' => LenC_spec hn (hO := hO')) ?_
  rintro _ _ w ⟨rfl, rfl⟩ hO
  simp only [List.cons_append, List.nil_append] at hO
  refine N3 ?_
  refine l_y rfl rfl (y_move rfl) ?_
  refine l_y rfl rfl (y_move rfl) ?_
  refine CK [.o a, .o s] hO rfl (fun k' hx hr hO' => sPush_spec hn ha hl (hO := hO')) ?_
  rintro _ _ w ⟨rfl, rfl⟩ hO
  simp only [List.cons_append, List.nil_append] at hO
  rw [hfr, if_neg (by decide)] at hO
  rw [hfr]
  refine N3 ?_
  refine l_y rfl rfl (y_pick_f rfl rfl) ?_
  refine K2 (K3 (L9 (K5 (K3 (K0 (K1 ?_))))))
  refine l_y rfl rfl (y_move rfl) ?_
  refine l_y rfl rfl (y_move rfl) ?_
  refine CK [.o a] hO rfl (fun k' hx hr hO' => NodeD_spec hn ha (hO := hO')) ?_
  rintro _ _ w ⟨x3_2, hx3_2, rfl, rfl⟩ hO
  simp only [List.cons_append, List.nil_append] at hO
  refine l_y rfl rfl (y_move rfl) ?_
  refine l_y rfl rfl (y_extract rfl rfl) ?_
  refine l_y rfl rfl (y_extract rfl rfl) ?_
  refine s_alloc (vs := [.int .i64 0, .int .i64 0, .string ⟨#[]⟩, .slice none 0 0, .string ⟨#[]⟩, .string ⟨#[]⟩, .int .i64 0, .int .i64 0, .int .i64 0, .int .i64 0, .int .i64 0, .int .i64 0]) hO rfl rfl rfl fun b10 w hO => ?_
  refine Y3 hO rfl rfl (fun w hO => ?_)
  refine l_y rfl rfl (y_assign rfl) ?_
  refine K2 (K3 (K0 (K0 (K1 ?_))))
  refine l_y rfl rfl (y_move rfl) ?_
  refine Z1 (fun h4_1 => ?_) (fun h4_1 => ?_)
  · refine K2 (K3 (L8 (K0 (K1 ?_))))
    refine s_build (parts := []) (cs := [.int .i64 0, .int .i64 0]) rfl rfl (fun a ha => partsOf_sound ha _ _ rfl) (by kernel_rfl) ?_
    refine l_y rfl rfl (y_move rfl) ?_
    refine Y3 hO rfl rfl (fun w hO => ?_)
    refine l_y rfl rfl (y_assign rfl) ?_
    refine K2 (K3 (K6 (K9 ?_)))
    have e : spotV A l target f = (⟨0, 0⟩, 6) := by
      rw [spotV, if_pos]
      cases h : hasB A target with
      | false => rfl
      | true => rw [errN, h] at h4_1; simp at h4_1
    have e2 : errN A target = 6 := by
      rw [errN]; split
      · next h => rw [errN, h] at h4_1; simp at h4_1
      · rfl
    rw [e]
    exact finC1 hO rfl rfl rfl ⟨_, ⟨by rw [e2]; rfl, rfl⟩, hO.only [.o a, .o s]⟩
  · refine K2 (K3 (L9 (K5 (K3 (K0 ?_)))))
    have hb : hasB A target = true := by
      cases h : hasB A target with
      | true => rfl
      | false => rw [errN, h] at h4_1; simp at h4_1
    have hpl := hx3_2.pl (ts := tpartL) hb
    refine K1 ?_
    refine l_y rfl rfl (y_move rfl) ?_
    refine CK [] hO rfl (fun k' hx hr hO' => end_spec (hO := hO')) ?_
    rintro _ _ w ⟨rfl, rfl⟩ hO
    simp only [List.cons_append, List.nil_append] at hO
    refine s_alloc (vs := [.int .i64 0, .int .i64 0]) hO rfl rfl rfl fun b12 w hO => ?_
    refine Y3 hO rfl rfl (fun w hO => ?_)
    refine K2 (K3 ?_)
    refine c_cut (X := Nat) (fun b12 => [(0, .pointer (some ⟨a, 0, none⟩)), (8, .pointer (some ⟨b8, 0, none⟩)), (9, .int .i64 0), (12, .pointer (some ⟨b12, 0, none⟩))]) (fun b12 w => Own k w [arenaL a A, stkL s a l, blk b8 89 [.int .i64 0, .int .i64 0], blk b12 89 (Api_spot.cells t0)] ∧ True) ?_ ?_
    · refine K0 (K1 ?_)
      refine l_y rfl rfl (y_move rfl) ?_
      refine l_y rfl rfl (y_move rfl) ?_
      refine l_split 38 rfl (fun hg38 => ?_) (fun hg38 => ?_)
      · refine l_y rfl rfl (D8 (cs := [.int .i64 x3_2.Kind, .int .i64 x3_2.Space, .string x3_2.Name, .slice x3_2.AttrsP x3_2.Attrs.length x3_2.AttrsC, .string x3_2.Data, .string x3_2.System, .int .i64 x3_2.Parent, .int .i64 x3_2.First, .int .i64 x3_2.Last, .int .i64 x3_2.Prev, .int .i64 x3_2.Next, .int .i64 x3_2.Inner]) hO rfl) ?_
        refine s_lit (parts := [(0, .const (.string ⟨#[116, 97, 98, 108, 101]⟩)), (1, .const (.string ⟨#[116, 98, 111, 100, 121]⟩)), (2, .const (.string ⟨#[116, 102, 111, 111, 116]⟩)), (3, .const (.string ⟨#[116, 104, 101, 97, 100]⟩)), (4, .const (.string ⟨#[116, 114]⟩))]) (enc := eS) [⟨#[116, 97, 98, 108, 101]⟩, ⟨#[116, 98, 111, 100, 121]⟩, ⟨#[116, 102, 111, 111, 116]⟩, ⟨#[116, 104, 101, 97, 100]⟩, ⟨#[116, 114]⟩] [.string ⟨#[116, 97, 98, 108, 101]⟩, .string ⟨#[116, 98, 111, 100, 121]⟩, .string ⟨#[116, 102, 111, 111, 116]⟩, .string ⟨#[116, 104, 101, 97, 100]⟩, .string ⟨#[116, 114]⟩] hO rfl (fun b40 w hO => ?_)
        refine CK [] hO rfl (fun k' hx hr hO' => pis_spec (n := x3_2) (ts := tpartL) (sls_roK (p := (some ⟨b40, 0, none⟩)) hr (sls_fct (p := (some ⟨b40, 0, none⟩)) hO)) (by decide) (hO := hO')) ?_
        rintro _ _ w ⟨rfl, rfl⟩ hO
        simp only [List.nil_append] at hO
        rw [hpl]
        refine l_y rfl rfl (y_pick_t rfl rfl) ?_
        refine K2 (K3 ?_)
        refine c_split rfl (fun hc42 => ?_) (fun hc42 => ?_)
        · refine K0 (K1 ?_)
          refine l_y rfl rfl (y_move rfl) ?_
          refine l_y rfl rfl (y_move rfl) ?_
          refine CK [.o a, .o s] hO rfl (fun k' hx hr hO' => fosterC_spec hn ha hel hl (hO := hO')) ?_
          rintro _ _ w ⟨rfl, rfl⟩ hO
          simp only [List.cons_append, List.nil_append] at hO
          refine s_alloc (vs := [.int .i64 0, .int .i64 0]) hO rfl rfl rfl fun b13 w hO => ?_
          refine Y3 hO rfl rfl (fun w hO => ?_)
          refine K2 (K3 (K0 ?_))
          refine da_region (by intro c a d v w h; cases d <;> exact h) ?_
          have hO := hO.drew
          refine da_phase _ [] (SO.ks [.b b13] hO) ?_
          refine dx_y 0 (by kernel_rfl) rfl rfl rfl (fun w ⟨m, hw⟩ => D8 (cs := [.int .i64 (fosterV A l).Parent, .int .i64 (fosterV A l).Before]) hw rfl) ?_
          refine dx_only 1 (by kernel_rfl) rfl rfl ?_
          refine CK [] hO rfl (fun k' hx hr hO' => nowhere_spec (hO := hO')) ?_
          rintro _ _ w ⟨rfl, rfl⟩ hO
          simp only [List.cons_append, List.nil_append] at hO
          refine o_done ?_
          refine ⟨SO.ks [.b b13] hO, ?_⟩
          refine dx_y 2 (by kernel_rfl) rfl rfl rfl (fun w ⟨m, hw⟩ => y_neA (enc := Api_spot.cells) (a := fosterV A l) (b := ⟨-1, -1⟩) rfl rfl rfl) ?_
          refine dx_end (by kernel_rfl) ?_
          refine K3 ?_
          refine c_split rfl (fun hc48 => ?_) (fun hc48 => ?_)
          · simp only [Bool.not_eq_true', Bool.not_eq_false'] at hc48
            refine K1 ?_
            refine l_y rfl rfl (D8 (cs := [.int .i64 (fosterV A l).Parent, .int .i64 (fosterV A l).Before]) hO rfl) ?_
            refine Y3 hO rfl rfl (fun w hO => ?_)
            refine K2 ?_
            have e0 : (atV A l target f) = if f = true ∧ (elB A target && namA A tpartL target) = true ∧ fosterV A l ≠ ⟨-1, -1⟩ then fosterV A l else ⟨target, -1⟩ := rfl
            have e9 : t0 = fosterV A l ∨ t0 = ⟨target, -1⟩ := by rw [ht0, e0]; split <;> simp
            first
            | (have e1 : t0 = fosterV A l := by rw [ht0, e0, if_pos ⟨hg38, hc42, by simpa using hc48⟩]
               rw [e1])
            | (have e1 : t0 = ⟨target, -1⟩ := by
                 rw [ht0, e0, if_neg]
                 rintro ⟨h1, h2, h3⟩
                 first | (rw [hg38] at h1; simp at h1; done) | (rw [hc42] at h2; simp at h2; done) | (exact h3 (by simpa using hc48))
               rw [e1])
            exact q_cut (b12) ⟨rfl, rfl, rfl, rfl, trivial⟩ ⟨hO.only [.o a, .o s, .b b8, .b b12], trivial⟩
          · simp only [Bool.not_eq_true', Bool.not_eq_false'] at hc48
            refine K5 ?_
            have e0 : (atV A l target f) = if f = true ∧ (elB A target && namA A tpartL target) = true ∧ fosterV A l ≠ ⟨-1, -1⟩ then fosterV A l else ⟨target, -1⟩ := rfl
            have e9 : t0 = fosterV A l ∨ t0 = ⟨target, -1⟩ := by rw [ht0, e0]; split <;> simp
            first
            | (have e1 : t0 = fosterV A l := by rw [ht0, e0, if_pos ⟨hg38, hc42, by simpa using hc48⟩]
               rw [e1])
            | (have e1 : t0 = ⟨target, -1⟩ := by
                 rw [ht0, e0, if_neg]
                 rintro ⟨h1, h2, h3⟩
                 first | (rw [hg38] at h1; simp at h1; done) | (rw [hc42] at h2; simp at h2; done) | (exact h3 (by simpa using hc48))
               rw [e1])
            exact q_cut (b12) ⟨rfl, rfl, rfl, rfl, trivial⟩ ⟨hO.only [.o a, .o s, .b b8, .b b12], trivial⟩
        · refine K5 ?_
          have e0 : (atV A l target f) = if f = true ∧ (elB A target && namA A tpartL target) = true ∧ fosterV A l ≠ ⟨-1, -1⟩ then fosterV A l else ⟨target, -1⟩ := rfl
          have e9 : t0 = fosterV A l ∨ t0 = ⟨target, -1⟩ := by rw [ht0, e0]; split <;> simp
          first
          | (have e1 : t0 = fosterV A l := by rw [ht0, e0, if_pos ⟨hg38, hc42, by simpa using hc48⟩]
             rw [e1])
          | (have e1 : t0 = ⟨target, -1⟩ := by
               rw [ht0, e0, if_neg]
               rintro ⟨h1, h2, h3⟩
               first | (rw [hg38] at h1; simp at h1; done) | (rw [hc42] at h2; simp at h2; done) | (exact h3 (by simpa using hc48))
             rw [e1])
          exact q_cut (b12) ⟨rfl, rfl, rfl, rfl, trivial⟩ ⟨hO.only [.o a, .o s, .b b8, .b b12], trivial⟩
      · repeat refine M2 ?_
        refine l_y rfl rfl (y_pick_f rfl rfl) ?_
        refine K2 (K3 (L9 (K5 ?_)))
        have e0 : (atV A l target f) = if f = true ∧ (elB A target && namA A tpartL target) = true ∧ fosterV A l ≠ ⟨-1, -1⟩ then fosterV A l else ⟨target, -1⟩ := rfl
        have e9 : t0 = fosterV A l ∨ t0 = ⟨target, -1⟩ := by rw [ht0, e0]; split <;> simp
        first
        | (have e1 : t0 = fosterV A l := by rw [ht0, e0, if_pos ⟨hg38, hc42, by simpa using hc48⟩]
           rw [e1])
        | (have e1 : t0 = ⟨target, -1⟩ := by
             rw [ht0, e0, if_neg]
             rintro ⟨h1, h2, h3⟩
             first | (rw [hg38] at h1; simp at h1; done) | (rw [hc42] at h2; simp at h2; done) | (exact h3 (by simpa using hc48))
           rw [e1])
        exact q_cut (b12) ⟨rfl, rfl, rfl, rfl, trivial⟩ ⟨hO.only [.o a, .o s, .b b8, .b b12], trivial⟩
    · rintro b12 w ⟨hO, _⟩
      have hb : hasB A target = true := by
        cases h : hasB A target with
        | true => rfl
        | false => rw [errN, h] at h4_1; simp at h4_1
      have hbt := ht0 ▸ atV_has (f := f) hfo hb
      refine K0 (K0 (K1 ?_))
      refine l_y rfl rfl (y_move rfl) ?_
      refine l_y rfl rfl (y_fldb (o' := 0) rfl) ?_
      refine l_y rfl rfl (D5 hO rfl) ?_
      refine CK [.o a] hO rfl (fun k' hx hr hO' => NodeD_spec hn ha (hO := hO')) ?_
      rintro _ _ w ⟨x11_3, hx11_3, rfl, rfl⟩ hO
      simp only [List.cons_append, List.nil_append] at hO
      refine l_y rfl rfl (y_move rfl) ?_
      refine l_y rfl rfl (y_extract rfl rfl) ?_
      refine l_y rfl rfl (y_extract rfl rfl) ?_
      refine s_alloc (vs := [.int .i64 0, .int .i64 0, .string ⟨#[]⟩, .slice none 0 0, .string ⟨#[]⟩, .string ⟨#[]⟩, .int .i64 0, .int .i64 0, .int .i64 0, .int .i64 0, .int .i64 0, .int .i64 0]) hO rfl rfl rfl fun b14 w hO => ?_
      refine Y3 hO rfl rfl (fun w hO => ?_)
      refine l_y rfl rfl (y_assign rfl) ?_
      refine K2 (K3 (K0 ?_))
      have e2 := NV.inner hx11_3 hbt
      have e3 : spotV A l target f = (innV A t0, 0) := by rw [spotV, if_neg (by rw [hb]; simp), ht0]
      refine K1 ?_
      refine l_y rfl rfl (y_fldb (o' := 11) rfl) ?_
      refine l_y rfl rfl (D5 hO rfl) ?_
      refine Z1 (fun h12_2 => ?_) (fun h12_2 => ?_)
      · refine K2 (K3 (L8 (K1 ?_)))
        refine l_y rfl rfl (y_fldb (o' := 11) rfl) ?_
        refine l_y rfl rfl (D5 hO rfl) ?_
        refine CK [] hO rfl (fun k' hx hr hO' => end_spec (hO := hO')) ?_
        rintro _ _ w ⟨rfl, rfl⟩ hO
        simp only [List.cons_append, List.nil_append] at hO
        refine Y3 hO rfl rfl (fun w hO => ?_)
        refine K2 (K3 (K0 ?_))
        have e4 : innV A t0 = if x11_3.Inner ≠ -1 then ⟨x11_3.Inner, -1⟩ else t0 := by rw [e2]; rfl
        rw [e3, e4]
        refine K1 ?_
        refine l_y rfl rfl (D8 (cs := [.int .i64 (Api_spot.mk (x11_3.Inner) (-1)).Parent, .int .i64 (Api_spot.mk (x11_3.Inner) (-1)).Before]) hO rfl) ?_
        refine Y3 hO rfl rfl (fun w hO => ?_)
        refine l_y rfl rfl (y_assign rfl) ?_
        refine K2 (K3 (K6 ?_))
        first
        | (rw [if_pos h12_2]
           exact finC1 hO rfl rfl rfl ⟨_, ⟨rfl, rfl⟩, hO.only [.o a, .o s]⟩)
        | (rw [if_neg (fun h => h h12_2)]
           exact finC1 hO rfl rfl rfl ⟨_, ⟨rfl, rfl⟩, hO.only [.o a, .o s]⟩)
      · refine K2 (K3 (L9 (K5 (K3 (K0 ?_)))))
        have e4 : innV A t0 = if x11_3.Inner ≠ -1 then ⟨x11_3.Inner, -1⟩ else t0 := by rw [e2]; rfl
        rw [e3, e4]
        refine K1 ?_
        refine l_y rfl rfl (D8 (cs := [.int .i64 t0.Parent, .int .i64 t0.Before]) hO rfl) ?_
        refine Y3 hO rfl rfl (fun w hO => ?_)
        refine l_y rfl rfl (y_assign rfl) ?_
        refine K2 (K3 (K6 ?_))
        first
        | (rw [if_pos h12_2]
           exact finC1 hO rfl rfl rfl ⟨_, ⟨rfl, rfl⟩, hO.only [.o a, .o s]⟩)
        | (rw [if_neg (fun h => h h12_2)]
           exact finC1 hO rfl rfl rfl ⟨_, ⟨rfl, rfl⟩, hO.only [.o a, .o s]⟩)
/-! the answer's -/
theorem tlast_spec {name : ByteArray} {q : Option Addr} {d : Nat} (sm : Sim A K R) (hel : AllEl A l) (hg : Gs p R.length) (hq : Gs q l.length) (hl : l.length ≤ 1000000) (hO : Own k w [rB r p R.length c, rS p c R, tB z r q l.length d, sI q d l]) :
    Tri Try.prog 172 #[.pointer (some ⟨z, 0, none⟩), .string name] k w fun v m => v = .int .i64 (lastV (namA A [name]) l) ∧ m = [rB r p R.length c, rS p c R, tB z r q l.length d, sI q d l] := by
  refine enter (args := [.pointer (some ⟨z, 0, none⟩), .string name]) Try.func172 rfl rfl ?_
  refine K0 (K1 ?_)
  refine l_y rfl rfl (y_assign rfl) ?_
  refine K2 (K3 (K0 (K0 (K1 ?_))))
  refine l_y rfl rfl (y_move rfl) ?_
  refine l_y rfl rfl (y_nilCheck rfl rfl) ?_
  refine l_y rfl rfl (y_fldb (o' := 1) rfl) ?_
  refine l_y rfl rfl (D5 hO rfl) ?_
  refine l_y rfl rfl (y_lenL rfl) ?_
  refine l_y rfl rfl (D4) ?_
  refine l_y rfl rfl (y_assign rfl) ?_
  refine K2 (K3 (K4 ?_))
  refine c_rounds (X := Int) (fun i => [(0, .pointer (some ⟨z, 0, none⟩)), (1, .string name), (4, .int .i64 0), (5, .int .i64 i)]) (fun i w => Own k w [rB r p R.length c, rS p c R, tB z r q l.length d, sI q d l] ∧ (-1 ≤ i ∧ i < l.length) ∧ (popR (namA A [name]) l.reverse = popR (namA A [name]) (l.take (i + 1).toNat).reverse)) (fun i => (i + 1).toNat) ((l.length : Int) - 1) ⟨rfl, rfl, rfl, rfl, trivial⟩ ⟨hO.only [.b r, .p p, .b z, .p q], ⟨by omega, by omega⟩, by rw [List.take_of_length_le (by omega)]⟩ ?_
  rintro i w m hm ⟨hO, hi, hs⟩
  refine K0 (K0 (K1 ?_))
  refine l_y rfl rfl (y_move rfl) ?_
  refine Z0 (fun h2_1 => ?_) (fun h2_1 => ?_)
  · refine K2 (K3 (L8 (K5 (K3 (K0 (K4 (K0 ?_)))))))
    have hxe : elB A (at_ l i.toNat) = true := hel _ (at_mem (by omega))
    have hs2 := hs
    rw [show (i + 1).toNat = i.toNat + 1 by omega, take_succ_at (by omega), popR_snoc] at hs2
    refine K1 ?_
    refine l_y rfl rfl (y_move rfl) ?_
    refine l_y rfl rfl (y_move rfl) ?_
    refine l_y rfl rfl (y_nilCheck rfl rfl) ?_
    refine l_y rfl rfl (y_fldb (o' := 1) rfl) ?_
    refine l_y rfl rfl (D5 hO rfl) ?_
    refine l_y rfl rfl (y_move rfl) ?_
    refine l_y rfl rfl (y_idx rfl rfl) ?_
    refine l_y rfl rfl (y_e1 (x0 := 0) hO rfl) ?_
    refine l_y rfl rfl (y_move rfl) ?_
    refine CK [.b r, .p p, .b z] hO rfl (fun k' hx hr hO' => tNamed_spec sm hg (hO := hO')) ?_
    rintro _ _ w ⟨rfl, rfl⟩ hO
    simp only [List.cons_append, List.nil_append] at hO
    refine K2 (K3 ?_)
    refine c_split rfl (fun hc25 => ?_) (fun hc25 => ?_)
    · refine K0 (K1 ?_)
      refine l_y rfl rfl (y_move rfl) ?_
      refine l_y rfl rfl (y_assign rfl) ?_
      refine K2 (K3 (K6 (L0 (K9 (K9 (L0 (K9 ?_)))))))
      rw [lastV_some (r := (l.take i.toNat).reverse) (by rw [hs2, if_pos (by simpa [hxe] using hc25)]), show ((l.take i.toNat).reverse.length : Int) = i by simp; omega]
      exact fin1 rfl rfl ⟨_, ⟨rfl, rfl⟩, hO.only [.b r, .p p, .b z, .p q]⟩
    · refine K5 (K8 (K3 (K1 ?_)))
      refine l_y rfl rfl (y_move rfl) ?_
      refine l_y rfl rfl (D4) ?_
      refine l_y rfl rfl (y_assign rfl) ?_
      refine K2 ?_
      exact q_next (i - 1) ⟨rfl, rfl, rfl, rfl, trivial⟩ ⟨hO.only [.b r, .p p, .b z, .p q], ⟨by omega, by omega⟩, by rw [hs2, if_neg (by simpa [hxe] using hc25), show (i - 1 + 1).toNat = i.toNat by omega]⟩ (by omega)
  · refine K2 (K3 (L9 (K7 (L1 (L1 (L2 (K3 (K0 (K1 ?_)))))))))
    refine l_y rfl rfl (y_assign rfl) ?_
    refine K2 (K3 (K6 ?_))
    rw [lastV_none (by rw [hs, show (i + 1).toNat = 0 by omega]; rfl)]
    exact fin1 rfl rfl ⟨_, ⟨rfl, rfl⟩, hO.only [.b r, .p p, .b z, .p q]⟩
def fosR (A : List Node_one) (l : List Int) (target : Int) : Api_spot := if fosterV A l = ⟨-1, -1⟩ then ⟨target, -1⟩ else fosterV A l
set_option maxHeartbeats 2000000 in
theorem tfostered_spec {target : Int} {q : Option Addr} {d : Nat} (sm : Sim A K R) (hel : AllEl A l) (hin : ∀ x, elB A x = true → namA A templL x = true → (nd A x).Inner ≠ -1) (hg : Gs p R.length) (hq : Gs q l.length) (hl : l.length ≤ 1000000) (hO : Own k w [rB r p R.length c, rS p c R, tB z r q l.length d, sI q d l]) :
    Tri Try.prog 132 #[.pointer (some ⟨r, 0, none⟩), .pointer (some ⟨z, 0, none⟩), .int .i64 target] k w fun v m => v = .agg (Api_spot.cells (fosR A l target)).toArray ∧ m = [rB r p R.length c, rS p c R, tB z r q l.length d, sI q d l] := by
  refine enter (args := [.pointer (some ⟨r, 0, none⟩), .pointer (some ⟨z, 0, none⟩), .int .i64 target]) Try.func132 rfl rfl ?_
  obtain ⟨tb, htb⟩ : ∃ tb, tb = lastV (namA A tableL) l := ⟨_, rfl⟩
  obtain ⟨tp, htp⟩ : ∃ tp, tp = lastV (namA A templL) l := ⟨_, rfl⟩
  have hb1 : -1 ≤ tb ∧ tb < l.length := by rcases lastV_cases (namA A tableL) l with h | ⟨i, h, h2, _⟩ <;> omega
  have hp1 : -1 ≤ tp ∧ tp < l.length := by rcases lastV_cases (namA A templL) l with h | ⟨i, h, h2, _⟩ <;> omega
  have hf : fosterV A l = if tb < tp then ⟨(nd A (at_ l tp.toNat)).Inner, -1⟩ else if tb < 0 then (if 0 < l.length then ⟨at_ l 0, -1⟩ else ⟨-1, -1⟩) else if (nd A (at_ l tb.toNat)).Parent ≠ -1 then ⟨(nd A (at_ l tb.toNat)).Parent, at_ l tb.toNat⟩ else if 0 < tb then ⟨at_ l (tb - 1).toNat, -1⟩ else ⟨-1, -1⟩ := by rw [htb, htp]; rfl
  have hhas : ∀ i : Int, 0 ≤ i → i < l.length → hasB A (at_ l i.toNat) = true := fun i h0 h1 => elB_has (hel _ (at_mem (by omega)))
  have hR : ∀ i : Int, 0 ≤ i → i < l.length → 0 ≤ at_ l i.toNat ∧ at_ l i.toNat < R.length := fun i h0 h1 => hasR_true (by rw [sm.has]; exact hhas i h0 h1)
  have hlc := hel
  have hit : tb < tp → (nd A (at_ l tp.toNat)).Inner ≠ -1 := fun h => by
    rcases lastV_cases (namA A templL) l with h1 | ⟨i, h1, h2, h3⟩
    · omega
    · rw [show tp.toNat = i by omega]; exact hin _ (hel _ (at_mem h2)) h3
  have hne : ∀ i : Int, 0 ≤ i → i < l.length → at_ l i.toNat ≠ -1 := fun i h0 h1 => by have := (hR i h0 h1).1; omega
  have f1 : ∀ u v : Int, u ≠ -1 → fosterV A l = ⟨u, v⟩ → fosR A l target = ⟨u, v⟩ := fun u v hu h => by
    rw [fosR, h, if_neg (fun e => hu (congrArg Api_spot.Parent e))]
  have f2 : fosterV A l = ⟨-1, -1⟩ → fosR A l target = ⟨target, -1⟩ := fun h => by rw [fosR, if_pos h]
  refine K0 (K1 ?_)
  refine s_alloc (vs := [.int .i64 0, .int .i64 0]) hO rfl rfl rfl fun b6 w hO => ?_
  refine K2 (K3 (K0 (K1 ?_)))
  refine l_y rfl rfl (y_move rfl) ?_
  refine CK [.b r, .p p, .b z, .p q] hO rfl (fun k' hx hr hO' => tlast_spec sm hel hg hq hl (hO := hO')) ?_
  rintro _ _ w ⟨rfl, rfl⟩ hO
  simp only [List.cons_append, List.nil_append] at hO
  rw [show lastV (namA A [⟨#[116, 101, 109, 112, 108, 97, 116, 101]⟩]) l = tp from htp.symm]
  refine l_y rfl rfl (y_assign rfl) ?_
  refine K2 (K3 (K0 (K1 ?_)))
  refine l_y rfl rfl (y_move rfl) ?_
  refine CK [.b r, .p p, .b z, .p q] hO rfl (fun k' hx hr hO' => tlast_spec sm hel hg hq hl (hO := hO')) ?_
  rintro _ _ w ⟨rfl, rfl⟩ hO
  simp only [List.cons_append, List.nil_append] at hO
  rw [show lastV (namA A [⟨#[116, 97, 98, 108, 101]⟩]) l = tb from htb.symm]
  refine l_y rfl rfl (y_assign rfl) ?_
  refine K2 (K3 (K0 (K0 (K1 ?_))))
  refine l_y rfl rfl (y_move rfl) ?_
  refine Z0 (fun h3_1 => ?_) (fun h3_1 => ?_)
  · refine l_y rfl rfl (y_move rfl) ?_
    refine l_y rfl rfl (y_move rfl) ?_
    refine l_y rfl rfl (y_move rfl) ?_
    refine Z0 (fun h3_5 => ?_) (fun h3_5 => ?_)
    · refine l_y rfl rfl (y_pick_t rfl rfl) ?_
      refine K2 (K3 (L8 (K0 ?_)))
      have hr1 := hR tp (by omega) (by omega)
      have e1 := (sm.atB (hhas tp (by omega) (by omega))).inner
      refine da_region (by intro c a d v w h; cases d <;> exact h) ?_
      have hO := hO.drew
      refine da_phase _ [14] (SO.ks [.b r, .b z, .p q, .p p] hO) ?_
      refine dx_u 0 (by kernel_rfl) rfl rfl rfl (fun w => y_move rfl) ?_
      refine dx_u 1 (by kernel_rfl) rfl rfl rfl (fun w => y_nilCheck rfl rfl) ?_
      refine dx_u 2 (by kernel_rfl) rfl rfl rfl (fun w => y_fldb (o' := 0) rfl) ?_
      refine dx_y 3 (by kernel_rfl) rfl rfl rfl (fun w ⟨m, hw⟩ => D5 hw rfl) ?_
      refine dx_u 4 (by kernel_rfl) rfl rfl rfl (fun w => y_move rfl) ?_
      refine dx_u 5 (by kernel_rfl) rfl rfl rfl (fun w => y_nilCheck rfl rfl) ?_
      refine dx_u 6 (by kernel_rfl) rfl rfl rfl (fun w => y_fldb (o' := 1) rfl) ?_
      refine dx_y 7 (by kernel_rfl) rfl rfl rfl (fun w ⟨m, hw⟩ => D5 hw rfl) ?_
      refine dx_u 8 (by kernel_rfl) rfl rfl rfl (fun w => y_move rfl) ?_
      refine dx_u 9 (by kernel_rfl) rfl rfl rfl (fun w => y_idx rfl rfl) ?_
      refine dx_y 10 (by kernel_rfl) rfl rfl rfl (fun w ⟨m, hw⟩ => y_e1 (x0 := 0) hw rfl) ?_
      refine dx_u 11 (by kernel_rfl) rfl rfl rfl (fun w => y_idx rfl rfl) ?_
      refine dx_u 12 (by kernel_rfl) rfl rfl rfl (fun w => y_fld (j' := 6) rfl) ?_
      refine dx_y 13 (by kernel_rfl) rfl rfl rfl (fun w ⟨m, hw⟩ => y_e1 (x0 := 6) hw rfl) ?_
      refine dx_close 14 (by kernel_rfl) rfl rfl ?_
      refine s_build (parts := [(0, .tmp 34), (1, .const (.int .i64 (-1)))]) (cs := [.int .i64 (at_ R ((at_ l (tp : Int).toNat) : Int).toNat).Inner, .int .i64 (-1)]) rfl rfl (fun a ha => partsOf_sound ha _ _ rfl) (by kernel_rfl) ?_
      refine o_done ?_
      refine da_only 15 (by kernel_rfl) rfl ?_
      refine Y3 hO rfl rfl (fun w hO => ?_)
      refine o_done ?_
      refine da_end (by kernel_rfl) ?_
      refine K3 (K6 (K9 ?_))
      rw [f1 (at_ R (at_ l tp.toNat).toNat).Inner (-1) (by rw [e1]; exact hit (by omega)) (by rw [hf, if_pos (by omega), e1]; rfl)]
      exact finC hO rfl rfl ⟨_, ⟨rfl, rfl⟩, hO.only [.b r, .p p, .b z, .p q]⟩
    · refine l_y rfl rfl (y_pick_t rfl rfl) ?_
      refine K2 (K3 (L9 (K5 (K3 (K0 (K0 ?_))))))
      have h5 : ¬ tb < tp := by omega
      refine K1 ?_
      refine l_y rfl rfl (y_move rfl) ?_
      refine Z0 (fun h5_1 => ?_) (fun h5_1 => ?_)
      · refine K2 (K3 (L8 (K0 (K0 (K1 ?_)))))
        refine l_y rfl rfl (y_move rfl) ?_
        refine l_y rfl rfl (y_nilCheck rfl rfl) ?_
        refine l_y rfl rfl (y_fldb (o' := 1) rfl) ?_
        refine l_y rfl rfl (D5 hO rfl) ?_
        refine l_y rfl rfl (y_lenL rfl) ?_
        refine Z0 (fun h6_5 => ?_) (fun h6_5 => ?_)
        · refine K2 (K3 (L8 (K1 ?_)))
          refine l_y rfl rfl (y_move rfl) ?_
          refine l_y rfl rfl (y_nilCheck rfl rfl) ?_
          refine l_y rfl rfl (y_fldb (o' := 1) rfl) ?_
          refine l_y rfl rfl (D5 hO rfl) ?_
          refine l_y rfl rfl (y_idx rfl rfl) ?_
          refine l_y rfl rfl (y_e1 (x0 := 0) hO rfl) ?_
          refine l_y rfl rfl (y_assign rfl) ?_
          refine K2 (K3 (K0 (K1 ?_)))
          refine l_y rfl rfl (y_move rfl) ?_
          refine s_build (parts := [(0, .tmp 50), (1, .const (.int .i64 (-1)))]) (cs := [.int .i64 (at_ l (0 : Int).toNat), .int .i64 (-1)]) rfl rfl (fun a ha => partsOf_sound ha _ _ rfl) (by kernel_rfl) ?_
          refine Y3 hO rfl rfl (fun w hO => ?_)
          refine K2 (K3 (K6 (K9 ?_)))
          first
          | (rw [f1 (at_ l 0) (-1) (hne 0 (by omega) (by omega)) (by rw [hf, if_neg h5, if_pos h5_1, if_pos (by omega)])]
             exact finC hO rfl rfl ⟨_, ⟨rfl, rfl⟩, hO.only [.b r, .p p, .b z, .p q]⟩)
          | (rw [f2 (by rw [hf, if_neg h5, if_pos h5_1, if_neg (by omega)])]
             exact finC hO rfl rfl ⟨_, ⟨rfl, rfl⟩, hO.only [.b r, .p p, .b z, .p q]⟩)
        · refine K2 (K3 (L9 (K5 (K3 (K0 (K1 ?_))))))
          refine l_y rfl rfl (y_move rfl) ?_
          refine s_build (parts := [(0, .tmp 50), (1, .const (.int .i64 (-1)))]) (cs := [.int .i64 target, .int .i64 (-1)]) rfl rfl (fun a ha => partsOf_sound ha _ _ rfl) (by kernel_rfl) ?_
          refine Y3 hO rfl rfl (fun w hO => ?_)
          refine K2 (K3 (K6 (K9 ?_)))
          first
          | (rw [f1 (at_ l 0) (-1) (hne 0 (by omega) (by omega)) (by rw [hf, if_neg h5, if_pos h5_1, if_pos (by omega)])]
             exact finC hO rfl rfl ⟨_, ⟨rfl, rfl⟩, hO.only [.b r, .p p, .b z, .p q]⟩)
          | (rw [f2 (by rw [hf, if_neg h5, if_pos h5_1, if_neg (by omega)])]
             exact finC hO rfl rfl ⟨_, ⟨rfl, rfl⟩, hO.only [.b r, .p p, .b z, .p q]⟩)
      · refine K2 (K3 (L9 (K5 (K3 (K0 ?_)))))
        have hr1 := hR tb (by omega) (by omega)
        have e1 := (sm.atB (hhas tb (by omega) (by omega))).up
        refine K1 ?_
        refine l_y rfl rfl (y_move rfl) ?_
        refine l_y rfl rfl (y_nilCheck rfl rfl) ?_
        refine l_y rfl rfl (y_fldb (o' := 1) rfl) ?_
        refine l_y rfl rfl (D5 hO rfl) ?_
        refine l_y rfl rfl (y_move rfl) ?_
        refine l_y rfl rfl (y_idx rfl rfl) ?_
        refine l_y rfl rfl (y_e1 (x0 := 0) hO rfl) ?_
        refine l_y rfl rfl (y_assign rfl) ?_
        refine K2 (K3 (K0 (K0 (K1 ?_))))
        refine l_y rfl rfl (y_move rfl) ?_
        refine l_y rfl rfl (y_nilCheck rfl rfl) ?_
        refine l_y rfl rfl (y_fldb (o' := 0) rfl) ?_
        refine l_y rfl rfl (D5 hO rfl) ?_
        refine l_y rfl rfl (y_move rfl) ?_
        refine l_y rfl rfl (y_idx rfl rfl) ?_
        refine l_y rfl rfl (y_fld (j' := 8) rfl) ?_
        refine l_y rfl rfl (y_e1 (x0 := 8) hO rfl) ?_
        refine Z1 (fun h10_8 => ?_) (fun h10_8 => ?_)
        · refine K2 (K3 (L8 (K0 (K1 ?_))))
          refine l_y rfl rfl (y_move rfl) ?_
          refine l_y rfl rfl (y_nilCheck rfl rfl) ?_
          refine l_y rfl rfl (y_fldb (o' := 0) rfl) ?_
          refine l_y rfl rfl (D5 hO rfl) ?_
          refine l_y rfl rfl (y_move rfl) ?_
          refine l_y rfl rfl (y_idx rfl rfl) ?_
          refine l_y rfl rfl (y_fld (j' := 8) rfl) ?_
          refine l_y rfl rfl (y_e1 (x0 := 8) hO rfl) ?_
          refine l_y rfl rfl (y_move rfl) ?_
          refine s_build (parts := [(0, .tmp 75), (1, .tmp 76)]) (cs := [.int .i64 (at_ R ((at_ l (tb : Int).toNat) : Int).toNat).Up, .int .i64 (at_ l (tb : Int).toNat)]) rfl rfl (fun a ha => partsOf_sound ha _ _ rfl) (by kernel_rfl) ?_
          refine Y3 hO rfl rfl (fun w hO => ?_)
          refine K2 (K3 (K6 (K9 ?_)))
          rw [f1 (at_ R (at_ l tb.toNat).toNat).Up (at_ l tb.toNat) h10_8 (by rw [hf, if_neg h5, if_neg h5_1, if_pos (by rw [e1] at h10_8; exact h10_8), e1]; rfl)]
          exact finC hO rfl rfl ⟨_, ⟨rfl, rfl⟩, hO.only [.b r, .p p, .b z, .p q]⟩
        · refine K2 (K3 (L9 (K5 (K3 (K0 (K0 (K1 ?_)))))))
          refine l_y rfl rfl (y_move rfl) ?_
          refine Z0 (fun h12_1 => ?_) (fun h12_1 => ?_)
          · refine K2 (K3 (L8 (K1 ?_)))
            refine l_y rfl rfl (y_move rfl) ?_
            refine l_y rfl rfl (y_nilCheck rfl rfl) ?_
            refine l_y rfl rfl (y_fldb (o' := 1) rfl) ?_
            refine l_y rfl rfl (D5 hO rfl) ?_
            refine l_y rfl rfl (y_move rfl) ?_
            refine l_y rfl rfl (D4) ?_
            refine l_y rfl rfl (y_idx rfl rfl) ?_
            refine l_y rfl rfl (y_e1 (x0 := 0) hO rfl) ?_
            refine l_y rfl rfl (y_assign rfl) ?_
            refine K2 (K3 (K0 (K1 ?_)))
            refine l_y rfl rfl (y_move rfl) ?_
            refine s_build (parts := [(0, .tmp 88), (1, .const (.int .i64 (-1)))]) (cs := [.int .i64 (at_ l ((tb - 1) : Int).toNat), .int .i64 (-1)]) rfl rfl (fun a ha => partsOf_sound ha _ _ rfl) (by kernel_rfl) ?_
            refine Y3 hO rfl rfl (fun w hO => ?_)
            refine K2 (K3 (K6 ?_))
            have h10 : ¬ (nd A (at_ l tb.toNat)).Parent ≠ -1 := fun h => h (by rw [e1] at h10_8; exact h10_8)
            first
            | (rw [f1 (at_ l (tb - 1).toNat) (-1) (hne (tb - 1) (by omega) (by omega)) (by rw [hf, if_neg h5, if_neg h5_1, if_neg h10, if_pos (by omega)])]
               exact finC hO rfl rfl ⟨_, ⟨rfl, rfl⟩, hO.only [.b r, .p p, .b z, .p q]⟩)
            | (rw [f2 (by rw [hf, if_neg h5, if_neg h5_1, if_neg h10, if_neg (by omega)])]
               exact finC hO rfl rfl ⟨_, ⟨rfl, rfl⟩, hO.only [.b r, .p p, .b z, .p q]⟩)
          · refine K2 (K3 (L9 (K5 (K3 (K0 (K1 ?_))))))
            refine l_y rfl rfl (y_move rfl) ?_
            refine s_build (parts := [(0, .tmp 88), (1, .const (.int .i64 (-1)))]) (cs := [.int .i64 target, .int .i64 (-1)]) rfl rfl (fun a ha => partsOf_sound ha _ _ rfl) (by kernel_rfl) ?_
            refine Y3 hO rfl rfl (fun w hO => ?_)
            refine K2 (K3 (K6 ?_))
            have h10 : ¬ (nd A (at_ l tb.toNat)).Parent ≠ -1 := fun h => h (by rw [e1] at h10_8; exact h10_8)
            first
            | (rw [f1 (at_ l (tb - 1).toNat) (-1) (hne (tb - 1) (by omega) (by omega)) (by rw [hf, if_neg h5, if_neg h5_1, if_neg h10, if_pos (by omega)])]
               exact finC hO rfl rfl ⟨_, ⟨rfl, rfl⟩, hO.only [.b r, .p p, .b z, .p q]⟩)
            | (rw [f2 (by rw [hf, if_neg h5, if_neg h5_1, if_neg h10, if_neg (by omega)])]
               exact finC hO rfl rfl ⟨_, ⟨rfl, rfl⟩, hO.only [.b r, .p p, .b z, .p q]⟩)
  · refine l_y rfl rfl (y_move rfl) ?_
    repeat refine M2 ?_
    refine l_y rfl rfl (y_pick_f rfl rfl) ?_
    refine K2 (K3 (L9 (K5 (K3 (K0 (K0 ?_))))))
    have h5 : ¬ tb < tp := by omega
    refine K1 ?_
    refine l_y rfl rfl (y_move rfl) ?_
    refine Z0 (fun h5_1 => ?_) (fun h5_1 => ?_)
    · refine K2 (K3 (L8 (K0 (K0 (K1 ?_)))))
      refine l_y rfl rfl (y_move rfl) ?_
      refine l_y rfl rfl (y_nilCheck rfl rfl) ?_
      refine l_y rfl rfl (y_fldb (o' := 1) rfl) ?_
      refine l_y rfl rfl (D5 hO rfl) ?_
      refine l_y rfl rfl (y_lenL rfl) ?_
      refine Z0 (fun h6_5 => ?_) (fun h6_5 => ?_)
      · refine K2 (K3 (L8 (K1 ?_)))
        refine l_y rfl rfl (y_move rfl) ?_
        refine l_y rfl rfl (y_nilCheck rfl rfl) ?_
        refine l_y rfl rfl (y_fldb (o' := 1) rfl) ?_
        refine l_y rfl rfl (D5 hO rfl) ?_
        refine l_y rfl rfl (y_idx rfl rfl) ?_
        refine l_y rfl rfl (y_e1 (x0 := 0) hO rfl) ?_
        refine l_y rfl rfl (y_assign rfl) ?_
        refine K2 (K3 (K0 (K1 ?_)))
        refine l_y rfl rfl (y_move rfl) ?_
        refine s_build (parts := [(0, .tmp 50), (1, .const (.int .i64 (-1)))]) (cs := [.int .i64 (at_ l (0 : Int).toNat), .int .i64 (-1)]) rfl rfl (fun a ha => partsOf_sound ha _ _ rfl) (by kernel_rfl) ?_
        refine Y3 hO rfl rfl (fun w hO => ?_)
        refine K2 (K3 (K6 (K9 ?_)))
        first
        | (rw [f1 (at_ l 0) (-1) (hne 0 (by omega) (by omega)) (by rw [hf, if_neg h5, if_pos h5_1, if_pos (by omega)])]
           exact finC hO rfl rfl ⟨_, ⟨rfl, rfl⟩, hO.only [.b r, .p p, .b z, .p q]⟩)
        | (rw [f2 (by rw [hf, if_neg h5, if_pos h5_1, if_neg (by omega)])]
           exact finC hO rfl rfl ⟨_, ⟨rfl, rfl⟩, hO.only [.b r, .p p, .b z, .p q]⟩)
      · refine K2 (K3 (L9 (K5 (K3 (K0 (K1 ?_))))))
        refine l_y rfl rfl (y_move rfl) ?_
        refine s_build (parts := [(0, .tmp 50), (1, .const (.int .i64 (-1)))]) (cs := [.int .i64 target, .int .i64 (-1)]) rfl rfl (fun a ha => partsOf_sound ha _ _ rfl) (by kernel_rfl) ?_
        refine Y3 hO rfl rfl (fun w hO => ?_)
        refine K2 (K3 (K6 (K9 ?_)))
        first
        | (rw [f1 (at_ l 0) (-1) (hne 0 (by omega) (by omega)) (by rw [hf, if_neg h5, if_pos h5_1, if_pos (by omega)])]
           exact finC hO rfl rfl ⟨_, ⟨rfl, rfl⟩, hO.only [.b r, .p p, .b z, .p q]⟩)
        | (rw [f2 (by rw [hf, if_neg h5, if_pos h5_1, if_neg (by omega)])]
           exact finC hO rfl rfl ⟨_, ⟨rfl, rfl⟩, hO.only [.b r, .p p, .b z, .p q]⟩)
    · refine K2 (K3 (L9 (K5 (K3 (K0 ?_)))))
      have hr1 := hR tb (by omega) (by omega)
      have e1 := (sm.atB (hhas tb (by omega) (by omega))).up
      refine K1 ?_
      refine l_y rfl rfl (y_move rfl) ?_
      refine l_y rfl rfl (y_nilCheck rfl rfl) ?_
      refine l_y rfl rfl (y_fldb (o' := 1) rfl) ?_
      refine l_y rfl rfl (D5 hO rfl) ?_
      refine l_y rfl rfl (y_move rfl) ?_
      refine l_y rfl rfl (y_idx rfl rfl) ?_
      refine l_y rfl rfl (y_e1 (x0 := 0) hO rfl) ?_
      refine l_y rfl rfl (y_assign rfl) ?_
      refine K2 (K3 (K0 (K0 (K1 ?_))))
      refine l_y rfl rfl (y_move rfl) ?_
      refine l_y rfl rfl (y_nilCheck rfl rfl) ?_
      refine l_y rfl rfl (y_fldb (o' := 0) rfl) ?_
      refine l_y rfl rfl (D5 hO rfl) ?_
      refine l_y rfl rfl (y_move rfl) ?_
      refine l_y rfl rfl (y_idx rfl rfl) ?_
      refine l_y rfl rfl (y_fld (j' := 8) rfl) ?_
      refine l_y rfl rfl (y_e1 (x0 := 8) hO rfl) ?_
      refine Z1 (fun h10_8 => ?_) (fun h10_8 => ?_)
      · refine K2 (K3 (L8 (K0 (K1 ?_))))
        refine l_y rfl rfl (y_move rfl) ?_
        refine l_y rfl rfl (y_nilCheck rfl rfl) ?_
        refine l_y rfl rfl (y_fldb (o' := 0) rfl) ?_
        refine l_y rfl rfl (D5 hO rfl) ?_
        refine l_y rfl rfl (y_move rfl) ?_
        refine l_y rfl rfl (y_idx rfl rfl) ?_
        refine l_y rfl rfl (y_fld (j' := 8) rfl) ?_
        refine l_y rfl rfl (y_e1 (x0 := 8) hO rfl) ?_
        refine l_y rfl rfl (y_move rfl) ?_
        refine s_build (parts := [(0, .tmp 75), (1, .tmp 76)]) (cs := [.int .i64 (at_ R ((at_ l (tb : Int).toNat) : Int).toNat).Up, .int .i64 (at_ l (tb : Int).toNat)]) rfl rfl (fun a ha => partsOf_sound ha _ _ rfl) (by kernel_rfl) ?_
        refine Y3 hO rfl rfl (fun w hO => ?_)
        refine K2 (K3 (K6 (K9 ?_)))
        rw [f1 (at_ R (at_ l tb.toNat).toNat).Up (at_ l tb.toNat) h10_8 (by rw [hf, if_neg h5, if_neg h5_1, if_pos (by rw [e1] at h10_8; exact h10_8), e1]; rfl)]
        exact finC hO rfl rfl ⟨_, ⟨rfl, rfl⟩, hO.only [.b r, .p p, .b z, .p q]⟩
      · refine K2 (K3 (L9 (K5 (K3 (K0 (K0 (K1 ?_)))))))
        refine l_y rfl rfl (y_move rfl) ?_
        refine Z0 (fun h12_1 => ?_) (fun h12_1 => ?_)
        · refine K2 (K3 (L8 (K1 ?_)))
          refine l_y rfl rfl (y_move rfl) ?_
          refine l_y rfl rfl (y_nilCheck rfl rfl) ?_
          refine l_y rfl rfl (y_fldb (o' := 1) rfl) ?_
          refine l_y rfl rfl (D5 hO rfl) ?_
          refine l_y rfl rfl (y_move rfl) ?_
          refine l_y rfl rfl (D4) ?_
          refine l_y rfl rfl (y_idx rfl rfl) ?_
          refine l_y rfl rfl (y_e1 (x0 := 0) hO rfl) ?_
          refine l_y rfl rfl (y_assign rfl) ?_
          refine K2 (K3 (K0 (K1 ?_)))
          refine l_y rfl rfl (y_move rfl) ?_
          refine s_build (parts := [(0, .tmp 88), (1, .const (.int .i64 (-1)))]) (cs := [.int .i64 (at_ l ((tb - 1) : Int).toNat), .int .i64 (-1)]) rfl rfl (fun a ha => partsOf_sound ha _ _ rfl) (by kernel_rfl) ?_
          refine Y3 hO rfl rfl (fun w hO => ?_)
          refine K2 (K3 (K6 ?_))
          have h10 : ¬ (nd A (at_ l tb.toNat)).Parent ≠ -1 := fun h => h (by rw [e1] at h10_8; exact h10_8)
          first
          | (rw [f1 (at_ l (tb - 1).toNat) (-1) (hne (tb - 1) (by omega) (by omega)) (by rw [hf, if_neg h5, if_neg h5_1, if_neg h10, if_pos (by omega)])]
             exact finC hO rfl rfl ⟨_, ⟨rfl, rfl⟩, hO.only [.b r, .p p, .b z, .p q]⟩)
          | (rw [f2 (by rw [hf, if_neg h5, if_neg h5_1, if_neg h10, if_neg (by omega)])]
             exact finC hO rfl rfl ⟨_, ⟨rfl, rfl⟩, hO.only [.b r, .p p, .b z, .p q]⟩)
        · refine K2 (K3 (L9 (K5 (K3 (K0 (K1 ?_))))))
          refine l_y rfl rfl (y_move rfl) ?_
          refine s_build (parts := [(0, .tmp 88), (1, .const (.int .i64 (-1)))]) (cs := [.int .i64 target, .int .i64 (-1)]) rfl rfl (fun a ha => partsOf_sound ha _ _ rfl) (by kernel_rfl) ?_
          refine Y3 hO rfl rfl (fun w hO => ?_)
          refine K2 (K3 (K6 ?_))
          have h10 : ¬ (nd A (at_ l tb.toNat)).Parent ≠ -1 := fun h => h (by rw [e1] at h10_8; exact h10_8)
          first
          | (rw [f1 (at_ l (tb - 1).toNat) (-1) (hne (tb - 1) (by omega) (by omega)) (by rw [hf, if_neg h5, if_neg h5_1, if_neg h10, if_pos (by omega)])]
             exact finC hO rfl rfl ⟨_, ⟨rfl, rfl⟩, hO.only [.b r, .p p, .b z, .p q]⟩)
          | (rw [f2 (by rw [hf, if_neg h5, if_neg h5_1, if_neg h10, if_neg (by omega)])]
             exact finC hO rfl rfl ⟨_, ⟨rfl, rfl⟩, hO.only [.b r, .p p, .b z, .p q]⟩)
set_option maxHeartbeats 2000000 in
theorem tSpot_spec {target : Int} {f : Bool} (sm : Sim A K R) (hel : AllEl A l) (hin : ∀ x, elB A x = true → namA A templL x = true → (nd A x).Inner ≠ -1) (hl : l.length ≤ 1000000) (hfo : FosOk A l) (hO : Own k w [rarL r R, rstkL z r l]) :
    Tri Try.prog 54 #[.pointer (some ⟨r, 0, none⟩), .pointer (some ⟨z, 0, none⟩), .int .i64 target, .bool f] k w fun v m => v = .tuple #[.agg (Api_spot.cells (spotV A l target f).1).toArray, .int .i64 (spotV A l target f).2] ∧ m = [rarL r R, rstkL z r l] := by
  refine enter (args := [.pointer (some ⟨r, 0, none⟩), .pointer (some ⟨z, 0, none⟩), .int .i64 target, .bool f]) Try.func54 rfl rfl ?_
  obtain ⟨t0, ht0⟩ : ∃ t0, t0 = atV A l target f := ⟨_, rfl⟩
  obtain ⟨p, c, F, hg, hF, hO⟩ := rarL_open hO
  obtain ⟨q, d, hq, hld, hO⟩ := rstkL_open (hO.ks [.o z])
  refine K0 (K1 ?_)
  refine s_alloc (vs := [.int .i64 0, .int .i64 0]) hO rfl rfl rfl fun b8 w hO => ?_
  refine l_y rfl rfl (y_assign rfl) ?_
  refine K2 (K3 (K0 (K0 (K1 ?_))))
  refine l_y rfl rfl (y_move rfl) ?_
  refine l_y rfl rfl (y_move rfl) ?_
  refine CK [.b r, .p p] hO rfl (fun k' hx hr hO' => IsA_spec sm (hO := hO')) ?_
  rintro _ _ w ⟨rfl, rfl⟩ hO
  simp only [List.cons_append, List.nil_append] at hO
  refine l_y rfl rfl (y_not rfl rfl) ?_
  refine K2 (K3 ?_)
  refine c_split rfl (fun hc15 => ?_) (fun hc15 => ?_)
  · simp only [Bool.not_eq_true', Bool.not_eq_false'] at hc15
    refine K0 (K1 ?_)
    refine s_build (parts := []) (cs := [.int .i64 0, .int .i64 0]) rfl rfl (fun a ha => partsOf_sound ha _ _ rfl) (by kernel_rfl) ?_
    refine Y3 hO rfl rfl (fun w hO => ?_)
    refine l_y rfl rfl (y_assign rfl) ?_
    refine K2 (K3 (K6 (K9 ?_)))
    have e : spotV A l target f = (⟨0, 0⟩, 6) := by rw [spotV, if_pos (by simpa using hc15)]
    rw [e]
    exact finC1 hO rfl rfl rfl ⟨_, ⟨rfl, rfl⟩, ((rarL_shut hF ((rstkL_shut (hO.ks [.b z, .p q])).ks [.b r, .p p, .f])).ks [.o r, .o z]).two⟩
  · simp only [Bool.not_eq_true', Bool.not_eq_false'] at hc15
    refine K5 (K3 (K0 (K1 ?_)))
    refine l_y rfl rfl (y_move rfl) ?_
    refine s_build (parts := [(0, .tmp 17), (1, .const (.int .i64 (-1)))]) (cs := [.int .i64 target, .int .i64 (-1)]) rfl rfl (fun a ha => partsOf_sound ha _ _ rfl) (by kernel_rfl) ?_
    refine s_alloc (vs := [.int .i64 0, .int .i64 0]) hO rfl rfl rfl fun b10 w hO => ?_
    refine Y3 hO rfl rfl (fun w hO => ?_)
    refine K2 (K3 ?_)
    refine c_cut (X := Nat) (fun b10 => [(0, .pointer (some ⟨r, 0, none⟩)), (8, .pointer (some ⟨b8, 0, none⟩)), (9, .int .i64 0), (10, .pointer (some ⟨b10, 0, none⟩))]) (fun b10 w => Own k w [rB r p R.length c, rS p c R, pool F, tB z r q l.length d, sI q d l, blk b8 89 [.int .i64 0, .int .i64 0], blk b10 89 (Api_spot.cells t0)] ∧ True) ?_ ?_
    · refine K0 (K1 ?_)
      refine l_y rfl rfl (y_move rfl) ?_
      refine l_y rfl rfl (y_move rfl) ?_
      refine l_split 20 rfl (fun hg20 => ?_) (fun hg20 => ?_)
      · refine l_y rfl rfl (y_move rfl) ?_
        refine l_y rfl rfl (y_move rfl) ?_
        refine s_lit (parts := [(0, .const (.string ⟨#[116, 97, 98, 108, 101]⟩)), (1, .const (.string ⟨#[116, 98, 111, 100, 121]⟩)), (2, .const (.string ⟨#[116, 102, 111, 111, 116]⟩)), (3, .const (.string ⟨#[116, 104, 101, 97, 100]⟩)), (4, .const (.string ⟨#[116, 114]⟩))]) (enc := eS) [⟨#[116, 97, 98, 108, 101]⟩, ⟨#[116, 98, 111, 100, 121]⟩, ⟨#[116, 102, 111, 111, 116]⟩, ⟨#[116, 104, 101, 97, 100]⟩, ⟨#[116, 114]⟩] [.string ⟨#[116, 97, 98, 108, 101]⟩, .string ⟨#[116, 98, 111, 100, 121]⟩, .string ⟨#[116, 102, 111, 111, 116]⟩, .string ⟨#[116, 104, 101, 97, 100]⟩, .string ⟨#[116, 114]⟩] hO rfl (fun b23 w hO => ?_)
        refine CK [.b r, .p p, .b z] hO rfl (fun k' hx hr hO' => tOf_spec (ts := tpartL) (sls_roK (p := (some ⟨b23, 0, none⟩)) hr (sls_fct (p := (some ⟨b23, 0, none⟩)) hO)) (by decide) sm hg (hO := hO')) ?_
        rintro _ _ w ⟨rfl, rfl⟩ hO
        simp only [List.cons_append, List.nil_append] at hO
        refine l_y rfl rfl (y_pick_t rfl rfl) ?_
        refine K2 (K3 ?_)
        refine c_split rfl (fun hc25 => ?_) (fun hc25 => ?_)
        · refine K1 ?_
          refine l_y rfl rfl (y_move rfl) ?_
          refine l_y rfl rfl (y_move rfl) ?_
          refine l_y rfl rfl (y_move rfl) ?_
          refine CK [.b r, .p p, .b z, .p q] hO rfl (fun k' hx hr hO' => tfostered_spec sm hel hin hg hq hl (hO := hO')) ?_
          rintro _ _ w ⟨rfl, rfl⟩ hO
          simp only [List.cons_append, List.nil_append] at hO
          refine Y3 hO rfl rfl (fun w hO => ?_)
          refine K2 ?_
          have e0 : (atV A l target f) = if f = true ∧ (elB A target && namA A tpartL target) = true ∧ fosterV A l ≠ ⟨-1, -1⟩ then fosterV A l else ⟨target, -1⟩ := rfl
          first
          | (have e1 : t0 = fosR A l target := by
               rw [ht0, e0, fosR]
               have h9 := hc25
               by_cases h8 : fosterV A l = ⟨-1, -1⟩
               · rw [if_neg (fun h => h.2.2 h8), if_pos h8]
               · rw [if_pos ⟨hg20, hc25, h8⟩, if_neg h8]
             rw [e1])
          | (have e1 : t0 = ⟨target, -1⟩ := by
               rw [ht0, e0, if_neg]
               rintro ⟨h1, h2, h3⟩
               first | (rw [hg20] at h1; simp at h1; done) | (rw [hc25] at h2; simp at h2; done)
             rw [e1])
          exact q_cut (b10) ⟨rfl, rfl, rfl, rfl, trivial⟩ ⟨hO.only [.b r, .p p, .f, .b z, .p q, .b b8, .b b10], trivial⟩
        · refine K5 ?_
          have e0 : (atV A l target f) = if f = true ∧ (elB A target && namA A tpartL target) = true ∧ fosterV A l ≠ ⟨-1, -1⟩ then fosterV A l else ⟨target, -1⟩ := rfl
          first
          | (have e1 : t0 = fosR A l target := by
               rw [ht0, e0, fosR]
               have h9 := hc25
               by_cases h8 : fosterV A l = ⟨-1, -1⟩
               · rw [if_neg (fun h => h.2.2 h8), if_pos h8]
               · rw [if_pos ⟨hg20, hc25, h8⟩, if_neg h8]
             rw [e1])
          | (have e1 : t0 = ⟨target, -1⟩ := by
               rw [ht0, e0, if_neg]
               rintro ⟨h1, h2, h3⟩
               first | (rw [hg20] at h1; simp at h1; done) | (rw [hc25] at h2; simp at h2; done)
             rw [e1])
          exact q_cut (b10) ⟨rfl, rfl, rfl, rfl, trivial⟩ ⟨hO.only [.b r, .p p, .f, .b z, .p q, .b b8, .b b10], trivial⟩
      · repeat refine M2 ?_
        refine l_y rfl rfl (y_pick_f rfl rfl) ?_
        refine K2 (K3 (L9 (K5 ?_)))
        have e0 : (atV A l target f) = if f = true ∧ (elB A target && namA A tpartL target) = true ∧ fosterV A l ≠ ⟨-1, -1⟩ then fosterV A l else ⟨target, -1⟩ := rfl
        first
        | (have e1 : t0 = fosR A l target := by
             rw [ht0, e0, fosR]
             have h9 := hc25
             by_cases h8 : fosterV A l = ⟨-1, -1⟩
             · rw [if_neg (fun h => h.2.2 h8), if_pos h8]
             · rw [if_pos ⟨hg20, hc25, h8⟩, if_neg h8]
           rw [e1])
        | (have e1 : t0 = ⟨target, -1⟩ := by
             rw [ht0, e0, if_neg]
             rintro ⟨h1, h2, h3⟩
             first | (rw [hg20] at h1; simp at h1; done) | (rw [hc25] at h2; simp at h2; done)
           rw [e1])
        exact q_cut (b10) ⟨rfl, rfl, rfl, rfl, trivial⟩ ⟨hO.only [.b r, .p p, .f, .b z, .p q, .b b8, .b b10], trivial⟩
    · rintro b10 w ⟨hO, _⟩
      have hb : hasB A target = true := by simpa using hc15
      have hbt := ht0 ▸ atV_has (f := f) hfo hb
      have hbr := hasR_true (R := R) (by rw [sm.has]; exact hbt)
      have e1 := (sm.atB hbt).inner
      have e3 : spotV A l target f = (innV A t0, 0) := by rw [spotV, if_neg (by rw [hb]; simp), ht0]
      have e4 : innV A t0 = if (at_ R t0.Parent.toNat).Inner ≠ -1 then ⟨(at_ R t0.Parent.toNat).Inner, -1⟩ else t0 := by rw [e1]; rfl
      refine K0 ?_
      refine da_region (by intro c a d v w h; cases d <;> exact h) ?_
      have hO := hO.drew
      refine da_phase _ [] (SO.ks [.b r, .b b10, .p p] hO) ?_
      refine dx_u 0 (by kernel_rfl) rfl rfl rfl (fun w => y_move rfl) ?_
      refine dx_u 1 (by kernel_rfl) rfl rfl rfl (fun w => y_nilCheck rfl rfl) ?_
      refine dx_u 2 (by kernel_rfl) rfl rfl rfl (fun w => y_fldb (o' := 0) rfl) ?_
      refine dx_y 3 (by kernel_rfl) rfl rfl rfl (fun w ⟨m, hw⟩ => D5 hw rfl) ?_
      refine dx_u 4 (by kernel_rfl) rfl rfl rfl (fun w => y_fldb (o' := 0) rfl) ?_
      refine dx_y 5 (by kernel_rfl) rfl rfl rfl (fun w ⟨m, hw⟩ => D5 hw rfl) ?_
      refine dx_u 6 (by kernel_rfl) rfl rfl rfl (fun w => y_idx rfl rfl) ?_
      refine dx_u 7 (by kernel_rfl) rfl rfl rfl (fun w => y_fld (j' := 6) rfl) ?_
      refine dx_y 8 (by kernel_rfl) rfl rfl rfl (fun w ⟨m, hw⟩ => y_e1 (x0 := 6) hw rfl) ?_
      refine dx_u 9 (by kernel_rfl) rfl rfl rfl (fun w => y_assign rfl) ?_
      refine dx_end (by kernel_rfl) ?_
      refine K3 (K0 (K0 (K1 ?_)))
      refine l_y rfl rfl (y_move rfl) ?_
      refine Z1 (fun h7_1 => ?_) (fun h7_1 => ?_)
      · refine K2 (K3 (L8 (K1 ?_)))
        refine l_y rfl rfl (y_move rfl) ?_
        refine s_build (parts := [(0, .tmp 41), (1, .const (.int .i64 (-1)))]) (cs := [.int .i64 (at_ R (t0.Parent : Int).toNat).Inner, .int .i64 (-1)]) rfl rfl (fun a ha => partsOf_sound ha _ _ rfl) (by kernel_rfl) ?_
        refine Y3 hO rfl rfl (fun w hO => ?_)
        refine K2 (K3 (K0 (K1 ?_)))
        refine l_y rfl rfl (D8 (cs := [.int .i64 (at_ R (t0.Parent : Int).toNat).Inner, .int .i64 (-1)]) hO rfl) ?_
        refine Y3 hO rfl rfl (fun w hO => ?_)
        refine l_y rfl rfl (y_assign rfl) ?_
        refine K2 (K3 (K6 ?_))
        first
        | (rw [e3, e4, if_pos h7_1]
           exact finC1 hO rfl rfl rfl ⟨_, ⟨rfl, rfl⟩, ((rarL_shut hF ((rstkL_shut (hO.ks [.b z, .p q])).ks [.b r, .p p, .f])).ks [.o r, .o z]).two⟩)
        | (rw [e3, e4, if_neg (fun h => h h7_1)]
           exact finC1 hO rfl rfl rfl ⟨_, ⟨rfl, rfl⟩, ((rarL_shut hF ((rstkL_shut (hO.ks [.b z, .p q])).ks [.b r, .p p, .f])).ks [.o r, .o z]).two⟩)
      · refine K2 (K3 (L9 (K5 (K3 (K0 (K1 ?_))))))
        refine l_y rfl rfl (D8 (cs := [.int .i64 t0.Parent, .int .i64 t0.Before]) hO rfl) ?_
        refine Y3 hO rfl rfl (fun w hO => ?_)
        refine l_y rfl rfl (y_assign rfl) ?_
        refine K2 (K3 (K6 ?_))
        first
        | (rw [e3, e4, if_pos h7_1]
           exact finC1 hO rfl rfl rfl ⟨_, ⟨rfl, rfl⟩, ((rarL_shut hF ((rstkL_shut (hO.ks [.b z, .p q])).ks [.b r, .p p, .f])).ks [.o r, .o z]).two⟩)
        | (rw [e3, e4, if_neg (fun h => h h7_1)]
           exact finC1 hO rfl rfl rfl ⟨_, ⟨rfl, rfl⟩, ((rarL_shut hF ((rstkL_shut (hO.ks [.b z, .p q])).ks [.b r, .p p, .f])).ks [.o r, .o z]).two⟩)
end
end Go.Proofs.Ytbhicbpfdbnpfaa
