/- What the row of this folder leans on, part 2: the walks of the functions and the laws of what they compute; no condition. -/
import Derived.Test.YtpejdlfkaaiehaaGreatDoorWnk1
section
set_option linter.unusedVariables false
set_option linter.unusedSimpArgs false
set_option maxRecDepth 100000
namespace Go.Proofs.YtpejdlfkaaiehaaGreatDoor
open Go Go.Hb Go.RowKit
instance : DecidableEq Api_spot := fun a b => decidable_of_iff (a.Parent = b.Parent ∧ a.Before = b.Before) ⟨fun ⟨h1, h2⟩ => Api_spot.ext h1 h2, fun h => by subst h; exact ⟨rfl, rfl⟩⟩
instance : EqT Tryz.prog 117 Api_spot.cells := ⟨by kernel_rfl, fun x y w => by
  have u3 := Tryz.underlying3
  have hS : Tryz.prog.underlying 117 = some (.struct (Tryz.prog.fieldsOf 117)) := by kernel_rfl
  have hp : Tryz.prog.stoodInHeld 117 = false := by kernel_rfl
  rw [show (10000 : Nat) = 9999 + 1 from rfl, run_equalIn_agg w 9999 117 _ _ hS hp]
  simp only [Program.fieldsOf, Tryz.underlying117, Api_spot.cells]
  go_simp
  have e : (x = y) ↔ x.Parent = y.Parent ∧ x.Before = y.Before := Api_spot.ext_iff
  by_cases h1 : x.Parent = y.Parent <;> by_cases h2 : x.Before = y.Before <;> simp [e, h1, h2]⟩
def atV (A : List Node_one) (l : List Int) (target : Int) (f : Bool) : Api_spot := if f = true ∧ (elB A target && namA A tpartL target) = true ∧ fosterV A l ≠ ⟨-1, -1⟩ then fosterV A l else ⟨target, -1⟩
def innV (A : List Node_one) (at0 : Api_spot) : Api_spot := if (nd A at0.Parent).Inner ≠ -1 then ⟨(nd A at0.Parent).Inner, -1⟩ else at0
def spotV (A : List Node_one) (l : List Int) (target : Int) (f : Bool) : Api_spot × Int := if hasB A target = false then (⟨0, 0⟩, 6) else (innV A (atV A l target f), 0)
def FosOk (A : List Node_one) (l : List Int) : Prop := fosterV A l ≠ ⟨-1, -1⟩ → hasB A (fosterV A l).Parent = true
theorem atV_has {A : List Node_one} {l : List Int} {target : Int} {f : Bool} (hf : FosOk A l) (hb : hasB A target = true) : hasB A (atV A l target f).Parent = true := by
  unfold atV
  split
  · next h => exact hf h.2.2
  · exact hb
section
variable {k : Ctx} {w : World} {a s r z c : Nat} {p : Option Addr} {A : List Node_one} {K : Int → List Int} {l : List Int}
theorem fosterC_spec (hn : 0 < A.length) (ha : AttrsOk A) (hel : AllEl A l) (hl : l.length ≤ 1000000) (hO : Own k w [arenaL a A, stkL s a l]) :
    Tri Tryz.prog 221 #[.pointer (some ⟨a, 0, none⟩), .pointer (some ⟨s, 0, none⟩)] k w fun v m => v = .agg (Api_spot.cells (fosterV A l)).toArray ∧ m = [arenaL a A, stkL s a l] := by
  obtain ⟨p, c, hg, hlc, hO⟩ := stkL_open (hO.ks [.o s])
  refine Ret.mono (foster_spec hn ha hel hg hl (hO.ks [.o a, .b s, .p p])) ?_
  rintro v w' ⟨m, ⟨rfl, rfl⟩, hO⟩
  exact ⟨_, ⟨rfl, rfl⟩, ((stkL_shut (hO.ks [.b s, .p p])).ks [.o a, .o s]).two⟩
set_option maxHeartbeats 2000000 in
theorem Spot_spec {target : Int} {f : Bool} (hn : 0 < A.length) (ha : AttrsOk A) (hel : AllEl A l) (hl : l.length ≤ 1000000) (hfo : FosOk A l) (hO : Own k w [arenaL a A, stkL s a l]) :
    Tri Tryz.prog 182 #[.pointer (some ⟨a, 0, none⟩), .pointer (some ⟨s, 0, none⟩), .int .i64 target, .bool f] k w fun v m => v = .tuple #[.agg (Api_spot.cells (spotV A l target f).1).toArray, .int .i64 (spotV A l target f).2] ∧ m = [arenaL a A, stkL s a l] := by
  refine enter (args := [.pointer (some ⟨a, 0, none⟩), .pointer (some ⟨s, 0, none⟩), .int .i64 target, .bool f]) Tryz.func182 rfl rfl ?_
  have hfr : freshE A l (-1) = 6 := by rw [freshE, show elB A (-1) = false from by rw [elB, show hasB A (-1) = false from by simp [hasB]]; rfl, if_pos rfl]
  obtain ⟨t0, ht0⟩ : ∃ t0, t0 = atV A l target f := ⟨_, rfl⟩
  refine K0 (K1 ?_)
  refine s_alloc (vs := [.int .i64 0, .int .i64 0]) hO rfl rfl rfl fun b8 w hO => ?_
  refine l_y rfl rfl (y_assign rfl) ?_
  refine K2 (K3 (K0 (K0 (K1 ?_))))
  refine l_y rfl rfl (y_move rfl) ?_
  refine CK [.o a] hO rfl (fun k' hx hr hO' => LenC_spec hn (hO := hO')) ?_
  rintro _ _ w ⟨rfl, rfl⟩ hO
  simp only [List.cons_append, List.nil_append] at hO
  refine N3 ?_
  refine l_y rfl rfl (y_move rfl) ?_
  refine l_y rfl rfl (y_move rfl) ?_
  refine CK [.o a, .o s] hO rfl (fun k' hx hr hO' => sPush_spec hn ha hl (hO := hO')) ?_
  rintro _ _ w ⟨rfl, rfl⟩ hO
  simp only [List.cons_append, List.nil_append] at hO
  rw [hfr, if_neg (by decide)] at hO
  rw [hfr]
  refine N3 ?_
  refine l_y rfl rfl (y_pick_f rfl rfl) ?_
  refine K2 (K3 (L9 (K5 (K3 (K0 (K1 ?_))))))
  refine l_y rfl rfl (y_move rfl) ?_
  refine l_y rfl rfl (y_move rfl) ?_
  refine CK [.o a] hO rfl (fun k' hx hr hO' => NodeD_spec hn ha (hO := hO')) ?_
  rintro _ _ w ⟨x3_2, hx3_2, rfl, rfl⟩ hO
  simp only [List.cons_append, List.nil_append] at hO
  refine l_y rfl rfl (y_move rfl) ?_
  refine l_y rfl rfl (y_extract rfl rfl) ?_
  refine l_y rfl rfl (y_extract rfl rfl) ?_
  refine s_alloc (vs := [.int .i64 0, .int .i64 0, .string ⟨#[]⟩, .slice none 0 0, .string ⟨#[]⟩, .string ⟨#[]⟩, .int .i64 0, .int .i64 0, .int .i64 0, .int .i64 0, .int .i64 0, .int .i64 0]) hO rfl rfl rfl fun b10 w hO => ?_
  refine Y3 hO rfl rfl (fun w hO => ?_)
  refine l_y rfl rfl (y_assign rfl) ?_
  refine K2 (K3 (K0 (K0 (K1 ?_))))
  refine l_y rfl rfl (y_move rfl) ?_
  refine Z1 (fun h4_1 => ?_) (fun h4_1 => ?_)
  · refine K2 (K3 (L8 (K0 (K1 ?_))))
    refine s_build (parts := []) (cs := [.int .i64 0, .int .i64 0]) rfl rfl (fun a ha => partsOf_sound ha _ _ rfl) (by kernel_rfl) ?_
    refine l_y rfl rfl (y_move rfl) ?_
    refine Y3 hO rfl rfl (fun w hO => ?_)
    refine l_y rfl rfl (y_assign rfl) ?_
    refine K2 (K3 (K6 (K9 ?_)))
    have e : spotV A l target f = (⟨0, 0⟩, 6) := by
      rw [spotV, if_pos]
      cases h : hasB A target with
      | false => rfl
      | true => rw [errN, h] at h4_1; simp at h4_1
    have e2 : errN A target = 6 := by
      rw [errN]; split
      · next h => rw [errN, h] at h4_1; simp at h4_1
      · rfl
    rw [e]
    exact finC1 hO rfl rfl rfl ⟨_, ⟨by rw [e2]; rfl, rfl⟩, hO.only [.o a, .o s]⟩
  · refine K2 (K3 (L9 (K5 (K3 (K0 ?_)))))
    have hb : hasB A target = true := by
      cases h : hasB A target with
      | true => rfl
      | false => rw [errN, h] at h4_1; simp at h4_1
    have hpl := hx3_2.pl (ts := tpartL) hb
    refine K1 ?_
    refine l_y rfl rfl (y_move rfl) ?_
    refine CK [] hO rfl (fun k' hx hr hO' => end_spec (hO := hO')) ?_
    rintro _ _ w ⟨rfl, rfl⟩ hO
    simp only [List.cons_append, List.nil_append] at hO
    refine s_alloc (vs := [.int .i64 0, .int .i64 0]) hO rfl rfl rfl fun b12 w hO => ?_
    refine Y3 hO rfl rfl (fun w hO => ?_)
    refine K2 (K3 ?_)
    refine c_cut (X := Nat) (fun b12 => [(0, .pointer (some ⟨a, 0, none⟩)), (8, .pointer (some ⟨b8, 0, none⟩)), (9, .int .i64 0), (12, .pointer (some ⟨b12, 0, none⟩))]) (fun b12 w => Own k w [arenaL a A, stkL s a l, blk b8 117 [.int .i64 0, .int .i64 0], blk b12 117 (Api_spot.cells t0)] ∧ True) ?_ ?_
    · refine K0 (K1 ?_)
      refine l_y rfl rfl (y_move rfl) ?_
      refine l_y rfl rfl (y_move rfl) ?_
      refine l_split 38 rfl (fun hg38 => ?_) (fun hg38 => ?_)
      · refine l_y rfl rfl (D8 (cs := [.int .i64 x3_2.Kind, .int .i64 x3_2.Space, .string x3_2.Name, .slice x3_2.AttrsP x3_2.Attrs.length x3_2.AttrsC, .string x3_2.Data, .string x3_2.System, .int .i64 x3_2.Parent, .int .i64 x3_2.First, .int .i64 x3_2.Last, .int .i64 x3_2.Prev, .int .i64 x3_2.Next, .int .i64 x3_2.Inner]) hO rfl) ?_
        refine s_lit (parts := [(0, .const (.string ⟨#[116, 97, 98, 108, 101]⟩)), (1, .const (.string ⟨#[116, 98, 111, 100, 121]⟩)), (2, .const (.string ⟨#[116, 102, 111, 111, 116]⟩)), (3, .const (.string ⟨#[116, 104, 101, 97, 100]⟩)), (4, .const (.string ⟨#[116, 114]⟩))]) (enc := eS) [⟨#[116, 97, 98, 108, 101]⟩, ⟨#[116, 98, 111, 100, 121]⟩, ⟨#[116, 102, 111, 111, 116]⟩, ⟨#[116, 104, 101, 97, 100]⟩, ⟨#[116, 114]⟩] [.string ⟨#[116, 97, 98, 108, 101]⟩, .string ⟨#[116, 98, 111, 100, 121]⟩, .string ⟨#[116, 102, 111, 111, 116]⟩, .string ⟨#[116, 104, 101, 97, 100]⟩, .string ⟨#[116, 114]⟩] hO rfl (fun b40 w hO => ?_)
        refine CK [] hO rfl (fun k' hx hr hO' => pis_spec (n := x3_2) (ts := tpartL) (sls_roK (p := (some ⟨b40, 0, none⟩)) hr (sls_fct (p := (some ⟨b40, 0, none⟩)) hO)) (by decide) (hO := hO')) ?_
        rintro _ _ w ⟨rfl, rfl⟩ hO
        simp only [List.nil_append] at hO
        rw [hpl]
        refine l_y rfl rfl (y_pick_t rfl rfl) ?_
        refine K2 (K3 ?_)
        refine c_split rfl (fun hc42 => ?_) (fun hc42 => ?_)
        · refine K0 (K1 ?_)
          refine l_y rfl rfl (y_move rfl) ?_
          refine l_y rfl rfl (y_move rfl) ?_
          refine CK [.o a, .o s] hO rfl (fun k' hx hr hO' => fosterC_spec hn ha hel hl (hO := hO')) ?_
          rintro _ _ w ⟨rfl, rfl⟩ hO
          simp only [List.cons_append, List.nil_append] at hO
          refine s_alloc (vs := [.int .i64 0, .int .i64 0]) hO rfl rfl rfl fun b13 w hO => ?_
          refine Y3 hO rfl rfl (fun w hO => ?_)
          refine K2 (K3 (K0 ?_))
          refine da_region (by intro c a d v w h; cases d <;> exact h) ?_
          have hO := hO.drew
          refine da_phase _ [] (SO.ks [.b b13] hO) ?_
          refine dx_y 0 (by kernel_rfl) rfl rfl rfl (fun w ⟨m, hw⟩ => D8 (cs := [.int .i64 (fosterV A l).Parent, .int .i64 (fosterV A l).Before]) hw rfl) ?_
          refine dx_only 1 (by kernel_rfl) rfl rfl ?_
          refine CK [] hO rfl (fun k' hx hr hO' => nowhere_spec (hO := hO')) ?_
          rintro _ _ w ⟨rfl, rfl⟩ hO
          simp only [List.cons_append, List.nil_append] at hO
          refine o_done ?_
          refine ⟨SO.ks [.b b13] hO, ?_⟩
          refine dx_y 2 (by kernel_rfl) rfl rfl rfl (fun w ⟨m, hw⟩ => y_neA (enc := Api_spot.cells) (a := fosterV A l) (b := ⟨-1, -1⟩) rfl rfl rfl) ?_
          refine dx_end (by kernel_rfl) ?_
          refine K3 ?_
          refine c_split rfl (fun hc48 => ?_) (fun hc48 => ?_)
          · simp only [Bool.not_eq_true', Bool.not_eq_false'] at hc48
            refine K1 ?_
            refine l_y rfl rfl (D8 (cs := [.int .i64 (fosterV A l).Parent, .int .i64 (fosterV A l).Before]) hO rfl) ?_
            refine Y3 hO rfl rfl (fun w hO => ?_)
            refine K2 ?_
            have e0 : (atV A l target f) = if f = true ∧ (elB A target && namA A tpartL target) = true ∧ fosterV A l ≠ ⟨-1, -1⟩ then fosterV A l else ⟨target, -1⟩ := rfl
            have e9 : t0 = fosterV A l ∨ t0 = ⟨target, -1⟩ := by rw [ht0, e0]; split <;> simp
            first
            | (have e1 : t0 = fosterV A l := by rw [ht0, e0, if_pos ⟨hg38, hc42, by simpa using hc48⟩]
               rw [e1])
            | (have e1 : t0 = ⟨target, -1⟩ := by
                 rw [ht0, e0, if_neg]
                 rintro ⟨h1, h2, h3⟩
                 first | (rw [hg38] at h1; simp at h1; done) | (rw [hc42] at h2; simp at h2; done) | (exact h3 (by simpa using hc48))
               rw [e1])
            exact q_cut (b12) ⟨rfl, rfl, rfl, rfl, trivial⟩ ⟨hO.only [.o a, .o s, .b b8, .b b12], trivial⟩
          · simp only [Bool.not_eq_true', Bool.not_eq_false'] at hc48
            refine K5 ?_
            have e0 : (atV A l target f) = if f = true ∧ (elB A target && namA A tpartL target) = true ∧ fosterV A l ≠ ⟨-1, -1⟩ then fosterV A l else ⟨target, -1⟩ := rfl
            have e9 : t0 = fosterV A l ∨ t0 = ⟨target, -1⟩ := by rw [ht0, e0]; split <;> simp
            first
            | (have e1 : t0 = fosterV A l := by rw [ht0, e0, if_pos ⟨hg38, hc42, by simpa using hc48⟩]
               rw [e1])
            | (have e1 : t0 = ⟨target, -1⟩ := by
                 rw [ht0, e0, if_neg]
                 rintro ⟨h1, h2, h3⟩
                 first | (rw [hg38] at h1; simp at h1; done) | (rw [hc42] at h2; simp at h2; done) | (exact h3 (by simpa using hc48))
               rw [e1])
            exact q_cut (b12) ⟨rfl, rfl, rfl, rfl, trivial⟩ ⟨hO.only [.o a, .o s, .b b8, .b b12], trivial⟩
        · refine K5 ?_
          have e0 : (atV A l target f) = if f = true ∧ (elB A target && namA A tpartL target) = true ∧ fosterV A l ≠ ⟨-1, -1⟩ then fosterV A l else ⟨target, -1⟩ := rfl
          have e9 : t0 = fosterV A l ∨ t0 = ⟨target, -1⟩ := by rw [ht0, e0]; split <;> simp
          first
          | (have e1 : t0 = fosterV A l := by rw [ht0, e0, if_pos ⟨hg38, hc42, by simpa using hc48⟩]
             rw [e1])
          | (have e1 : t0 = ⟨target, -1⟩ := by
               rw [ht0, e0, if_neg]
               rintro ⟨h1, h2, h3⟩
               first | (rw [hg38] at h1; simp at h1; done) | (rw [hc42] at h2; simp at h2; done) | (exact h3 (by simpa using hc48))
             rw [e1])
          exact q_cut (b12) ⟨rfl, rfl, rfl, rfl, trivial⟩ ⟨hO.only [.o a, .o s, .b b8, .b b12], trivial⟩
      · repeat refine M2 ?_
        refine l_y rfl rfl (y_pick_f rfl rfl) ?_
        refine K2 (K3 (L9 (K5 ?_)))
        have e0 : (atV A l target f) = if f = true ∧ (elB A target && namA A tpartL target) = true ∧ fosterV A l ≠ ⟨-1, -1⟩ then fosterV A l else ⟨target, -1⟩ := rfl
        have e9 : t0 = fosterV A l ∨ t0 = ⟨target, -1⟩ := by rw [ht0, e0]; split <;> simp
        first
        | (have e1 : t0 = fosterV A l := by rw [ht0, e0, if_pos ⟨hg38, hc42, by simpa using hc48⟩]
           rw [e1])
        | (have e1 : t0 = ⟨target, -1⟩ := by
             rw [ht0, e0, if_neg]
             rintro ⟨h1, h2, h3⟩
             first | (rw [hg38] at h1; simp at h1; done) | (rw [hc42] at h2; simp at h2; done) | (exact h3 (by simpa using hc48))
           rw [e1])
        exact q_cut (b12) ⟨rfl, rfl, rfl, rfl, trivial⟩ ⟨hO.only [.o a, .o s, .b b8, .b b12], trivial⟩
    · rintro b12 w ⟨hO, _⟩
      have hb : hasB A target = true := by
        cases h : hasB A target with
        | true => rfl
        | false => rw [errN, h] at h4_1; simp at h4_1
      have hbt := ht0 ▸ atV_has (f := f) hfo hb
      refine K0 (K0 (K1 ?_))
      refine l_y rfl rfl (y_move rfl) ?_
      refine l_y rfl rfl (y_fldb (o' := 0) rfl) ?_
      refine l_y rfl rfl (D5 hO rfl) ?_
      refine CK [.o a] hO rfl (fun k' hx hr hO' => NodeD_spec hn ha (hO := hO')) ?_
      rintro _ _ w ⟨x11_3, hx11_3, rfl, rfl⟩ hO
      simp only [List.cons_append, List.nil_append] at hO
      refine l_y rfl rfl (y_move rfl) ?_
      refine l_y rfl rfl (y_extract rfl rfl) ?_
      refine l_y rfl rfl (y_extract rfl rfl) ?_
      refine s_alloc (vs := [.int .i64 0, .int .i64 0, .string ⟨#[]⟩, .slice none 0 0, .string ⟨#[]⟩, .string ⟨#[]⟩, .int .i64 0, .int .i64 0, .int .i64 0, .int .i64 0, .int .i64 0, .int .i64 0]) hO rfl rfl rfl fun b14 w hO => ?_
      refine Y3 hO rfl rfl (fun w hO => ?_)
      refine l_y rfl rfl (y_assign rfl) ?_
      refine K2 (K3 (K0 ?_))
      have e2 := NV.inner hx11_3 hbt
      have e3 : spotV A l target f = (innV A t0, 0) := by rw [spotV, if_neg (by rw [hb]; simp), ht0]
      refine K1 ?_
      refine l_y rfl rfl (y_fldb (o' := 11) rfl) ?_
      refine l_y rfl rfl (D5 hO rfl) ?_
      refine Z1 (fun h12_2 => ?_) (fun h12_2 => ?_)
      · refine K2 (K3 (L8 (K1 ?_)))
        refine l_y rfl rfl (y_fldb (o' := 11) rfl) ?_
        refine l_y rfl rfl (D5 hO rfl) ?_
        refine CK [] hO rfl (fun k' hx hr hO' => end_spec (hO := hO')) ?_
        rintro _ _ w ⟨rfl, rfl⟩ hO
        simp only [List.cons_append, List.nil_append] at hO
        refine Y3 hO rfl rfl (fun w hO => ?_)
        refine K2 (K3 (K0 ?_))
        have e4 : innV A t0 = if x11_3.Inner ≠ -1 then ⟨x11_3.Inner, -1⟩ else t0 := by rw [e2]; rfl
        rw [e3, e4]
        refine K1 ?_
        refine l_y rfl rfl (D8 (cs := [.int .i64 (Api_spot.mk (x11_3.Inner) (-1)).Parent, .int .i64 (Api_spot.mk (x11_3.Inner) (-1)).Before]) hO rfl) ?_
        refine Y3 hO rfl rfl (fun w hO => ?_)
        refine l_y rfl rfl (y_assign rfl) ?_
        refine K2 (K3 (K6 ?_))
        first
        | (rw [if_pos h12_2]
           exact finC1 hO rfl rfl rfl ⟨_, ⟨rfl, rfl⟩, hO.only [.o a, .o s]⟩)
        | (rw [if_neg (fun h => h h12_2)]
           exact finC1 hO rfl rfl rfl ⟨_, ⟨rfl, rfl⟩, hO.only [.o a, .o s]⟩)
      · refine K2 (K3 (L9 (K5 (K3 (K0 ?_)))))
        have e4 : innV A t0 = if x11_3.Inner ≠ -1 then ⟨x11_3.Inner, -1⟩ else t0 := by rw [e2]; rfl
        rw [e3, e4]
        refine K1 ?_
        refine l_y rfl rfl (D8 (cs := [.int .i64 t0.Parent, .int .i64 t0.Before]) hO rfl) ?_
        refine Y3 hO rfl rfl (fun w hO => ?_)
        refine l_y rfl rfl (y_assign rfl) ?_
        refine K2 (K3 (K6 ?_))
        first
        | (rw [if_pos h12_2]
           exact finC1 hO rfl rfl rfl ⟨_, ⟨rfl, rfl⟩, hO.only [.o a, .o s]⟩)
        | (rw [if_neg (fun h => h h12_2)]
           exact finC1 hO rfl rfl rfl ⟨_, ⟨rfl, rfl⟩, hO.only [.o a, .o s]⟩)
end
end Go.Proofs.YtpejdlfkaaiehaaGreatDoor
end
section
set_option linter.unusedVariables false
set_option linter.unusedSimpArgs false
namespace Go.Proofs.YtpejdlfkaaiehaaGreatDoor
open Go Go.Hb Go.RowKit
abbrev nodeA (A : List Node_one) (x : Int) : Api_node := (at_ A x.toNat).Node
def InA (A : List Node_one) (x : Int) : Prop := 0 ≤ x ∧ x < A.length
theorem inA_iff {A : List Node_one} {x : Int} : hasB A x = true ↔ InA A x := by simp [hasB, InA]
theorem InA.b {A : List Node_one} {x : Int} (h : InA A x) : hasB A x = true := inA_iff.2 h
/-- what is no link -/
def coreN (o : Node_one) : Node_one := { o with Node := { o.Node with Parent := 0, First := 0, Last := 0, Prev := 0, Next := 0 } }
theorem at_setI {A : List Node_one} {i y : Int} (hi : InA A i) (hy : 0 ≤ y) (v : Node_one) : at_ (A.set i.toNat v) y.toNat = if y = i then v else at_ A y.toNat := by
  obtain ⟨h0, h1⟩ := hi
  by_cases h : y = i
  · subst h; rw [if_pos rfl, at_set_eq (by omega)]
  · rw [if_neg h, at_set_ne (by omega)]
theorem setFirst_len {A : List Node_one} {i v : Int} : (setFirst A i v).length = A.length := by simp [setFirst]
theorem setFirst_core {A : List Node_one} {i y v : Int} (hi : InA A i) (hy : 0 ≤ y) : coreN (at_ (setFirst A i v) y.toNat) = coreN (at_ A y.toNat) := by
  rw [setFirst, at_setI hi hy]; split
  · next h => subst h; rfl
  · rfl
theorem setFirst_eq {A : List Node_one} {i y v : Int} (hi : InA A i) (hy : 0 ≤ y) : (nodeA (setFirst A i v) y).First = if y = i then v else (nodeA A y).First := by
  rw [nodeA, setFirst, at_setI hi hy]; split <;> rfl
theorem setLast_core {A : List Node_one} {i y v : Int} (hi : InA A i) (hy : 0 ≤ y) : coreN (at_ (setLast A i v) y.toNat) = coreN (at_ A y.toNat) := by
  rw [setLast, at_setI hi hy]; split
  · next h => subst h; rfl
  · rfl
theorem setLast_eq {A : List Node_one} {i y v : Int} (hi : InA A i) (hy : 0 ≤ y) : (nodeA (setLast A i v) y).Last = if y = i then v else (nodeA A y).Last := by
  rw [nodeA, setLast, at_setI hi hy]; split <;> rfl
theorem setNext_len {A : List Node_one} {i v : Int} : (setNext A i v).length = A.length := by simp [setNext]
theorem setNext_core {A : List Node_one} {i y v : Int} (hi : InA A i) (hy : 0 ≤ y) : coreN (at_ (setNext A i v) y.toNat) = coreN (at_ A y.toNat) := by
  rw [setNext, at_setI hi hy]; split
  · next h => subst h; rfl
  · rfl
theorem setNext_eq {A : List Node_one} {i y v : Int} (hi : InA A i) (hy : 0 ≤ y) : (nodeA (setNext A i v) y).Next = if y = i then v else (nodeA A y).Next := by
  rw [nodeA, setNext, at_setI hi hy]; split <;> rfl
theorem setPrev_core {A : List Node_one} {i y v : Int} (hi : InA A i) (hy : 0 ≤ y) : coreN (at_ (setPrev A i v) y.toNat) = coreN (at_ A y.toNat) := by
  rw [setPrev, at_setI hi hy]; split
  · next h => subst h; rfl
  · rfl
theorem setPrev_eq {A : List Node_one} {i y v : Int} (hi : InA A i) (hy : 0 ≤ y) : (nodeA (setPrev A i v) y).Prev = if y = i then v else (nodeA A y).Prev := by
  rw [nodeA, setPrev, at_setI hi hy]; split <;> rfl
theorem setFirst_Parent {A : List Node_one} {i y v : Int} (hi : InA A i) (hy : 0 ≤ y) : (nodeA (setFirst A i v) y).Parent = (nodeA A y).Parent := by
  rw [nodeA, setFirst, at_setI hi hy]; split
  · next h => subst h; rfl
  · rfl
theorem setFirst_Last {A : List Node_one} {i y v : Int} (hi : InA A i) (hy : 0 ≤ y) : (nodeA (setFirst A i v) y).Last = (nodeA A y).Last := by
  rw [nodeA, setFirst, at_setI hi hy]; split
  · next h => subst h; rfl
  · rfl
theorem setFirst_Next {A : List Node_one} {i y v : Int} (hi : InA A i) (hy : 0 ≤ y) : (nodeA (setFirst A i v) y).Next = (nodeA A y).Next := by
  rw [nodeA, setFirst, at_setI hi hy]; split
  · next h => subst h; rfl
  · rfl
theorem setFirst_Prev {A : List Node_one} {i y v : Int} (hi : InA A i) (hy : 0 ≤ y) : (nodeA (setFirst A i v) y).Prev = (nodeA A y).Prev := by
  rw [nodeA, setFirst, at_setI hi hy]; split
  · next h => subst h; rfl
  · rfl
theorem setLast_Parent {A : List Node_one} {i y v : Int} (hi : InA A i) (hy : 0 ≤ y) : (nodeA (setLast A i v) y).Parent = (nodeA A y).Parent := by
  rw [nodeA, setLast, at_setI hi hy]; split
  · next h => subst h; rfl
  · rfl
theorem setLast_First {A : List Node_one} {i y v : Int} (hi : InA A i) (hy : 0 ≤ y) : (nodeA (setLast A i v) y).First = (nodeA A y).First := by
  rw [nodeA, setLast, at_setI hi hy]; split
  · next h => subst h; rfl
  · rfl
theorem setLast_Next {A : List Node_one} {i y v : Int} (hi : InA A i) (hy : 0 ≤ y) : (nodeA (setLast A i v) y).Next = (nodeA A y).Next := by
  rw [nodeA, setLast, at_setI hi hy]; split
  · next h => subst h; rfl
  · rfl
theorem setLast_Prev {A : List Node_one} {i y v : Int} (hi : InA A i) (hy : 0 ≤ y) : (nodeA (setLast A i v) y).Prev = (nodeA A y).Prev := by
  rw [nodeA, setLast, at_setI hi hy]; split
  · next h => subst h; rfl
  · rfl
theorem setNext_Parent {A : List Node_one} {i y v : Int} (hi : InA A i) (hy : 0 ≤ y) : (nodeA (setNext A i v) y).Parent = (nodeA A y).Parent := by
  rw [nodeA, setNext, at_setI hi hy]; split
  · next h => subst h; rfl
  · rfl
theorem setNext_First {A : List Node_one} {i y v : Int} (hi : InA A i) (hy : 0 ≤ y) : (nodeA (setNext A i v) y).First = (nodeA A y).First := by
  rw [nodeA, setNext, at_setI hi hy]; split
  · next h => subst h; rfl
  · rfl
theorem setNext_Last {A : List Node_one} {i y v : Int} (hi : InA A i) (hy : 0 ≤ y) : (nodeA (setNext A i v) y).Last = (nodeA A y).Last := by
  rw [nodeA, setNext, at_setI hi hy]; split
  · next h => subst h; rfl
  · rfl
theorem setNext_Prev {A : List Node_one} {i y v : Int} (hi : InA A i) (hy : 0 ≤ y) : (nodeA (setNext A i v) y).Prev = (nodeA A y).Prev := by
  rw [nodeA, setNext, at_setI hi hy]; split
  · next h => subst h; rfl
  · rfl
theorem setPrev_Parent {A : List Node_one} {i y v : Int} (hi : InA A i) (hy : 0 ≤ y) : (nodeA (setPrev A i v) y).Parent = (nodeA A y).Parent := by
  rw [nodeA, setPrev, at_setI hi hy]; split
  · next h => subst h; rfl
  · rfl
theorem setPrev_First {A : List Node_one} {i y v : Int} (hi : InA A i) (hy : 0 ≤ y) : (nodeA (setPrev A i v) y).First = (nodeA A y).First := by
  rw [nodeA, setPrev, at_setI hi hy]; split
  · next h => subst h; rfl
  · rfl
theorem setPrev_Last {A : List Node_one} {i y v : Int} (hi : InA A i) (hy : 0 ≤ y) : (nodeA (setPrev A i v) y).Last = (nodeA A y).Last := by
  rw [nodeA, setPrev, at_setI hi hy]; split
  · next h => subst h; rfl
  · rfl
theorem setPrev_Next {A : List Node_one} {i y v : Int} (hi : InA A i) (hy : 0 ≤ y) : (nodeA (setPrev A i v) y).Next = (nodeA A y).Next := by
  rw [nodeA, setPrev, at_setI hi hy]; split
  · next h => subst h; rfl
  · rfl
theorem setLinks_core {A : List Node_one} {i y u p n : Int} (hi : InA A i) (hy : 0 ≤ y) : coreN (at_ (setLinks A i u p n) y.toNat) = coreN (at_ A y.toNat) := by
  rw [setLinks, at_setI hi hy]; split
  · next h => subst h; rfl
  · rfl
theorem setLinks_Parent {A : List Node_one} {i y u p n : Int} (hi : InA A i) (hy : 0 ≤ y) : (nodeA (setLinks A i u p n) y).Parent = if y = i then u else (nodeA A y).Parent := by
  rw [nodeA, setLinks, at_setI hi hy]; split <;> rfl
theorem setLinks_Prev {A : List Node_one} {i y u p n : Int} (hi : InA A i) (hy : 0 ≤ y) : (nodeA (setLinks A i u p n) y).Prev = if y = i then p else (nodeA A y).Prev := by
  rw [nodeA, setLinks, at_setI hi hy]; split <;> rfl
theorem setLinks_Next {A : List Node_one} {i y u p n : Int} (hi : InA A i) (hy : 0 ≤ y) : (nodeA (setLinks A i u p n) y).Next = if y = i then n else (nodeA A y).Next := by
  rw [nodeA, setLinks, at_setI hi hy]; split <;> rfl
theorem setLinks_First {A : List Node_one} {i y u p n : Int} (hi : InA A i) (hy : 0 ≤ y) : (nodeA (setLinks A i u p n) y).First = (nodeA A y).First := by
  rw [nodeA, setLinks, at_setI hi hy]; split
  · next h => subst h; rfl
  · rfl
theorem setLinks_Last {A : List Node_one} {i y u p n : Int} (hi : InA A i) (hy : 0 ≤ y) : (nodeA (setLinks A i u p n) y).Last = (nodeA A y).Last := by
  rw [nodeA, setLinks, at_setI hi hy]; split
  · next h => subst h; rfl
  · rfl
theorem InA.len {A B : List Node_one} {x : Int} (h : InA A x) (e : B.length = A.length) : InA B x := ⟨h.1, by rw [e]; exact h.2⟩
/-- what a row of children's neighbours is joined to -/
structure Joined (A B : List Node_one) (up l r y : Int) : Prop where
  core : coreN (at_ B y.toNat) = coreN (at_ A y.toNat)
  parent : (nodeA B y).Parent = (nodeA A y).Parent
  first : (nodeA B y).First = if l = -1 ∧ y = up then r else (nodeA A y).First
  last : (nodeA B y).Last = if r = -1 ∧ y = up then l else (nodeA A y).Last
  next : (nodeA B y).Next = if l ≠ -1 ∧ y = l then r else (nodeA A y).Next
  prev : (nodeA B y).Prev = if r ≠ -1 ∧ y = r then l else (nodeA A y).Prev
theorem joined {A : List Node_one} {up l r y : Int} (hu : InA A up) (hl : l = -1 ∨ InA A l) (hr : r = -1 ∨ InA A r) (hy : 0 ≤ y) : Joined A (joinL A up l r) up l r y := by
  unfold joinL joinA
  by_cases h1 : l = -1
  · rw [if_pos h1]
    have hlen : (setFirst A up r).length = A.length := setFirst_len
    have hu2 : InA (setFirst A up r) up := hu.len hlen
    unfold joinB
    by_cases h2 : r = -1
    · rw [if_pos h2]
      constructor
      · rw [setLast_core hu2 hy, setFirst_core hu hy]
      · rw [setLast_Parent hu2 hy, setFirst_Parent hu hy]
      · rw [setLast_First hu2 hy, setFirst_eq hu hy]; simp [h1]
      · rw [setLast_eq hu2 hy, setFirst_Last hu hy]; simp [h2]
      · rw [setLast_Next hu2 hy, setFirst_Next hu hy]; simp [h1]
      · rw [setLast_Prev hu2 hy, setFirst_Prev hu hy]; simp [h2]
    · rw [if_neg h2]
      have hr2 : InA (setFirst A up r) r := (hr.resolve_left h2).len hlen
      constructor
      · rw [setPrev_core hr2 hy, setFirst_core hu hy]
      · rw [setPrev_Parent hr2 hy, setFirst_Parent hu hy]
      · rw [setPrev_First hr2 hy, setFirst_eq hu hy]; simp [h1]
      · rw [setPrev_Last hr2 hy, setFirst_Last hu hy]; simp [h2]
      · rw [setPrev_Next hr2 hy, setFirst_Next hu hy]; simp [h1]
      · rw [setPrev_eq hr2 hy, setFirst_Prev hu hy]; simp [h2]
  · rw [if_neg h1]
    have hl1 := hl.resolve_left h1
    have hlen : (setNext A l r).length = A.length := setNext_len
    have hu2 : InA (setNext A l r) up := hu.len hlen
    unfold joinB
    by_cases h2 : r = -1
    · rw [if_pos h2]
      constructor
      · rw [setLast_core hu2 hy, setNext_core hl1 hy]
      · rw [setLast_Parent hu2 hy, setNext_Parent hl1 hy]
      · rw [setLast_First hu2 hy, setNext_First hl1 hy]; simp [h1]
      · rw [setLast_eq hu2 hy, setNext_Last hl1 hy]; simp [h2]
      · rw [setLast_Next hu2 hy, setNext_eq hl1 hy]; simp [h1]
      · rw [setLast_Prev hu2 hy, setNext_Prev hl1 hy]; simp [h2]
    · rw [if_neg h2]
      have hr2 : InA (setNext A l r) r := (hr.resolve_left h2).len hlen
      constructor
      · rw [setPrev_core hr2 hy, setNext_core hl1 hy]
      · rw [setPrev_Parent hr2 hy, setNext_Parent hl1 hy]
      · rw [setPrev_First hr2 hy, setNext_First hl1 hy]; simp [h1]
      · rw [setPrev_Last hr2 hy, setNext_Last hl1 hy]; simp [h2]
      · rw [setPrev_Next hr2 hy, setNext_eq hl1 hy]; simp [h1]
      · rw [setPrev_eq hr2 hy, setNext_Prev hl1 hy]; simp [h2]
/-- a node that is put between l and r -/
structure Put (A B : List Node_one) (up id l r y : Int) : Prop where
  core : coreN (at_ B y.toNat) = coreN (at_ A y.toNat)
  parent : (nodeA B y).Parent = if y = id then up else (nodeA A y).Parent
  first : (nodeA B y).First = if l = -1 ∧ y = up then id else (nodeA A y).First
  last : (nodeA B y).Last = if r = -1 ∧ y = up then id else (nodeA A y).Last
  next : (nodeA B y).Next = if y = id then r else if l ≠ -1 ∧ y = l then id else (nodeA A y).Next
  prev : (nodeA B y).Prev = if y = id then l else if r ≠ -1 ∧ y = r then id else (nodeA A y).Prev
theorem put_at {A : List Node_one} {up id l r y : Int} (hi : InA A id) (hu : InA A up) (hl : l = -1 ∨ InA A l) (hr : r = -1 ∨ InA A r) (hli : l ≠ id) (hri : r ≠ id) (hy : 0 ≤ y) : Put A (joinL (joinL (setLinks A id up l r) up l id) up id r) up id l r y := by
  have e1 : (setLinks A id up l r).length = A.length := setLinks_len
  have e2 : (joinL (setLinks A id up l r) up l id).length = A.length := by rw [joinL_len, e1]
  have hne : id ≠ -1 := by have := hi.1; omega
  have j1 := joined (A := setLinks A id up l r) (up := up) (l := l) (r := id) (hu.len e1) (hl.imp (fun h => h) fun h => h.len e1) (.inr (hi.len e1)) hy
  have j2 := joined (A := joinL (setLinks A id up l r) up l id) (up := up) (l := id) (r := r) (hu.len e2) (.inr (hi.len e2)) (hr.imp (fun h => h) fun h => h.len e2) hy
  constructor
  · rw [j2.core, j1.core, setLinks_core hi hy]
  · rw [j2.parent, j1.parent, setLinks_Parent hi hy]
  · rw [j2.first, if_neg (by simp [hne]), j1.first, setLinks_First hi hy]
  · rw [j2.last, j1.last, if_neg (c := id = -1 ∧ y = up) (by simp [hne]), setLinks_Last hi hy]
  · rw [j2.next, j1.next, setLinks_Next hi hy]
    by_cases h : y = id
    · subst h; simp [hne]
    · simp [h]
  · rw [j2.prev, j1.prev, setLinks_Prev hi hy]
    by_cases h : y = id
    · subst h; simp [hne, hri.symm]
    · simp [h]
end Go.Proofs.YtpejdlfkaaiehaaGreatDoor
end
section
set_option linter.unusedVariables false
set_option linter.unusedSimpArgs false
namespace Go.Proofs.YtpejdlfkaaiehaaGreatDoor
open Go Go.Hb Go.RowKit
abbrev headL (l : List Int) : Int := l.headD (-1)
abbrev lastL (l : List Int) : Int := l.getLastD (-1)
theorem lastL_app {l : List Int} {x : Int} : lastL (l ++ [x]) = x := by simp [lastL, List.getLastD_eq_getLast?]
theorem lastL_app2 {l m : List Int} (h : m ≠ []) : lastL (l ++ m) = lastL m := by
  simp only [lastL, List.getLastD_eq_getLast?, List.getLast?_append]
  cases e : m.getLast? with
  | none => exact absurd (List.getLast?_eq_none_iff.1 e) h
  | some v => rfl
theorem lastL_mem {l : List Int} (h : l ≠ []) : lastL l ∈ l := by
  simp only [lastL, List.getLastD_eq_getLast?]
  cases e : l.getLast? with
  | none => exact absurd (List.getLast?_eq_none_iff.1 e) h
  | some v => exact List.mem_of_getLast? e
theorem headL_app {l m : List Int} (h : l ≠ []) : headL (l ++ m) = headL l := by cases l with | nil => exact absurd rfl h | cons => rfl
theorem headL_mem {l : List Int} (h : l ≠ []) : headL l ∈ l := by cases l with | nil => exact absurd rfl h | cons => simp
/-- the links of x's children l -/
structure Lnk (A : List Node_one) (x : Int) (l : List Int) : Prop where
  first : (nodeA A x).First = headL l
  last : (nodeA A x).Last = lastL l
  kid : ∀ pre y suf, l = pre ++ y :: suf → InA A y ∧ (nodeA A y).Parent = x ∧ (nodeA A y).Prev = lastL pre ∧ (nodeA A y).Next = headL suf
theorem Lnk.mem {A : List Node_one} {x y : Int} {l : List Int} (h : Lnk A x l) (hy : y ∈ l) : InA A y ∧ (nodeA A y).Parent = x := by
  obtain ⟨pre, suf, rfl⟩ := List.append_of_mem hy
  have := h.kid pre y suf rfl
  exact ⟨this.1, this.2.1⟩
theorem Lnk.chain {A : List Node_one} {x : Int} {l : List Int} (h : Lnk A x l) : Chain A (nodeA A x).First l := by
  have key : ∀ suf pre : List Int, l = pre ++ suf → Chain A (headL suf) suf := by
    intro suf
    induction suf with
    | nil => intro pre _; rfl
    | cons y suf ih =>
      intro pre e
      obtain ⟨h1, _, _, h4⟩ := h.kid pre y suf e
      refine ⟨rfl, by have := h1.1; omega, h1.b, ?_⟩
      show Chain A (nodeA A y).Next suf
      rw [h4]
      exact ih (pre ++ [y]) (by simp [e])
  rw [h.first]
  exact key l [] rfl
theorem Lnk.firstIn {A : List Node_one} {x : Int} {l : List Int} (h : Lnk A x l) : (nodeA A x).First = -1 ∨ InA A (nodeA A x).First := by
  rw [h.first]
  cases l with
  | nil => exact .inl rfl
  | cons y l => exact .inr (h.mem (by simp)).1
theorem Lnk.lastIn {A : List Node_one} {x : Int} {l : List Int} (h : Lnk A x l) : (nodeA A x).Last = -1 ∨ InA A (nodeA A x).Last := by
  rw [h.last]
  by_cases e : l = []
  · subst e; exact .inl rfl
  · exact .inr (h.mem (lastL_mem e)).1
/-- the rows of children of all nodes -/
structure Tree (A : List Node_one) (K : Int → List Int) : Prop where
  lnk : ∀ x, InA A x → Lnk A x (K x)
  nodup : ∀ x, InA A x → (K x).Nodup
  up : ∀ y, InA A y → (nodeA A y).Parent ≠ -1 → InA A (nodeA A y).Parent ∧ y ∈ K (nodeA A y).Parent
  free : ∀ y, InA A y → (nodeA A y).Parent = -1 → (nodeA A y).Prev = -1 ∧ (nodeA A y).Next = -1
  host : ∀ y, InA A y → (at_ A y.toNat).host = -1 ∨ InA A (at_ A y.toNat).host
  hostK : ∀ y, InA A y → (nodeA A y).Kind ≠ 5 → (at_ A y.toNat).host = -1
  upK : ∀ y, InA A y → (nodeA A y).Parent ≠ -1 → (nodeA A y).Kind ≠ 5
  inner : ∀ y, InA A y → (nodeA A y).Inner = -1 ∨ InA A (nodeA A y).Inner
  rank : Ranked A
  attrs : AttrsOk A
theorem Tree.nbr {A : List Node_one} {K : Int → List Int} (h : Tree A K) {y : Int} (hy : InA A y) (hp : (nodeA A y).Parent ≠ -1) : ∃ pre suf, K (nodeA A y).Parent = pre ++ y :: suf ∧ (nodeA A y).Prev = lastL pre ∧ (nodeA A y).Next = headL suf := by
  obtain ⟨hu, hm⟩ := h.up y hy hp
  obtain ⟨pre, suf, e⟩ := List.append_of_mem hm
  obtain ⟨_, _, h3, h4⟩ := (h.lnk _ hu).kid pre y suf e
  exact ⟨pre, suf, e, h3, h4⟩
theorem Tree.prevIn {A : List Node_one} {K : Int → List Int} (h : Tree A K) {y : Int} (hy : InA A y) : (nodeA A y).Prev = -1 ∨ InA A (nodeA A y).Prev := by
  by_cases hp : (nodeA A y).Parent = -1
  · exact .inl (h.free y hy hp).1
  · obtain ⟨pre, suf, e, h3, h4⟩ := h.nbr hy hp
    rw [h3]
    by_cases e2 : pre = []
    · subst e2; exact .inl rfl
    · exact .inr ((h.lnk _ (h.up y hy hp).1).mem (by rw [e]; exact List.mem_append_left _ (lastL_mem e2))).1
theorem Tree.nextIn {A : List Node_one} {K : Int → List Int} (h : Tree A K) {y : Int} (hy : InA A y) : (nodeA A y).Next = -1 ∨ InA A (nodeA A y).Next := by
  by_cases hp : (nodeA A y).Parent = -1
  · exact .inl (h.free y hy hp).2
  · obtain ⟨pre, suf, e, h3, h4⟩ := h.nbr hy hp
    rw [h4]
    by_cases e2 : suf = []
    · subst e2; exact .inl rfl
    · exact .inr ((h.lnk _ (h.up y hy hp).1).mem (by rw [e]; exact List.mem_append_right _ (List.mem_cons_of_mem _ (headL_mem e2)))).1
theorem Tree.links {A : List Node_one} {K : Int → List Int} (h : Tree A K) : LinksOk A where
  first x hx := (h.lnk x (inA_iff.1 hx)).firstIn
  last x hx := (h.lnk x (inA_iff.1 hx)).lastIn
  prev x hx := h.prevIn (inA_iff.1 hx)
  next x hx := h.nextIn (inA_iff.1 hx)
  parent x hx := by
    by_cases e : (nodeA A x).Parent = -1
    · exact .inl e
    · exact .inr (h.up x (inA_iff.1 hx) e).1
/-- a row without repeats of numbers below n is no longer than n -/
theorem nodup_le : ∀ (n : Nat) (l : List Int), l.Nodup → (∀ x ∈ l, 0 ≤ x ∧ x < n) → l.length ≤ n := by
  intro n
  induction n with
  | zero =>
    intro l _ h
    cases l with
    | nil => exact Nat.le_refl _
    | cons x l => have := h x (by simp); omega
  | succ n ih =>
    intro l hn h
    by_cases hm : (n : Int) ∈ l
    · have h1 := ih (l.erase n) (hn.erase _) (fun x hx => by
        have := h x (List.mem_of_mem_erase hx)
        have hne : x ≠ n := fun e => by subst e; exact hn.not_mem_erase hx
        omega)
      rw [List.length_erase_of_mem hm] at h1
      omega
    · have := ih l hn (fun x hx => by
        have := h x hx
        have hne : x ≠ n := fun e => by subst e; exact hm hx
        omega)
      omega
theorem Tree.len {A : List Node_one} {K : Int → List Int} (h : Tree A K) {x : Int} (hx : InA A x) : (K x).length ≤ A.length := nodup_le _ _ (h.nodup x hx) fun y hy => ((h.lnk x hx).mem hy).1
/-- the row with id ahead of before, or at the end -/
def insB (id before : Int) : List Int → List Int
  | [] => if before = -1 then [id] else []
  | y :: l => if y = before then id :: y :: insB id before l else y :: insB id before l
theorem insB_end {id : Int} : ∀ {l : List Int}, (∀ y ∈ l, y ≠ -1) → insB id (-1) l = l ++ [id]
  | [], _ => rfl
  | y :: l, h => by rw [insB, if_neg (h y (by simp)), insB_end fun z hz => h z (by simp [hz])]; rfl
theorem insB_not {id before : Int} (hb : before ≠ -1) : ∀ {l : List Int}, before ∉ l → insB id before l = l
  | [], _ => by rw [insB, if_neg hb]
  | y :: l, h => by rw [insB, if_neg (fun e => h (by simp [e])), insB_not hb fun hm => h (by simp [hm])]
theorem insB_at {id before : Int} (hb : before ≠ -1) : ∀ {pre suf : List Int}, (pre ++ before :: suf).Nodup → insB id before (pre ++ before :: suf) = pre ++ id :: before :: suf
  | [], suf, h => by
    show insB id before (before :: suf) = _
    rw [insB, if_pos rfl, insB_not hb (by simpa using (List.nodup_cons.1 h).1)]; rfl
  | y :: pre, suf, h => by
    have h2 := List.nodup_cons.1 h
    show insB id before (y :: (pre ++ before :: suf)) = _
    rw [insB, if_neg (fun e => h2.1 (by simp [e])), insB_at hb h2.2]; rfl
end Go.Proofs.YtpejdlfkaaiehaaGreatDoor
end
section
set_option linter.unusedVariables false
set_option linter.unusedSimpArgs false
namespace Go.Proofs.YtpejdlfkaaiehaaGreatDoor
open Go Go.Hb Go.RowKit
theorem app_cut {l1 l2 pre suf : List Int} {id y : Int} (h : l1 ++ id :: l2 = pre ++ y :: suf) : (y = id ∧ pre = l1 ∧ suf = l2) ∨ (∃ m, l2 = m ++ y :: suf ∧ pre = l1 ++ id :: m) ∨ (∃ m, l1 = pre ++ y :: m ∧ suf = m ++ id :: l2) := by
  rcases List.append_eq_append_iff.1 h with ⟨a, e1, e2⟩ | ⟨c, e1, e2⟩
  · cases a with
    | nil => injection e2 with e3 e4; exact .inl ⟨e3.symm, by simpa using e1, e4.symm⟩
    | cons b a => injection e2 with e3 e4; subst e3; exact .inr (.inl ⟨a, e4, e1⟩)
  · cases c with
    | nil => injection e2 with e3 e4; exact .inl ⟨e3, by simpa using e1.symm, e4⟩
    | cons b c => injection e2 with e3 e4; subst e3; exact .inr (.inr ⟨c, e1, e4⟩)
theorem nodup_ne {l1 l2 : List Int} {x y : Int} (h : (l1 ++ l2).Nodup) (hx : x ∈ l1) (hy : y ∈ l2) : x ≠ y := (List.nodup_append.1 h).2.2 x hx y hy
theorem Lnk.put {A B : List Node_one} {up id : Int} {l1 l2 : List Int} (h : Lnk A up (l1 ++ l2)) (hn : (l1 ++ l2).Nodup) (hlen : B.length = A.length) (hu : InA A up) (hi : InA A id) (hni : id ∉ l1 ++ l2)
    (hp : ∀ y, 0 ≤ y → Put A B up id (lastL l1) (headL l2) y) : Lnk B up (l1 ++ id :: l2) := by
  have hi0 := hi.1
  have hu0 := hu.1
  have m1 : ∀ {m}, l1 ≠ [] → m = lastL l1 → m ∈ l1 := fun h e => e ▸ lastL_mem h
  have pu := hp up hu0
  constructor
  · rw [pu.first]
    by_cases e : l1 = []
    · subst e; rw [if_pos ⟨rfl, rfl⟩]; rfl
    · have := (h.mem (List.mem_append_left l2 (lastL_mem e))).1.1
      rw [if_neg (by omega), h.first, headL_app e, headL_app e]
  · rw [pu.last]
    by_cases e : l2 = []
    · subst e; rw [if_pos ⟨rfl, rfl⟩, lastL_app2 (by simp)]; rfl
    · have := (h.mem (List.mem_append_right l1 (headL_mem e))).1.1
      rw [if_neg (by omega), h.last, lastL_app2 e, lastL_app2 (by simp), show id :: l2 = [id] ++ l2 from rfl, lastL_app2 e]
  · intro pre y suf e
    rcases app_cut e with ⟨rfl, rfl, rfl⟩ | ⟨m, rfl, rfl⟩ | ⟨m, rfl, rfl⟩
    · have py := hp y hi0
      exact ⟨hi.len hlen, by rw [py.parent, if_pos rfl], by rw [py.prev, if_pos rfl], by rw [py.next, if_pos rfl]⟩
    · have hy := h.kid (l1 ++ m) y suf (by simp)
      obtain ⟨g1, g2, g3, g4⟩ := hy
      have py := hp y g1.1
      have hne : y ≠ id := fun e => hni (by simp [e])
      refine ⟨g1.len hlen, by rw [py.parent, if_neg hne, g2], ?_, ?_⟩
      · rw [py.prev, if_neg hne]
        by_cases em : m = []
        · subst em
          have := g1.1
          rw [if_pos ⟨by show y ≠ -1; omega, rfl⟩, lastL_app]
        · have hyr : y ≠ headL (m ++ y :: suf) := by
            rw [headL_app em]
            have h2 := (List.nodup_append.1 hn).2.1
            exact (nodup_ne h2 (headL_mem em) (by simp)).symm
          rw [if_neg (fun h => hyr h.2), g3, lastL_app2 em, lastL_app2 (by simp), show id :: m = [id] ++ m from rfl, lastL_app2 em]
      · rw [py.next, if_neg hne, if_neg, g4]
        rintro ⟨k1, k2⟩
        by_cases e1 : l1 = []
        · subst e1; exact k1 rfl
        · exact nodup_ne hn (lastL_mem e1) (y := y) (by simp) k2.symm
    · have hy := h.kid pre y (m ++ l2) (by simp)
      obtain ⟨g1, g2, g3, g4⟩ := hy
      have py := hp y g1.1
      have hne : y ≠ id := fun e => hni (by simp [e])
      refine ⟨g1.len hlen, by rw [py.parent, if_neg hne, g2], ?_, ?_⟩
      · rw [py.prev, if_neg hne, if_neg, g3]
        rintro ⟨k1, k2⟩
        by_cases e1 : l2 = []
        · subst e1; exact k1 rfl
        · exact nodup_ne hn (x := y) (by simp) (headL_mem e1) k2
      · rw [py.next, if_neg hne]
        by_cases em : m = []
        · subst em
          have := g1.1
          rw [if_pos ⟨by rw [lastL_app]; omega, by rw [lastL_app]⟩]
          rfl
        · have hyr : y ≠ lastL (pre ++ y :: m) := by
            rw [show pre ++ y :: m = (pre ++ [y]) ++ m by simp, lastL_app2 em]
            have h2 := (List.nodup_append.1 (List.nodup_append.1 hn).1).2.1
            exact fun e => (List.nodup_cons.1 h2).1 (e ▸ lastL_mem em)
          rw [if_neg (fun h => hyr h.2), g4, headL_app em, headL_app em]
end Go.Proofs.YtpejdlfkaaiehaaGreatDoor
end
section
set_option linter.unusedVariables false
set_option linter.unusedSimpArgs false
namespace Go.Proofs.YtpejdlfkaaiehaaGreatDoor
open Go Go.Hb Go.RowKit
theorem core_kind {o p : Node_one} (h : coreN o = coreN p) : o.Node.Kind = p.Node.Kind := by
  have := congrArg (fun z : Node_one => z.Node.Kind) h
  exact this
theorem core_host {o p : Node_one} (h : coreN o = coreN p) : o.host = p.host := by
  have := congrArg (fun z : Node_one => z.host) h
  exact this
theorem core_inner {o p : Node_one} (h : coreN o = coreN p) : o.Node.Inner = p.Node.Inner := by
  have := congrArg (fun z : Node_one => z.Node.Inner) h
  exact this
theorem core_attrs {o p : Node_one} (h : coreN o = coreN p) : o.Node.Attrs = p.Node.Attrs := by
  have := congrArg (fun z : Node_one => z.Node.Attrs) h
  exact this
theorem toNat_nat {i : Nat} : ((i : Int)).toNat = i := rfl
theorem attrs_core {A B : List Node_one} (hl : B.length = A.length) (hc : ∀ y : Int, 0 ≤ y → coreN (at_ B y.toNat) = coreN (at_ A y.toNat)) (h : AttrsOk A) : AttrsOk B := fun i hi => by
  have := hc i (by omega)
  rw [toNat_nat] at this
  rw [core_attrs this]; exact h i (by omega)
/-- where a link goes -/
structure LinkAt (A : List Node_one) (K : Int → List Int) (up id before : Int) (l1 l2 : List Int) : Prop where
  hup : InA A up
  hid : InA A id
  kup : parentB (nodeA A up).Kind = true
  kid : (nodeA A id).Kind ≠ 0 ∧ (nodeA A id).Kind ≠ 5
  free : (nodeA A id).Parent = -1
  above : ¬ Anc A up id
  row : K up = l1 ++ l2
  bef : before = headL l2
  prev : prevL A up before = lastL l1
  new : insB id before (K up) = l1 ++ id :: l2
  res : linkL A up id before = (0, joinL (joinL (setLinks A id up (lastL l1) before) up (lastL l1) id) up id before)
theorem link_ok {A : List Node_one} {K : Int → List Int} (h : Tree A K) {up id before : Int} (h0 : (linkL A up id before).1 = 0) : ∃ l1 l2, LinkAt A K up id before l1 l2 := by
  unfold linkL at h0
  split at h0; · simp at h0
  next c1 =>
  split at h0; · simp at h0
  next c2 =>
  split at h0; · simp at h0
  next c3 =>
  split at h0; · simp at h0
  next c4 =>
  have e1 : linkL A up id before = (0, joinL (joinL (setLinks A id up (prevL A up before) before) up (prevL A up before) id) up id before) := by
    unfold linkL; rw [if_neg c1, if_neg c2, if_neg c3, if_neg c4]
  have hup : InA A up := by
    rw [← inA_iff]; cases hb : hasB A up with
    | true => rfl
    | false => exact absurd (.inl hb) c1
  have hid : InA A id := by
    rw [← inA_iff]; cases hb : hasB A id with
    | true => rfl
    | false => exact absurd (.inr (.inl hb)) c1
  have hbe : before = -1 ∨ InA A before := by
    by_cases hb : before = -1
    · exact .inl hb
    · right; rw [← inA_iff]; cases hb2 : hasB A before with
      | true => rfl
      | false => exact absurd (.inr (.inr ⟨hb, hb2⟩)) c1
  have kup : parentB (nodeA A up).Kind = true := by
    cases hb : parentB (nodeA A up).Kind with
    | true => rfl
    | false => exact absurd (.inl hb) c2
  have free : (nodeA A id).Parent = -1 := by
    by_cases hb : (nodeA A id).Parent = -1
    · exact hb
    · exact absurd (.inl hb) c3
  have above : ¬ Anc A up id := fun hA => c3 (.inr (by rw [aboveB, hup.b, hid.b, ancB_of hA]; rfl))
  have kid : (nodeA A id).Kind ≠ 0 ∧ (nodeA A id).Kind ≠ 5 := ⟨fun hb => c2 (.inr (.inl hb)), fun hb => c2 (.inr (.inr hb))⟩
  by_cases hb : before = -1
  · subst hb
    have e2 : prevL A up (-1) = lastL (K up) := by rw [prevL, if_pos rfl]; exact (h.lnk up hup).last
    refine ⟨K up, [], hup, hid, kup, kid, free, above, by simp, rfl, e2, ?_, ?_⟩
    · rw [insB_end fun y hy => ?_]
      have := ((h.lnk up hup).mem hy).1.1; omega
    · rw [e1, e2]
  · have hbi := hbe.resolve_left hb
    have hpb : (nodeA A before).Parent = up := by
      by_cases hp : (nodeA A before).Parent = up
      · exact hp
      · exact absurd ⟨hb, hp⟩ c4
    obtain ⟨pre, suf, e, e3, _⟩ := h.nbr hbi (by rw [hpb]; have := hup.1; omega)
    rw [hpb] at e
    have e2 : prevL A up before = lastL pre := by rw [prevL, if_neg hb]; exact e3
    have hnd := h.nodup up hup
    refine ⟨pre, before :: suf, hup, hid, kup, kid, free, above, e, rfl, e2, ?_, ?_⟩
    · rw [e] at hnd ⊢; exact insB_at hb hnd
    · rw [e1, e2]
theorem LinkAt.put {A : List Node_one} {K : Int → List Int} (h : Tree A K) {up id before : Int} {l1 l2 : List Int} (g : LinkAt A K up id before l1 l2) : id ∉ l1 ++ l2 ∧ ∀ y, 0 ≤ y → Put A (linkL A up id before).2 up id (lastL l1) (headL l2) y := by
  have hL := h.lnk up g.hup
  rw [g.row] at hL
  have hni : id ∉ l1 ++ l2 := fun hm => by have := (hL.mem hm).2; rw [g.free] at this; have := g.hup.1; omega
  refine ⟨hni, fun y hy => ?_⟩
  rw [g.res, g.bef]
  refine put_at g.hid g.hup ?_ ?_ ?_ ?_ hy
  · by_cases e : l1 = []
    · subst e; exact .inl rfl
    · exact .inr (hL.mem (List.mem_append_left _ (lastL_mem e))).1
  · by_cases e : l2 = []
    · subst e; exact .inl rfl
    · exact .inr (hL.mem (List.mem_append_right _ (headL_mem e))).1
  · by_cases e : l1 = []
    · subst e; have := g.hid.1; show (-1 : Int) ≠ id; omega
    · exact fun e2 => hni (e2 ▸ List.mem_append_left _ (lastL_mem e))
  · by_cases e : l2 = []
    · subst e; have := g.hid.1; show (-1 : Int) ≠ id; omega
    · exact fun e2 => hni (e2 ▸ List.mem_append_right _ (headL_mem e))
def linkK (K : Int → List Int) (up id before : Int) : Int → List Int := fun x => if x = up then insB id before (K up) else K x
theorem rank_link {A B : List Node_one} {up id : Int} (hl : B.length = A.length) (hr : Ranked A) (hup : InA A up) (hid : InA A id) (hroot : nextUp A id = -1) (hna : ¬ Anc A up id) (hn : ∀ y, InA A y → nextUp B y = if y = id then up else nextUp A y) : Ranked B := by
  obtain ⟨rk, hrk⟩ := hr
  refine ⟨fun x => @ite Nat (Anc A x id) (Classical.propDecidable _) (rk x + rk up + 1) (rk x), fun x hx => ?_⟩
  have hxA : InA A x := ⟨(inA_iff.1 hx).1, by have := (inA_iff.1 hx).2; omega⟩
  rw [hn x hxA]
  by_cases e : x = id
  · subst e
    rw [if_pos rfl]
    right
    refine ⟨(hup.len hl).b, ?_⟩
    dsimp only
    rw [if_neg hna, if_pos (.refl x)]
    omega
  · rw [if_neg e]
    rcases hrk x hxA.b with h1 | ⟨h1, h2⟩
    · exact .inl h1
    · right
      refine ⟨((inA_iff.1 h1).len hl).b, ?_⟩
      dsimp only
      by_cases hA : Anc A x id
      · have := (anc_ne e (by have := hxA.1; omega)).1 hA
        rw [if_pos hA, if_pos this]; omega
      · rw [if_neg hA, if_neg (fun h => hA (.step (by have := hxA.1; omega) h))]; exact h2
theorem Tree.link {A : List Node_one} {K : Int → List Int} (h : Tree A K) {up id before : Int} (h0 : (linkL A up id before).1 = 0) : Tree (linkL A up id before).2 (linkK K up id before) := by
  obtain ⟨l1, l2, g⟩ := link_ok h h0
  obtain ⟨hni, hp⟩ := g.put h
  have hl : (linkL A up id before).2.length = A.length := linkL_len
  obtain ⟨B, hB⟩ : ∃ B, B = (linkL A up id before).2 := ⟨_, rfl⟩
  rw [← hB] at hp hl ⊢
  have hiA : ∀ {y}, InA B y → InA A y := fun h => h.len hl.symm
  have hL := h.lnk up g.hup
  have hN := h.nodup up g.hup
  rw [g.row] at hL hN
  have hu0 := g.hup.1
  have hpar : ∀ y, InA A y → (nodeA B y).Parent = if y = id then up else (nodeA A y).Parent := fun y hy => (hp y hy.1).parent
  constructor
  · intro x hx
    have hxA := hiA hx
    by_cases e : x = up
    · subst e
      rw [linkK, if_pos rfl, g.new]
      exact hL.put hN hl g.hup g.hid hni hp
    · rw [linkK, if_neg e]
      have hX := h.lnk x hxA
      have px := hp x hxA.1
      refine ⟨by rw [px.first, if_neg (fun h => e h.2), hX.first], by rw [px.last, if_neg (fun h => e h.2), hX.last], fun pre y suf ey => ?_⟩
      obtain ⟨g1, g2, g3, g4⟩ := hX.kid pre y suf ey
      have py := hp y g1.1
      have hne : y ≠ id := fun e2 => by rw [e2, g.free] at g2; have := hxA.1; omega
      have hnu : ∀ z, z ∈ l1 ++ l2 → y ≠ z := fun z hz e2 => by rw [e2, (hL.mem hz).2] at g2; exact e g2.symm
      refine ⟨g1.len hl, by rw [py.parent, if_neg hne, g2], ?_, ?_⟩
      · rw [py.prev, if_neg hne, if_neg, g3]
        rintro ⟨k1, k2⟩
        by_cases e1 : l2 = []
        · subst e1; exact k1 rfl
        · exact hnu _ (List.mem_append_right _ (headL_mem e1)) k2
      · rw [py.next, if_neg hne, if_neg, g4]
        rintro ⟨k1, k2⟩
        by_cases e1 : l1 = []
        · subst e1; exact k1 rfl
        · exact hnu _ (List.mem_append_left _ (lastL_mem e1)) k2
  · intro x hx
    by_cases e : x = up
    · subst e
      rw [linkK, if_pos rfl, g.new]
      have h3 := List.nodup_append.1 hN
      refine List.nodup_append.2 ⟨h3.1, List.nodup_cons.2 ⟨fun hm => hni (List.mem_append_right _ hm), h3.2.1⟩, fun a ha b hb => ?_⟩
      rcases List.mem_cons.1 hb with rfl | hb
      · exact fun e => hni (e ▸ List.mem_append_left _ ha)
      · exact h3.2.2 a ha b hb
    · rw [linkK, if_neg e]; exact h.nodup x (hiA hx)
  · intro y hy hpy
    have hyA := hiA hy
    rw [hpar y hyA] at hpy ⊢
    by_cases e : y = id
    · subst e
      rw [if_pos rfl]
      exact ⟨g.hup.len hl, by rw [linkK, if_pos rfl, g.new]; simp⟩
    · rw [if_neg e] at hpy ⊢
      obtain ⟨h1, h2⟩ := h.up y hyA hpy
      refine ⟨h1.len hl, ?_⟩
      by_cases e2 : (nodeA A y).Parent = up
      · rw [linkK, if_pos e2, g.new]
        rw [e2, g.row] at h2
        rcases List.mem_append.1 h2 with h2 | h2
        · exact List.mem_append_left _ h2
        · exact List.mem_append_right _ (List.mem_cons_of_mem _ h2)
      · rw [linkK, if_neg e2]; exact h2
  · intro y hy hpy
    have hyA := hiA hy
    rw [hpar y hyA] at hpy
    by_cases e : y = id
    · subst e; rw [if_pos rfl] at hpy; omega
    · rw [if_neg e] at hpy
      obtain ⟨h1, h2⟩ := h.free y hyA hpy
      have py := hp y hyA.1
      have hnu : ∀ z, z ∈ l1 ++ l2 → y ≠ z := fun z hz e2 => by have := (hL.mem hz).2; rw [← e2, hpy] at this; omega
      constructor
      · rw [py.prev, if_neg e, if_neg, h1]
        rintro ⟨k1, k2⟩
        by_cases e1 : l2 = []
        · subst e1; exact k1 rfl
        · exact hnu _ (List.mem_append_right _ (headL_mem e1)) k2
      · rw [py.next, if_neg e, if_neg, h2]
        rintro ⟨k1, k2⟩
        by_cases e1 : l1 = []
        · subst e1; exact k1 rfl
        · exact hnu _ (List.mem_append_left _ (lastL_mem e1)) k2
  · intro y hy
    rw [core_host (hp y hy.1).core]
    exact (h.host y (hiA hy)).imp (fun h => h) fun h => h.len hl
  · intro y hy hk
    rw [nodeA, core_kind (hp y hy.1).core] at hk
    rw [core_host (hp y hy.1).core]
    exact h.hostK y (hiA hy) hk
  · intro y hy hpy
    rw [nodeA, core_kind (hp y hy.1).core]
    rw [hpar y (hiA hy)] at hpy
    by_cases e : y = id
    · subst e; exact g.kid.2
    · rw [if_neg e] at hpy; exact h.upK y (hiA hy) hpy
  · intro y hy
    rw [nodeA, core_inner (hp y hy.1).core]
    exact (h.inner y (hiA hy)).imp (fun h => h) fun h => h.len hl
  · refine rank_link hl h.rank g.hup g.hid ?_ g.above fun y hy => ?_
    · have e := g.free
      simp only [nodeA] at e
      rw [nextUp, if_pos e]; exact h.hostK id g.hid g.kid.2
    · have e := hpar y hy
      simp only [nodeA] at e
      simp only [nextUp, e, core_host (hp y hy.1).core]
      by_cases e2 : y = id
      · rw [if_pos e2, if_pos e2, if_neg (by omega)]
      · rw [if_neg e2, if_neg e2]
  · exact attrs_core hl (fun y hy => (hp y hy).core) h.attrs
end Go.Proofs.YtpejdlfkaaiehaaGreatDoor
end
section
set_option linter.unusedVariables false
set_option linter.unusedSimpArgs false
namespace Go.Proofs.YtpejdlfkaaiehaaGreatDoor
open Go Go.Hb Go.RowKit
def addK (A : List Node_one) (K : Int → List Int) : Int → List Int := fun x => if x = A.length then [] else K x
theorem at_new {A : List Node_one} {o : Node_one} : at_ (A ++ [o]) ((A.length : Int)).toNat = o := at_app_new
theorem at_old {A : List Node_one} {o : Node_one} {y : Int} (h : InA A y) : at_ (A ++ [o]) y.toNat = at_ A y.toNat := at_app_l (by have := h.1; have := h.2; omega)
theorem inA_new {A : List Node_one} {o : Node_one} {y : Int} : InA (A ++ [o]) y ↔ InA A y ∨ y = A.length := by
  simp only [InA, List.length_append, List.length_cons, List.length_nil]; omega
theorem Tree.add {A : List Node_one} {K : Int → List Int} (h : Tree A K) (n : Api_node) (ha : n.Attrs.length ≤ 1024) : Tree (A ++ [blankN n]) (addK A K) := by
  have hin : ∀ {y}, InA A y → InA (A ++ [blankN n]) y := fun h => inA_new.2 (.inl h)
  have hne : ∀ {y}, InA A y → y ≠ A.length := fun h => by have := h.2; omega
  constructor
  · intro x hx
    rcases inA_new.1 hx with hx | rfl
    · rw [addK, if_neg (hne hx)]
      have hX := h.lnk x hx
      refine ⟨by rw [nodeA, at_old hx]; exact hX.first, by rw [nodeA, at_old hx]; exact hX.last, fun pre y suf e => ?_⟩
      obtain ⟨g1, g2, g3, g4⟩ := hX.kid pre y suf e
      rw [nodeA, at_old g1]
      exact ⟨hin g1, g2, g3, g4⟩
    · rw [addK, if_pos rfl]
      exact ⟨by rw [nodeA, at_new]; rfl, by rw [nodeA, at_new]; rfl, fun pre y suf e => by simp at e⟩
  · intro x hx
    rcases inA_new.1 hx with hx | rfl
    · rw [addK, if_neg (hne hx)]; exact h.nodup x hx
    · rw [addK, if_pos rfl]; exact List.nodup_nil
  · intro y hy hp
    rcases inA_new.1 hy with hy | rfl
    · rw [nodeA, at_old hy] at hp ⊢
      obtain ⟨h1, h2⟩ := h.up y hy hp
      exact ⟨hin h1, by rw [addK, if_neg (hne h1)]; exact h2⟩
    · rw [nodeA, at_new] at hp; exact absurd rfl hp
  · intro y hy hp
    rcases inA_new.1 hy with hy | rfl
    · rw [nodeA, at_old hy] at hp ⊢; exact h.free y hy hp
    · rw [nodeA, at_new]; exact ⟨rfl, rfl⟩
  · intro y hy
    rcases inA_new.1 hy with hy | rfl
    · rw [at_old hy]; exact (h.host y hy).imp (fun h => h) hin
    · rw [at_new]; exact .inl rfl
  · intro y hy hk
    rcases inA_new.1 hy with hy | rfl
    · rw [nodeA, at_old hy] at hk; rw [at_old hy]; exact h.hostK y hy hk
    · rw [at_new]; rfl
  · intro y hy hp
    rcases inA_new.1 hy with hy | rfl
    · rw [nodeA, at_old hy] at hp ⊢; exact h.upK y hy hp
    · rw [nodeA, at_new] at hp; exact absurd rfl hp
  · intro y hy
    rcases inA_new.1 hy with hy | rfl
    · rw [nodeA, at_old hy]; exact (h.inner y hy).imp (fun h => h) hin
    · rw [nodeA, at_new]; exact .inl rfl
  · obtain ⟨rk, hrk⟩ := h.rank
    refine ⟨rk, fun x hx => ?_⟩
    rcases inA_new.1 (inA_iff.1 hx) with hx | rfl
    · rw [nextUp, at_old hx]
      exact (hrk x hx.b).imp (fun h => h) fun h => ⟨(hin (inA_iff.1 h.1)).b, h.2⟩
    · rw [nextUp, at_new]; exact .inl rfl
  · intro i hi
    by_cases e : i < A.length
    · rw [at_app_l e]; exact h.attrs i e
    · have : i = A.length := by simp at hi; omega
      subst this; rw [at_app_new]; exact ha
theorem Tree.new : Tree [docD] (fun _ => []) := by
  have hx0 : ∀ {x : Int}, InA [docD] x → x = 0 := fun h => by have h1 := h.1; have h2 : _ < ((1 : Nat) : Int) := h.2; omega
  constructor
  · intro x hx; have := hx0 hx; subst this; exact ⟨rfl, rfl, fun pre y suf e => by simp at e⟩
  · intro x hx; exact List.nodup_nil
  · intro x hx hp; have := hx0 hx; subst this; exact absurd rfl hp
  · intro x hx hp; have := hx0 hx; subst this; exact ⟨rfl, rfl⟩
  · intro x hx; have := hx0 hx; subst this; exact .inl rfl
  · intro x hx hp; have := hx0 hx; subst this; rfl
  · intro x hx hp; have := hx0 hx; subst this; exact absurd rfl hp
  · intro x hx; have := hx0 hx; subst this; exact .inl rfl
  · exact ⟨fun _ => 0, fun x hx => by have := hx0 (inA_iff.1 hx); subst this; exact .inl rfl⟩
  · intro i hi; have : i = 0 := by simp at hi; omega
    subst this; exact Nat.zero_le _
end Go.Proofs.YtpejdlfkaaiehaaGreatDoor
end
section
set_option linter.unusedVariables false
set_option linter.unusedSimpArgs false
namespace Go.Proofs.YtpejdlfkaaiehaaGreatDoor
open Go Go.Hb Go.RowKit
theorem link_go {A : List Node_one} {up id before : Int} (hup : InA A up) (hid : InA A id) (hbe : before = -1 ∨ InA A before ∧ (nodeA A before).Parent = up) (kup : parentB (nodeA A up).Kind = true) (kid : (nodeA A id).Kind ≠ 0 ∧ (nodeA A id).Kind ≠ 5) (free : (nodeA A id).Parent = -1) (above : ¬ Anc A up id) : (linkL A up id before).1 = 0 := by
  unfold linkL
  rw [if_neg, if_neg, if_neg, if_neg]
  · rintro ⟨h1, h2⟩
    rcases hbe with h | h
    · exact h1 h
    · exact h2 h.2
  · rintro (h | h)
    · exact h free
    · simp only [aboveB, Bool.and_eq_true] at h
      exact above (ancB_iff.1 h.2)
  · rintro (h | h | h)
    · have := kup.symm.trans h; simp at this
    · exact kid.1 h
    · exact kid.2 h
  · rintro (h | h | ⟨h1, h⟩)
    · rw [hup.b] at h; simp at h
    · rw [hid.b] at h; simp at h
    · rcases hbe with h2 | h2
      · exact h1 h2
      · rw [h2.1.b] at h; simp at h
end Go.Proofs.YtpejdlfkaaiehaaGreatDoor
end
section
set_option linter.unusedVariables false
set_option linter.unusedSimpArgs false
namespace Go.Proofs.YtpejdlfkaaiehaaGreatDoor
open Go Go.Hb Go.RowKit
theorem countP_two {β : Type} (q r : β → Bool) : ∀ L : List β, L.countP q = L.countP (fun y => q y && r y) + L.countP (fun y => q y && !r y)
  | [] => rfl
  | y :: L => by
    have ih := countP_two q r L
    simp only [List.countP_cons]
    cases q y <;> cases r y <;> simp <;> omega
theorem countP_le {β : Type} {p q : β → Bool} : ∀ {L : List β}, (∀ y ∈ L, p y = true → q y = true) → L.countP p ≤ L.countP q
  | [], _ => Nat.le_refl _
  | y :: L, h => by
    have ih := countP_le (p := p) (q := q) (L := L) fun z hz => h z (by simp [hz])
    have hy := h y (by simp)
    simp only [List.countP_cons]
    cases e : p y with
    | true => rw [hy e]; simp; omega
    | false => simp; omega
theorem countP_sum {β : Type} {L : List β} : ∀ (ps : List (β → Bool)) (q : β → Bool), ps.Pairwise (fun p p' => ∀ y ∈ L, ¬ (p y = true ∧ p' y = true)) → (∀ p ∈ ps, ∀ y ∈ L, p y = true → q y = true) → (ps.map fun p => L.countP p).sum ≤ L.countP q
  | [], _, _, _ => Nat.zero_le _
  | p :: ps, q, hp, hq => by
    obtain ⟨h1, h2⟩ := List.pairwise_cons.1 hp
    have ih := countP_sum ps (fun y => q y && !p y) h2 fun p' hp' y hy e => by
      have e1 := hq p' (by simp [hp']) y hy e
      have e2 : p y = false := by
        cases e3 : p y with
        | false => rfl
        | true => exact absurd ⟨e3, e⟩ (h1 p' hp' y hy)
      simp [e1, e2]
    have h3 : L.countP p ≤ L.countP (fun y => q y && p y) := countP_le fun y hy e => by simp [hq p (by simp) y hy e, e]
    have h4 := countP_two q p L
    simp only [List.map_cons, List.sum_cons]
    omega
theorem Anc.trans {A : List Node_one} {x y z : Int} (h : Anc A x y) (g : Anc A y z) : Anc A x z := by
  induction h with
  | refl => exact g
  | step h _ ih => exact .step h (ih g)
theorem anc_two {A : List Node_one} {y c c' : Int} (h : Anc A y c) (g : Anc A y c') : Anc A c c' ∨ Anc A c' c := by
  induction h with
  | refl => exact .inl g
  | step h hs ih =>
    cases g with
    | refl => exact .inr (.step h hs)
    | step _ gs => exact ih gs
theorem anc_rk {A : List Node_one} {rk : Int → Nat} (hr : ∀ x, hasB A x = true → nextUp A x = -1 ∨ hasB A (nextUp A x) = true ∧ rk (nextUp A x) < rk x) {y x : Int} (h : Anc A y x) (hx : x ≠ -1) (hy : InA A y) : rk x ≤ rk y := by
  induction h with
  | refl => exact Nat.le_refl _
  | step h hs ih =>
    rcases hr _ hy.b with e | ⟨e1, e2⟩
    · rw [e] at hs; exact absurd (anc_none hs) hx
    · have := ih hx (inA_iff.1 e1); omega
noncomputable def cnt (A : List Node_one) (x : Int) : Nat := (List.range A.length).countP fun y : Nat => ancB A (y : Int) x
theorem cnt_le {A : List Node_one} {x : Int} : cnt A x ≤ A.length := by
  have := List.countP_le_length (p := fun y : Nat => ancB A (y : Int) x) (l := List.range A.length)
  simpa [cnt] using this
theorem cnt_pos {A : List Node_one} {x : Int} (hx : InA A x) : 0 < cnt A x := by
  refine List.countP_pos_iff.2 ⟨x.toNat, by have := hx.1; have := hx.2; simp; omega, ?_⟩
  have : ((x.toNat : Nat) : Int) = x := Int.toNat_of_nonneg hx.1
  rw [this]; exact ancB_of (.refl x)
/-- those below the ones right below a node are fewer than those below it -/
theorem cnt_below {A : List Node_one} (hr : Ranked A) {x : Int} (hx : InA A x) {cs : List Int} (hn : cs.Nodup) (hc : ∀ c ∈ cs, InA A c ∧ nextUp A c = x) : (cs.map (cnt A)).sum + 1 ≤ cnt A x := by
  obtain ⟨rk, hrk⟩ := hr
  have hx1 : x ≠ -1 := by have := hx.1; omega
  have lt : ∀ c ∈ cs, rk x < rk c := fun c hm => by
    obtain ⟨h1, h2⟩ := hc c hm
    rcases hrk c h1.b with e | ⟨_, e⟩
    · rw [h2] at e; exact absurd e hx1
    · rwa [h2] at e
  have ne : ∀ c ∈ cs, c ≠ -1 := fun c hm => by have := (hc c hm).1.1; omega
  have no : ∀ c ∈ cs, ¬ Anc A x c := fun c hm h => by
    have := anc_rk hrk h (ne c hm) hx
    have := lt c hm
    omega
  have key := countP_sum (L := List.range A.length) ((fun y : Nat => decide ((y : Int) = x)) :: cs.map fun c (y : Nat) => ancB A (y : Int) c) (fun y => ancB A (y : Int) x) (by
    refine List.pairwise_cons.2 ⟨fun p hp y _ h => ?_, ?_⟩
    · obtain ⟨c, hm, rfl⟩ := List.mem_map.1 hp
      obtain ⟨h1, h2⟩ := h
      have h1 := of_decide_eq_true h1
      have h2 : ancB A (y : Int) c = true := h2
      rw [h1] at h2
      exact no c hm (ancB_iff.1 h2)
    · refine List.pairwise_map.2 ?_
      refine List.Pairwise.imp_of_mem ?_ hn
      intro c c' hm hm' hne y _ h
      have h1 := ancB_iff.1 h.1
      have h2 := ancB_iff.1 h.2
      rcases anc_two h1 h2 with h | h
      · have := (anc_ne hne (ne c hm)).1 h
        rw [(hc c hm).2] at this
        exact no c' hm' this
      · have := (anc_ne (fun e => hne e.symm) (ne c' hm')).1 h
        rw [(hc c' hm').2] at this
        exact no c hm this) (by
    intro p hp y hy h
    rcases List.mem_cons.1 hp with rfl | hp
    · have h := of_decide_eq_true h
      rw [h]; exact ancB_of (.refl x)
    · obtain ⟨c, hm, rfl⟩ := List.mem_map.1 hp
      refine ancB_of ((ancB_iff.1 h).trans (.step (ne c hm) ?_))
      rw [(hc c hm).2]; exact .refl x)
  have h1 : 0 < (List.range A.length).countP (fun y : Nat => decide ((y : Int) = x)) := List.countP_pos_iff.2 ⟨x.toNat, by have := hx.1; have := hx.2; simp; omega, by have := hx.1; simp; omega⟩
  simp only [List.map_cons, List.sum_cons, List.map_map] at key
  have e : cs.map ((fun p => List.countP p (List.range A.length)) ∘ fun c (y : Nat) => ancB A (y : Int) c) = cs.map (cnt A) := rfl
  rw [e] at key
  show _ ≤ cnt A x
  have : cnt A x = (List.range A.length).countP (fun y : Nat => ancB A (y : Int) x) := rfl
  omega
/-- a template's contents know their host -/
def InnOk (A : List Node_one) : Prop := ∀ y, InA A y → (nodeA A y).Inner ≠ -1 → InA A (nodeA A y).Inner ∧ (nodeA A (nodeA A y).Inner).Kind = 5 ∧ (at_ A (nodeA A y).Inner.toNat).host = y ∧ (nodeA A y).Kind = 1
theorem kid_up {A : List Node_one} {K : Int → List Int} (t : Tree A K) {x c : Int} (hx : InA A x) (hc : c ∈ K x) : InA A c ∧ nextUp A c = x := by
  obtain ⟨h1, h2⟩ := (t.lnk x hx).mem hc
  refine ⟨h1, ?_⟩
  have : (at_ A c.toNat).Node.Parent = x := h2
  rw [nextUp, this, if_neg (by have := hx.1; omega)]
theorem inner_up {A : List Node_one} {K : Int → List Int} (t : Tree A K) (g : InnOk A) {x : Int} (hx : InA A x) (hi : (nodeA A x).Inner ≠ -1) : InA A (nodeA A x).Inner ∧ nextUp A (nodeA A x).Inner = x := by
  obtain ⟨h1, h2, h3, _⟩ := g x hx hi
  refine ⟨h1, ?_⟩
  have hp : (nodeA A (nodeA A x).Inner).Parent = -1 := Classical.byContradiction fun hp => t.upK _ h1 hp h2
  rw [nextUp, if_pos hp, h3]
theorem kids_cnt {A : List Node_one} {K : Int → List Int} (t : Tree A K) {x : Int} (hx : InA A x) : ((K x).map (cnt A)).sum + 1 ≤ cnt A x := cnt_below t.rank hx (t.nodup x hx) fun c hc => kid_up t hx hc
theorem inner_cnt {A : List Node_one} {K : Int → List Int} (t : Tree A K) (g : InnOk A) {x : Int} (hx : InA A x) (hi : (nodeA A x).Inner ≠ -1) : ((K x).map (cnt A)).sum + cnt A (nodeA A x).Inner + 1 ≤ cnt A x := by
  have h1 := inner_up t g hx hi
  have h5 := (g x hx hi).2.1
  have := cnt_below t.rank hx (cs := (nodeA A x).Inner :: K x) (by
    refine List.nodup_cons.2 ⟨fun hm => ?_, t.nodup x hx⟩
    have h2 := ((t.lnk x hx).mem hm).2
    exact t.upK _ h1.1 (by rw [h2]; have := hx.1; omega) h5) (fun c hc => by
    rcases List.mem_cons.1 hc with rfl | hc
    · exact h1
    · exact kid_up t hx hc)
  simp only [List.map_cons, List.sum_cons] at this
  omega
theorem core_name {o p : Node_one} (h : coreN o = coreN p) : o.Node.Name = p.Node.Name := by
  have := congrArg (fun z : Node_one => z.Node.Name) h; simpa [coreN] using this
end Go.Proofs.YtpejdlfkaaiehaaGreatDoor
end
section
set_option linter.unusedVariables false
set_option linter.unusedSimpArgs false
set_option maxRecDepth 100000
namespace Go.Proofs.YtpejdlfkaaiehaaGreatDoor
open Go Go.Hb Go.RowKit
structure StkI (A : List Node_one) (l : List Int) : Prop where
  el : AllEl A l
  nodup : l.Nodup
theorem StkI.len {A : List Node_one} {l : List Int} (h : StkI A l) : l.length ≤ A.length := nodup_le _ _ h.nodup fun x hx => by
  have := hasB_true (elB_has (h.el x hx)); omega
theorem StkI.nil {A : List Node_one} : StkI A [] := ⟨fun x hx => by simp at hx, List.nodup_nil⟩
theorem StkI.cons {A : List Node_one} {l : List Int} {x : Int} (h : StkI A l) (hx : elB A x = true) (hn : x ∉ l) : StkI A (x :: l) := ⟨fun y hy => by
  rcases List.mem_cons.1 hy with rfl | hy
  · exact hx
  · exact h.el y hy, List.nodup_cons.2 ⟨hn, h.nodup⟩⟩
theorem StkI.perm {A : List Node_one} {l m : List Int} (h : StkI A l) (p : l.Perm m) : StkI A m := ⟨fun y hy => h.el y (p.mem_iff.2 hy), p.nodup_iff.1 h.nodup⟩
theorem StkI.sub {A : List Node_one} {l m : List Int} (h : StkI A l) (p : m.Sublist l) : StkI A m := ⟨fun y hy => h.el y (p.subset hy), h.nodup.sublist p⟩
theorem StkI.take {A : List Node_one} {l : List Int} (h : StkI A l) (i : Nat) : StkI A (l.take i) := h.sub (List.take_sublist i l)
end Go.Proofs.YtpejdlfkaaiehaaGreatDoor
end
section
set_option linter.unusedVariables false
set_option linter.unusedSimpArgs false
set_option maxRecDepth 100000
namespace Go.Proofs.YtpejdlfkaaiehaaGreatDoor
open Go Go.Hb Go.RowKit
theorem linkL_err {A : List Node_one} {up id before : Int} (h : (linkL A up id before).1 ≠ 0) : (linkL A up id before).2 = A := by
  unfold linkL at h ⊢
  by_cases c1 : hasB A up = false ∨ hasB A id = false ∨ (before ≠ -1 ∧ hasB A before = false)
  · rw [if_pos c1]
  rw [if_neg c1] at h ⊢
  by_cases c2 : parentB (at_ A up.toNat).Node.Kind = false ∨ (at_ A id.toNat).Node.Kind = 0 ∨ (at_ A id.toNat).Node.Kind = 5
  · rw [if_pos c2]
  rw [if_neg c2] at h ⊢
  by_cases c3 : (at_ A id.toNat).Node.Parent ≠ -1 ∨ aboveB A up id = true
  · rw [if_pos c3]
  rw [if_neg c3] at h ⊢
  by_cases c4 : before ≠ -1 ∧ (at_ A before.toNat).Node.Parent ≠ up
  · rw [if_pos c4]
  rw [if_neg c4] at h; exact absurd rfl h
end Go.Proofs.YtpejdlfkaaiehaaGreatDoor
end
section
set_option linter.unusedVariables false
set_option linter.unusedSimpArgs false
set_option maxRecDepth 100000
namespace Go.Proofs.YtpejdlfkaaiehaaGreatDoor
open Go Go.Hb Go.RowKit
theorem linkL_core {A : List Node_one} {K : Int → List Int} (t : Tree A K) {up id before : Int} {y : Int} (hy : 0 ≤ y) : coreN (at_ (linkL A up id before).2 y.toNat) = coreN (at_ A y.toNat) := by
  by_cases h0 : (linkL A up id before).1 = 0
  · obtain ⟨l1, l2, g⟩ := link_ok t h0
    exact ((g.put t).2 y hy).core
  · rw [linkL_err h0]
section
variable {A : List Node_one} {sp : Int} {nm : ByteArray} {q : Option Addr} {d : Nat}
end
theorem core_space {o p : Node_one} (h : coreN o = coreN p) : o.Node.Space = p.Node.Space := by have := congrArg (fun z : Node_one => z.Node.Space) h; simpa only [coreN] using this
end Go.Proofs.YtpejdlfkaaiehaaGreatDoor
end
section
set_option linter.unusedVariables false
set_option linter.unusedSimpArgs false
set_option maxRecDepth 100000
namespace Go.Proofs.YtpejdlfkaaiehaaGreatDoor
open Go Go.Hb Go.RowKit
def allB (A : List Node_one) (ids : List Int) : Bool := ids.all fun x => decide (x = -1) || hasB A x
section
variable {k : Ctx} {w : World} {a s r z c : Nat} {p : Option Addr} {A : List Node_one} {l : List Int}
theorem all_spec {ids : List Int} {tp : Option Addr} {tc : Nat} (hn : 0 < A.length) (hs : Sli (Ro k) (.slice tp ids.length tc) (ids.map (eI .i64))) (hl : ids.length ≤ 1000000) (hO : Own k w [arenaL a A]) :
    Tri Tryz.prog 179 #[.pointer (some ⟨a, 0, none⟩), .slice tp ids.length tc] k w fun v m => v = .bool (allB A ids) ∧ m = [arenaL a A] := by
  refine enter (args := [.pointer (some ⟨a, 0, none⟩), .slice tp ids.length tc]) Tryz.func179 rfl rfl ?_
  have hgs := sli_gs hs
  refine K0 (K1 ?_)
  refine l_y rfl rfl (y_assign rfl) ?_
  refine K2 (K3 (K0 (K0 (K1 ?_))))
  refine l_y rfl rfl (y_move rfl) ?_
  refine l_y rfl rfl (y_lenL rfl) ?_
  refine l_y rfl rfl (y_move rfl) ?_
  refine K2 (K3 (K4 ?_))
  refine c_rounds (X := Nat) (fun i => [(0, .pointer (some ⟨a, 0, none⟩)), (4, .bool false), (7, .slice tp ids.length tc), (8, .int .i64 ((ids.length : Nat) : Int)), (9, .int .i64 (i : Int))]) (fun i w => Own k w [arenaL a A] ∧ (i ≤ ids.length ∧ allB A (ids.take i) = true)) (fun i => ids.length - i) (0) ⟨rfl, rfl, rfl, rfl, rfl, trivial⟩ ⟨hO.only [.o a], ⟨Nat.zero_le _, rfl⟩⟩ ?_
  rintro i w m hm ⟨hO, hi⟩
  refine K0 (K1 ?_)
  refine Z0 (fun h2_0 => ?_) (fun h2_0 => ?_)
  · refine K2 (K3 (K0 (L8 (K5 (K3 (K0 (K4 (K0 (K1 ?_)))))))))
    refine l_y rfl rfl (y_idx rfl rfl) ?_
    refine l_y rfl rfl (y_r1 (x0 := 0) (enc := (eI .i64)) (xs := ids) hO rfl) ?_
    refine l_y rfl rfl (y_assign rfl) ?_
    refine K2 (K3 (K0 (K1 ?_)))
    refine l_y rfl rfl (y_move rfl) ?_
    refine Z1 (fun h4_1 => ?_) (fun h4_1 => ?_)
    · refine l_y rfl rfl (y_move rfl) ?_
      refine l_y rfl rfl (y_move rfl) ?_
      refine Z0 (fun h4_4 => ?_) (fun h4_4 => ?_)
      · refine l_y rfl rfl (y_move rfl) ?_
        repeat refine M2 ?_
        refine l_y rfl rfl (y_pick_t rfl rfl) ?_
        refine l_y rfl rfl (y_pick_t rfl rfl) ?_
        refine K2 (K3 (L8 (K0 (K1 ?_))))
        refine l_y rfl rfl (y_assign rfl) ?_
        refine K2 (K3 (K6 (L0 (K9 (K9 (L0 (K9 ?_)))))))
        have hlf : allB A ids = false := by
          refine List.all_eq_false.2 ⟨at_ ids i, at_mem (by omega), ?_⟩
          simp only [Int.toNat_natCast] at *
          rw [decide_eq_false h4_1, hasB, decide_eq_false (by omega)]; simp
        exact fin1 rfl rfl ⟨_, ⟨by rw [hlf], rfl⟩, hO.only [.o a]⟩
      · refine l_y rfl rfl (y_move rfl) ?_
        refine l_y rfl rfl (y_move rfl) ?_
        refine l_y rfl rfl (y_move rfl) ?_
        refine CK [.o a] hO rfl (fun k' hx hr hO' => LenC_spec hn (hO := hO')) ?_
        rintro _ _ w ⟨rfl, rfl⟩ hO
        simp only [List.cons_append, List.nil_append] at hO
        refine Z0 (fun h4_9 => ?_) (fun h4_9 => ?_)
        · refine l_y rfl rfl (y_pick_f rfl rfl) ?_
          refine l_y rfl rfl (y_pick_t rfl rfl) ?_
          refine K2 (K3 (L8 (K0 (K1 ?_))))
          refine l_y rfl rfl (y_assign rfl) ?_
          refine K2 (K3 (K6 (L0 (K9 (K9 (L0 (K9 ?_)))))))
          have hlf : allB A ids = false := by
            refine List.all_eq_false.2 ⟨at_ ids i, at_mem (by omega), ?_⟩
            simp only [Int.toNat_natCast] at *
            rw [decide_eq_false h4_1, hasB, decide_eq_false (by omega)]; simp
          exact fin1 rfl rfl ⟨_, ⟨by rw [hlf], rfl⟩, hO.only [.o a]⟩
        · refine l_y rfl rfl (y_pick_f rfl rfl) ?_
          refine l_y rfl rfl (y_pick_t rfl rfl) ?_
          refine K2 (K3 (L9 (K5 (K8 (K3 (K1 ?_))))))
          refine l_y rfl rfl (D4) ?_
          refine l_y rfl rfl (y_move rfl) ?_
          refine K2 ?_
          have h9 : allB A (ids.take (i + 1)) = true := by
            have h9 := hi.2
            rw [take_succ_at (by omega)]
            simp only [allB, List.all_append, List.all_cons, List.all_nil, Bool.and_true, Bool.and_eq_true] at h9 ⊢
            refine ⟨h9, ?_⟩
            simp only [Int.toNat_natCast] at *
            by_cases h5 : at_ ids i = -1
            · rw [decide_eq_true h5]; rfl
            · rw [hasB, decide_eq_true (show 0 ≤ at_ ids i ∧ at_ ids i < A.length by omega), Bool.or_true]
          exact q_next (i + 1) ⟨rfl, rfl, rfl, rfl, rfl, trivial⟩ ⟨hO.only [.o a], ⟨by omega, h9⟩⟩ (by omega)
    · refine l_y rfl rfl (y_move rfl) ?_
      repeat refine M2 ?_
      refine l_y rfl rfl (y_pick_f rfl rfl) ?_
      refine K2 (K3 (L9 (K5 (K8 (K3 (K1 ?_))))))
      refine l_y rfl rfl (D4) ?_
      refine l_y rfl rfl (y_move rfl) ?_
      refine K2 ?_
      have h9 : allB A (ids.take (i + 1)) = true := by
        have h9 := hi.2
        rw [take_succ_at (by omega)]
        simp only [allB, List.all_append, List.all_cons, List.all_nil, Bool.and_true, Bool.and_eq_true] at h9 ⊢
        refine ⟨h9, ?_⟩
        simp only [Int.toNat_natCast] at *
        by_cases h5 : at_ ids i = -1
        · rw [decide_eq_true h5]; rfl
        · rw [hasB, decide_eq_true (show 0 ≤ at_ ids i ∧ at_ ids i < A.length by omega), Bool.or_true]
      exact q_next (i + 1) ⟨rfl, rfl, rfl, rfl, rfl, trivial⟩ ⟨hO.only [.o a], ⟨by omega, h9⟩⟩ (by omega)
  · refine K2 (K3 (K0 (L9 (K7 (L1 (L1 (L2 (K3 (K0 (K1 ?_))))))))))
    refine l_y rfl rfl (y_assign rfl) ?_
    refine K2 (K3 (K6 ?_))
    have hlt : allB A ids = true := by rw [show ids = ids.take i by rw [List.take_of_length_le (by omega)]]; exact hi.2
    exact fin1 rfl rfl ⟨_, ⟨by rw [hlt], rfl⟩, hO.only [.o a]⟩
end
end Go.Proofs.YtpejdlfkaaiehaaGreatDoor
end
section
set_option linter.unusedVariables false
set_option linter.unusedSimpArgs false
set_option maxRecDepth 100000
namespace Go.Proofs.YtpejdlfkaaiehaaGreatDoor
open Go Go.Hb Go.RowKit
section
variable {k : Ctx} {w : World} {a s r z c : Nat} {p : Option Addr} {A : List Node_one} {K : Int → List Int} {l : List Int}
/-- a node that is not linked is put at the end -/
theorem Put_spec {want id : Int} (t : Tree A K) (hn : 0 < A.length) (hw : InA A want) (hid : InA A id) (free : (nodeA A id).Parent = -1) (kup : parentB (nodeA A want).Kind = true) (kid : (nodeA A id).Kind ≠ 0 ∧ (nodeA A id).Kind ≠ 5) (above : ¬ Anc A want id) (hO : Own k w [arenaL a A]) :
    Tri Tryz.prog 145 #[.pointer (some ⟨a, 0, none⟩), .agg (Api_spot.cells ⟨want, -1⟩).toArray, .int .i64 id] k w fun v m => v = .int .i64 0 ∧ m = [arenaL a (linkL A want id (-1)).2] := by
  refine enter (args := [.pointer (some ⟨a, 0, none⟩), .agg (Api_spot.cells ⟨want, -1⟩).toArray, .int .i64 id]) Tryz.func145 rfl rfl ?_
  have ha := t.attrs
  have hw0 := hw.1
  have hi0 := hid.1
  have hgo := link_go (before := -1) hw hid (.inl rfl) kup kid free above
  have hun : unlinkL A id = (5, A) := by
    rw [unlinkL, if_neg (by rw [hid.b]; simp), if_pos free]
  refine K0 (K1 ?_)
  refine s_box (vs := [.int .i64 (Api_spot.mk want (-1)).Parent, .int .i64 (Api_spot.mk want (-1)).Before]) hO rfl rfl rfl (by rfl) fun b4 w hO => ?_
  refine l_y rfl rfl (y_assign rfl) ?_
  refine K2 (K3 (K0 (K4 (K0 (K1 ?_)))))
  refine l_y rfl rfl (y_move rfl) ?_
  refine CK [.o a] hO rfl (fun k' hx hr hO' => LenC_spec hn (hO := hO')) ?_
  rintro _ _ w ⟨rfl, rfl⟩ hO
  simp only [List.cons_append, List.nil_append] at hO
  refine N3 ?_
  refine l_y rfl rfl (y_assign rfl) ?_
  refine K2 (K3 (L9 (K0 (K1 ?_))))
  refine l_y rfl rfl (y_move rfl) ?_
  refine N3 ?_
  refine l_y rfl rfl (y_move rfl) ?_
  refine l_y rfl rfl (y_fldb (o' := 0) rfl) ?_
  refine l_y rfl rfl (D5 hO rfl) ?_
  refine N3 ?_
  refine l_y rfl rfl (y_pick_f rfl rfl) ?_
  refine l_y rfl rfl (y_move rfl) ?_
  refine l_y rfl rfl (y_move rfl) ?_
  refine l_y rfl rfl (y_move rfl) ?_
  refine l_y rfl rfl (y_fldb (o' := 0) rfl) ?_
  refine l_y rfl rfl (D5 hO rfl) ?_
  refine l_y rfl rfl (y_fldb (o' := 1) rfl) ?_
  refine l_y rfl rfl (D5 hO rfl) ?_
  refine s_lit (parts := [(0, .tmp 23), (1, .tmp 25), (2, .tmp 27)]) (enc := (eI .i64)) [id, (Api_spot.mk want (-1)).Parent, (Api_spot.mk want (-1)).Before] [.int .i64 id, .int .i64 (Api_spot.mk want (-1)).Parent, .int .i64 (Api_spot.mk want (-1)).Before] hO rfl (fun b28 w hO => ?_)
  refine CK [.o a] hO rfl (fun k' hx hr hO' => all_spec (ids := [id, want, -1]) hn (sls_roK (p := (some ⟨b28, 0, none⟩)) hr (sls_fct (p := (some ⟨b28, 0, none⟩)) hO)) (by simp) (hO := hO')) ?_
  rintro _ _ w ⟨rfl, rfl⟩ hO
  simp only [List.cons_append, List.nil_append] at hO
  rw [show allB A [id, want, -1] = true by simp [allB, hid.b, hw.b]]
  refine l_y rfl rfl (y_not rfl rfl) ?_
  refine l_y rfl rfl (y_pick_f rfl rfl) ?_
  refine l_y rfl rfl (y_assign rfl) ?_
  refine K2 (K3 (L9 (K5 (K8 (K3 (K0 (K1 ?_)))))))
  refine l_y rfl rfl (y_move rfl) ?_
  refine l_y rfl rfl (y_move rfl) ?_
  refine CK [.o a] hO rfl (fun k' hx hr hO' => UnlinkC_spec hn t.links (hO := hO')) ?_
  rintro _ _ w ⟨rfl, rfl⟩ hO
  simp only [List.cons_append, List.nil_append] at hO
  rw [hun] at hO ⊢
  refine K2 (K3 (K0 (K0 (K1 ?_))))
  refine l_y rfl rfl (y_move rfl) ?_
  refine l_y rfl rfl (y_fldb (o' := 1) rfl) ?_
  refine l_y rfl rfl (D5 hO rfl) ?_
  refine CK [.o a] hO rfl (fun k' hx hr hO' => NodeD_spec hn ha (hO := hO')) ?_
  rintro _ _ w ⟨x6_3, hx6_3, rfl, rfl⟩ hO
  simp only [List.cons_append, List.nil_append] at hO
  refine l_y rfl rfl (y_move rfl) ?_
  refine l_y rfl rfl (y_extract rfl rfl) ?_
  refine l_y rfl rfl (y_extract rfl rfl) ?_
  refine s_alloc (vs := [.int .i64 0, .int .i64 0, .string ⟨#[]⟩, .slice none 0 0, .string ⟨#[]⟩, .string ⟨#[]⟩, .int .i64 0, .int .i64 0, .int .i64 0, .int .i64 0, .int .i64 0, .int .i64 0]) hO rfl rfl rfl fun b7 w hO => ?_
  refine Y3 hO rfl rfl (fun w hO => ?_)
  refine l_y rfl rfl (y_assign rfl) ?_
  refine K2 (K3 (K0 (K1 ?_)))
  refine l_y rfl rfl (y_fldb (o' := 1) rfl) ?_
  refine l_y rfl rfl (D5 hO rfl) ?_
  refine N4 ?_
  refine l_y rfl rfl (y_move rfl) ?_
  repeat refine M2 ?_
  refine l_y rfl rfl (y_pick_f rfl rfl) ?_
  refine K2 (K3 (L9 (K5 (K3 (K0 (K0 (K1 ?_)))))))
  refine l_y rfl rfl (y_move rfl) ?_
  refine l_y rfl rfl (y_fldb (o' := 0) rfl) ?_
  refine l_y rfl rfl (D5 hO rfl) ?_
  refine l_y rfl rfl (y_move rfl) ?_
  refine l_y rfl rfl (y_fldb (o' := 1) rfl) ?_
  refine l_y rfl rfl (D5 hO rfl) ?_
  refine CK [.o a] hO rfl (fun k' hx hr hO' => LinkC_spec hn t.rank t.links (hO := hO')) ?_
  rintro _ _ w ⟨rfl, rfl⟩ hO
  simp only [List.cons_append, List.nil_append] at hO
  rw [hgo]
  refine N4 ?_
  refine K2 (K3 (L9 (K5 (K3 (K0 (K1 ?_))))))
  refine l_y rfl rfl (y_assign rfl) ?_
  refine K2 (K3 (K6 ?_))
  exact fin1 rfl rfl ⟨_, ⟨rfl, rfl⟩, hO.only [.o a]⟩
theorem anc_new {o : Node_one} (t : Tree A K) : ∀ {x y : Int}, Anc (A ++ [o]) x y → InA A x → y ≠ A.length := by
  intro x y h
  induction h with
  | refl x => intro hx; have := hx.2; omega
  | @step x y h1 hs ih =>
    intro hx
    obtain ⟨rk, hrk⟩ := t.rank
    have e : nextUp (A ++ [o]) x = nextUp A x := by unfold nextUp; rw [at_old hx]
    rcases hrk x hx.b with h2 | ⟨h2, _⟩
    · rw [e, h2] at hs
      have := anc_none hs
      omega
    · exact ih (by rw [e]; exact inA_iff.1 h2)
theorem NV.last {A : List Node_one} {x : Int} {n : Api_node} (h : NV A x n) (hb : hasB A x = true) : n.Last = (nodeA A x).Last := by
  rcases h with ⟨h, _⟩ | ⟨_, q, d, rfl⟩
  · rw [hb] at h; cases h
  · rfl
end
end Go.Proofs.YtpejdlfkaaiehaaGreatDoor
end
section
set_option linter.unusedVariables false
set_option linter.unusedSimpArgs false
set_option maxRecDepth 100000
namespace Go.Proofs.YtpejdlfkaaiehaaGreatDoor
open Go Go.Hb Go.RowKit
theorem flat_i32 (xs : List Int) : (xs.map (eI .i32)).flatten = xs.map (Value.int .i32) := by
  induction xs with
  | nil => rfl
  | cons y ys ih => rw [List.map_cons, List.flatten_cons, ih]; rfl
section
variable {P : Program} {ops : Array Oper} {Q : Exit → Act → World → Prop} {n : Nat} {ds : List Deferred} {E : Env} {w : World} {k : Ctx} {l : List HP}
variable {rest : List Oper} {d : Option Tmp} {ty : TypeId} {pos : String} {aft : Array Edge} {g : Option (Nat × Bool)}
theorem y_runesStr {s t T : TypeId} {xs : List Int} {p : Option Addr} {m c : Nat} [hs : Und P s (.slice T)] [hb : Und P T (.int .i32)] [ht : Und P t .string] {x : Operand} (hv : Sli (Holds w) (.slice p m c) (xs.map (eI .i32))) (hx : ev E x = some (.slice p m c)) :
    Yld P n ds E w ⟨d, .convert s t x, ty, pos, aft, g⟩ (.string (runesBytes xs)) := by
  refine y_convert hx ?_
  obtain ⟨h1, h2⟩ := hv.fits
  rw [List.length_map] at h1
  subst h1
  cases p with
  | none =>
    have : xs = [] := by
      cases xs with
      | nil => rfl
      | cons y ys =>
        obtain ⟨p', c', he, _, h3⟩ := hv
        obtain ⟨b, o, hp, _⟩ := h3 (by simp)
        rw [hp] at he; cases he
    subst this
    exact run_convert_runes_nil w s t T _ _ hs.eq hb.eq ht.eq
  | some a =>
    have := run_convert_runes (P := P) w s t T a xs.length c xs (Nat.le_refl _) hs.eq hb.eq ht.eq (fun j hj => by
      obtain ⟨p', c', he, _, h3⟩ := hv
      obtain ⟨b, o, hp, hH⟩ := h3 (by intro e; rw [List.map_eq_nil_iff] at e; subst e; simp at hj)
      rw [hp] at he
      injection he with he _ _
      injection he with he
      subst he
      refine hH j _ ?_
      rw [flat_i32]
      simp [List.getD, List.getElem?_eq_getElem hj])
    rwa [List.take_length] at this
/-- a text's bytes, as a row of their own that is not written -/
def bys (b : Nat) (s : ByteArray) : HP := fun h => ∃ c T fz, h b = some (.cells c T fz) ∧ ∀ (j : Nat) (hj : j < s.data.toList.length), c[j]? = some (.int .u8 ((s.data.toList[j]).toNat : Int))
instance (priority := high) AtK.hbys (b : Nat) (s : ByteArray) (l : List HP) : AtK (bys b s :: l) (.o b) (bys b s) l := ⟨.hd _ l⟩
theorem s_bytesOf {s t T : TypeId} {str : ByteArray} [hs : Und P s .string] [ht : Und P t (.slice T)] [hb : Und P T (.int .u8)] {x : Operand} (hO : Own k w l) (hx : ev E x = some (.string str))
    (h : ∀ b c w', Own k w' (bys b str :: l) → LW P ops Q n ds rest (E.put d (.slice (some ⟨b, 0, none⟩) str.size c)) w') (hg : gd ops E g = some true := by rfl) (hd : dok n d = true := by rfl) : LW P ops Q n ds (⟨d, .convert s t x, ty, pos, aft, g⟩ :: rest) E w := by
  have hr := run_bytes_of_string (P := P) w s t T str hs.eq ht.eq hb.eq
  refine l_val (o := ⟨d, .convert s t x, ty, pos, aft, g⟩) (v := .slice (some ⟨w.heap.size, 0, none⟩) str.size (grownCap w str.size 0 T)) (w' := w.drew.alloc (.cells (bytesRow str (grownCap w str.size 0 T)) T ((bytesRow str (grownCap w str.size 0 T)).size, (bytesRow str (grownCap w str.size 0 T)).size + 1))) hg hd (fun a ha => by simp [execOp, ha.eval hx, hr]) (h _ _ _ ?_)
  refine hO.drew.alloc _ ⟨_, _, _, one_self _ _, fun j hj => ?_⟩
  unfold bytesRow
  rw [Array.getElem?_append_left (by simpa using hj)]
  simp only [Array.getElem?_map]
  have : str.data[j]? = some (str.data.toList[j]) := by
    rw [← Array.getElem?_toList, List.getElem?_eq_getElem hj]
  rw [this]; rfl
theorem y_bysStr {s t T : TypeId} {str : ByteArray} {b c : Nat} {rl : List HP} [hs : Und P s (.slice T)] [hb : Und P T (.int .u8)] [ht : Und P t .string] {x : Operand} (hO : Own k w l) [hm : AtK l (.o b) (bys b str) rl] (hx : ev E x = some (.slice (some ⟨b, 0, none⟩) str.size c)) :
    Yld P n ds E w ⟨d, .convert s t x, ty, pos, aft, g⟩ (.string str) := by
  refine y_convert hx ?_
  have hO := hO.pull hm.pull
  have := run_convert_bytes_back (P := P) w s t T ⟨b, 0, none⟩ c str.data.toList hs.eq hb.eq ht.eq (fun j hj => by
    refine hO.heap fun hp hA hw => ?_
    obtain ⟨cs, T', fz, h1, h2⟩ := hA
    have h3 := (hw _ _ h1).2
    rw [add_at rfl]
    simp only [World.cell?, h3, Option.isSome_none, Bool.false_eq_true, if_false, Nat.zero_add]
    exact h2 j hj)
  simpa using this
end
section
variable {k : Ctx} {w : World} {a : Nat} {A : List Node_one} {K : Int → List Int}
theorem UTF8_spec {xs : List Int} {p : Option Addr} {m c : Nat} (hs : Sli (Ro k) (.slice p m c) (xs.map (eI .i32))) (hO : Own k w []) :
    Tri Tryz.prog 180 #[.slice p m c] k w fun v mm => ∃ b d, v = .slice (some ⟨b, 0, none⟩) (runesBytes xs).size d ∧ mm = [bys b (runesBytes xs)] := by
  refine enter (args := [.slice p m c]) Tryz.func180 rfl rfl ?_
  refine K0 (K1 ?_)
  refine l_y rfl rfl (y_assign rfl) ?_
  refine K2 (K3 (K0 (K1 ?_)))
  refine l_y rfl rfl (y_move rfl) ?_
  refine l_y rfl rfl (y_runesStr (hs.holds hO) rfl) ?_
  refine s_bytesOf hO rfl (fun b d w hO => ?_)
  refine l_y rfl rfl (y_assign rfl) ?_
  refine K2 (K3 (K6 ?_))
  exact fin1 rfl rfl ⟨_, ⟨b, d, rfl, rfl⟩, hO⟩
end
end Go.Proofs.YtpejdlfkaaiehaaGreatDoor
end
section
set_option linter.unusedVariables false
set_option linter.unusedSimpArgs false
set_option maxRecDepth 100000
namespace Go.Proofs
open Go.Shelf
def Tryz.lays221_ren : Go.Shelf.Ren := ⟨fun | 221 => 223 | 268 => 238 | 138 => 239 | 143 => 240 | 195 => 252 | 197 => 214 | 218 => 253 | 219 => 241 | 260 => 233 | 217 => 254 | 225 => 255 | 224 => 256 | 267 => 257 | 266 => 264 | 314 => 265 | n => n, fun | 9 => 9 | 3 => 3 | 31 => 28 | 4 => 4 | 0 => 0 | 105 => 195 | 21 => 21 | 5 => 5 | 46 => 221 | 119 => 237 | 139 => 240 | 138 => 239 | 146 => 252 | 51 => 234 | n => n, fun | 1 => 5 | 3 => 3 | 4 => 4 | n => n⟩
theorem Tryz.lays221 : Go.Proofs.Lays.n221 Tryz.prog Tryz.lays221_ren := {
  mixed := by kernel_rfl
  f138 := Tryz.func239.trans (congrArg some (by kernel_rfl))
  f143 := Tryz.func240.trans (congrArg some (by kernel_rfl))
  f195 := Tryz.func252.trans (congrArg some (by kernel_rfl))
  f197 := Tryz.func214.trans (congrArg some (by kernel_rfl))
  f217 := Tryz.func254.trans (congrArg some (by kernel_rfl))
  f218 := Tryz.func253.trans (congrArg some (by kernel_rfl))
  f219 := Tryz.func241.trans (congrArg some (by kernel_rfl))
  f221 := Tryz.func223.trans (congrArg some (by kernel_rfl))
  f224 := Tryz.func256.trans (congrArg some (by kernel_rfl))
  f225 := Tryz.func255.trans (congrArg some (by kernel_rfl))
  f260 := Tryz.func233.trans (congrArg some (by kernel_rfl))
  f266 := Tryz.func264.trans (congrArg some (by kernel_rfl))
  f267 := Tryz.func257.trans (congrArg some (by kernel_rfl))
  f268 := Tryz.func238.trans (congrArg some (by kernel_rfl))
  f314 := Tryz.func265.trans (congrArg some (by kernel_rfl))
  t0 := Tryz.underlying0
  a0 := Tryz.isAgg0
  z0 := Tryz.sizeOf0
  v0 := Tryz.zeroValue0
  t3 := Tryz.underlying3
  a3 := Tryz.isAgg3
  z3 := Tryz.sizeOf3
  v3 := Tryz.zeroValue3
  t4 := Tryz.underlying4
  a4 := Tryz.isAgg4
  z4 := Tryz.sizeOf4
  v4 := Tryz.zeroValue4
  t5 := Tryz.underlying5
  a5 := Tryz.isAgg5
  z5 := Tryz.sizeOf5
  v5 := Tryz.zeroValue5
  t9 := Tryz.underlying9
  a9 := Tryz.isAgg9
  z9 := Tryz.sizeOf9
  v9 := Tryz.zeroValue9
  t21 := Tryz.underlying21
  a21 := Tryz.isAgg21
  z21 := Tryz.sizeOf21
  v21 := Tryz.zeroValue21
  t31 := Tryz.underlying28
  a31 := Tryz.isAgg28
  z31 := Tryz.sizeOf28
  v31 := Tryz.zeroValue28
  t46 := Tryz.underlying221
  a46 := Tryz.isAgg221
  z46 := Tryz.sizeOf221
  v46 := Tryz.zeroValue221
  t51 := Tryz.underlying234
  a51 := Tryz.isAgg234
  z51 := Tryz.sizeOf234
  v51 := Tryz.zeroValue234
  t105 := Tryz.underlying195
  a105 := Tryz.isAgg195
  z105 := Tryz.sizeOf195
  v105 := Tryz.zeroValue195
  t119 := Tryz.underlying237
  a119 := Tryz.isAgg237
  z119 := Tryz.sizeOf237
  t138 := Tryz.underlying239
  a138 := Tryz.isAgg239
  z138 := Tryz.sizeOf239
  v138 := Tryz.zeroValue239
  t139 := Tryz.underlying240
  a139 := Tryz.isAgg240
  z139 := Tryz.sizeOf240
  v139 := Tryz.zeroValue240
  t146 := Tryz.underlying252
  a146 := Tryz.isAgg252
  z146 := Tryz.sizeOf252
  v146 := Tryz.zeroValue252
  g1 := by kernel_rfl
  g3 := by kernel_rfl
  g4 := by kernel_rfl }
end Go.Proofs
namespace Go.Proofs.YtpejdlfkaaiehaaGreatDoor
open Go Go.Hb Go.RowKit
def blankS : ByteArray := ⟨#[32]⟩
def wordsB (s : ByteArray) : List ByteArray := Lib.splitB blankS 0 (Lib.countB s blankS) s
def oneB (s names : ByteArray) : Bool := (wordsB names).any fun x => decide (x = s)
section
variable {k : Ctx} {w : World}
theorem genSplit_calls (s : ByteArray) (w : World) (hs : s.size < 4294967281) :
    Calls Tryz.prog 223 #[.string s, .string blankS, .int .i64 0, .int .i64 (-1)] w fun e w' => e = .returned (.slice (some ⟨w.heap.size, 0, none⟩) (wordsB s).length (wordsB s).length) ∧ w' = w.alloc (.cells ((wordsB s).map Value.string).toArray 9) := by
  have hlen : (wordsB s).length = Lib.countB s blankS + 1 := Lib.splitB_all blankS (by decide) 0 _ s rfl
  have hle := Lib.countB_le blankS (by decide) s.size s (Nat.le_refl _)
  have c := Any.strings_genSplit_core Tryz.lays221 (by kernel_rfl) s blankS 0 (-1) (Lib.countB s blankS + 1) w hs (by decide) (Nat.zero_le _)
    (fun x c hx => (Any.strings_Index_one { Tryz.lays221 with } x 32 _).mono fun e w' ⟨h1, h2⟩ => ⟨by rw [h1]; show _ = Ending.returned (Value.int .i64 (Lib.index x.data.toList [32])); rw [Lib.index_one], h2⟩)
    ((Any.strings_Count_one { Tryz.lays221 with } s 32 w).mono fun e w' ⟨h1, h2⟩ => ⟨by rw [h1]; show _ = Ending.returned (Value.int .i64 ((Lib.count s.data.toList [32] : Nat) : Int)); rw [Lib.count_one]; rfl, h2⟩)
    (by decide) (by decide) (by rw [if_pos (by decide)]; omega)
  refine c.mono fun e w' ⟨h1, h2⟩ => ?_
  rw [Nat.add_sub_cancel] at h1 h2
  have e2 : Lib.cellsOf (Lib.splitB blankS 0 (Lib.countB s blankS) s) (Lib.countB s blankS + 1) = ((wordsB s).map Value.string).toArray := by rw [← hlen]; exact Lib.cellsOf_full _
  rw [e2] at h2
  refine ⟨?_, h2⟩
  rw [h1, ← hlen]; rfl
theorem genSplit_spec {s : ByteArray} (hs : s.size < 4294967281) (hO : Own k w []) :
    Tri Tryz.prog 223 #[.string s, .string blankS, .int .i64 0, .int .i64 (-1)] k w fun v m => ∃ b, v = .slice (some ⟨b, 0, none⟩) (wordsB s).length (wordsB s).length ∧ m = [sls (some ⟨b, 0, none⟩) (wordsB s).length 9 1 eS (wordsB s)] :=
  (genSplit_calls s w hs).mono fun e w' ⟨h1, h2⟩ => ⟨_, h1, _, ⟨_, rfl, rfl⟩, by
    subst h2
    have hlen : (wordsB s).length = Lib.countB s blankS + 1 := Lib.splitB_all blankS (by decide) 0 _ s rfl
    have hle := Lib.countB_le blankS (by decide) s.size s (Nat.le_refl _)
    have hf : ((wordsB s).map eS).flatten = (wordsB s).map Value.string := by
      induction wordsB s with
      | nil => rfl
      | cons x l ih => rw [List.map_cons, List.flatten_cons, ih]; rfl
    refine hO.alloc _ (.inr ⟨w.heap.size, 0, _, by rw [List.length_map], [], [], rfl, OneC.rows _, by simp, by simp, by simp only [maxLen]; omega, ?_⟩)
    show one w.heap.size _ w.heap.size = _
    rw [one_self, hf]
    simp⟩
theorem Split_spec {s : ByteArray} (hs : s.size < 4294967281) (hO : Own k w []) :
    Tri Tryz.prog 183 #[.string s, .string blankS] k w fun v m => ∃ b, v = .slice (some ⟨b, 0, none⟩) (wordsB s).length (wordsB s).length ∧ m = [sls (some ⟨b, 0, none⟩) (wordsB s).length 9 1 eS (wordsB s)] := by
  refine enter (args := [.string s, .string blankS]) Tryz.func183 rfl rfl ?_
  refine K0 (K1 ?_)
  refine l_y rfl rfl (y_assign rfl) ?_
  refine K2 (K3 (K0 (K1 ?_)))
  refine l_y rfl rfl (y_move rfl) ?_
  refine l_y rfl rfl (y_move rfl) ?_
  refine CK [] hO rfl (fun k' hx hr hO' => genSplit_spec hs hO') ?_
  rintro _ _ w ⟨b, rfl, rfl⟩ hO
  simp only [List.cons_append, List.nil_append] at hO
  refine l_y rfl rfl (y_assign rfl) ?_
  refine K2 (K3 (K6 ?_))
  exact fin1 rfl rfl ⟨_, ⟨_, rfl, rfl⟩, hO⟩
theorem words_spec {s : ByteArray} (hs : s.size < 4294967281) (hO : Own k w []) :
    Tri Tryz.prog 141 #[.string s] k w fun v m => ∃ b, v = .slice (some ⟨b, 0, none⟩) (wordsB s).length (wordsB s).length ∧ m = [sls (some ⟨b, 0, none⟩) (wordsB s).length 9 1 eS (wordsB s)] := by
  refine enter (args := [.string s]) Tryz.func141 rfl rfl ?_
  refine K0 (K1 ?_)
  refine l_y rfl rfl (y_assign rfl) ?_
  refine K2 (K3 (K0 (K1 ?_)))
  refine l_y rfl rfl (y_move rfl) ?_
  refine CK [] hO rfl (fun k' hx hr hO' => Split_spec hs hO') ?_
  rintro _ _ w ⟨b, rfl, rfl⟩ hO
  simp only [List.cons_append, List.nil_append] at hO
  refine l_y rfl rfl (y_assign rfl) ?_
  refine K2 (K3 (K6 ?_))
  exact fin1 rfl rfl ⟨_, ⟨_, rfl, rfl⟩, hO⟩
theorem one_spec {x s : ByteArray} {b : Bool} (hs : s.size < 1000000) (hb : oneB x s = b) (hO : Own k w []) :
    Tri Tryz.prog 80 #[.string x, .string s] k w fun v m => v = .bool b ∧ m = [] := by
  refine enter (args := [.string x, .string s]) Tryz.func80 rfl rfl ?_
  have hlen : (wordsB s).length = Lib.countB s blankS + 1 := Lib.splitB_all blankS (by decide) 0 _ s rfl
  have hle := Lib.countB_le blankS (by decide) s.size s (Nat.le_refl _)
  refine K0 (K1 ?_)
  refine l_y rfl rfl (y_assign rfl) ?_
  refine K2 (K3 (K0 (K0 (K1 ?_))))
  refine l_y rfl rfl (y_move rfl) ?_
  refine CK [] hO rfl (fun k' hx hr hO' => words_spec (by omega) hO') ?_
  rintro _ _ w ⟨q, rfl, rfl⟩ hO
  simp only [List.cons_append, List.nil_append] at hO
  have hgs : Gs (some ⟨q, 0, none⟩) (wordsB s).length := .some _ _ _
  refine l_y rfl rfl (y_lenL rfl) ?_
  refine l_y rfl rfl (y_move rfl) ?_
  refine K2 (K3 (K4 ?_))
  refine c_rounds (X := Nat) (fun i => [(0, .string x), (4, .bool false), (8, .slice (some ⟨q, 0, none⟩) (wordsB s).length (wordsB s).length), (9, .int .i64 (((wordsB s).length : Nat) : Int)), (10, .int .i64 (i : Int))]) (fun i w => Own k w [sls (some ⟨q, 0, none⟩) (wordsB s).length 9 1 eS (wordsB s)] ∧ (i ≤ (wordsB s).length) ∧ (∀ j, j < i → at_ (wordsB s) j ≠ x)) (fun i => (wordsB s).length - i) (0) ⟨rfl, rfl, rfl, rfl, rfl, trivial⟩ ⟨hO.only [.p (some ⟨q, 0, none⟩)], Nat.zero_le _, fun j hj => absurd hj (Nat.not_lt_zero j)⟩ ?_
  rintro i w m hm ⟨hO, hi, hT⟩
  refine K0 (K1 ?_)
  refine Z0 (fun h2_0 => ?_) (fun h2_0 => ?_)
  · refine K2 (K3 (K0 (L8 (K5 (K3 (K0 (K4 (K0 (K1 ?_)))))))))
    refine l_y rfl rfl (y_idx rfl rfl) ?_
    refine l_y rfl rfl (y_e1 (x0 := 0) hO rfl) ?_
    refine l_y rfl rfl (y_assign rfl) ?_
    refine K2 (K3 (K0 (K1 ?_)))
    refine l_y rfl rfl (y_move rfl) ?_
    refine l_y rfl rfl (y_move rfl) ?_
    refine Z2 (fun h4_2 => ?_) (fun h4_2 => ?_)
    · refine K2 (K3 (L8 (K0 (K1 ?_))))
      refine l_y rfl rfl (y_assign rfl) ?_
      refine K2 (K3 (K6 (L0 (K9 (K9 (L0 (K9 ?_)))))))
      have ht : oneB x s = true := List.any_eq_true.2 ⟨_, at_mem (xs := wordsB s) (i := i) (by omega), decide_eq_true h4_2⟩
      exact fin1 rfl rfl ⟨_, ⟨by rw [← hb, ht], rfl⟩, hO.only []⟩
    · refine K2 (K3 (L9 (K5 (K8 (K3 (K1 ?_))))))
      refine l_y rfl rfl (D4) ?_
      refine l_y rfl rfl (y_move rfl) ?_
      refine K2 ?_
      exact q_next (i + 1) ⟨rfl, rfl, rfl, rfl, rfl, trivial⟩ ⟨hO.only [.p (some ⟨q, 0, none⟩)], by omega, (fun j hj => by by_cases e : j < i; (exact hT j e); (have e2 : j = i := by omega); subst e2; exact h4_2)⟩ (by omega)
  · refine K2 (K3 (K0 (L9 (K7 (L1 (L1 (L2 (K3 (K0 (K1 ?_))))))))))
    refine l_y rfl rfl (y_assign rfl) ?_
    refine K2 (K3 (K6 ?_))
    have hf : oneB x s = false := List.any_eq_false.2 fun y hy => by
      obtain ⟨j, hj, rfl⟩ := mem_at hy
      simpa using hT j (by omega)
    exact fin1 rfl rfl ⟨_, ⟨by rw [← hb, hf], rfl⟩, hO.only []⟩
end
end Go.Proofs.YtpejdlfkaaiehaaGreatDoor
end
section
set_option linter.unusedVariables false
set_option linter.unusedSimpArgs false
set_option maxRecDepth 100000
namespace Go.Proofs.YtpejdlfkaaiehaaGreatDoor
open Go Go.Hb Go.RowKit
/-- a token of a kind, with a name or a code point -/
def tk (kd : Int) (nm : ByteArray) (ch : Int) : Api_token := ⟨kd, nm, ⟨#[]⟩, ⟨#[]⟩, 0, false, ch, false, none, [], 0⟩
def whiteB (c : Int) : Bool := decide (c = 32) || decide (c = 9) || decide (c = 10) || decide (c = 12) || decide (c = 13)
theorem y_max3 {P : Program} {n : Nat} {ds : List Deferred} {E : Env} {w : World} {d : Option Tmp} {ty : TypeId} {pos : String} {aft : Array Edge} {g : Option (Nat × Bool)} {t u v : TypeId} {x y z : Operand} {kd : IntKind} {a b c : Int} (hx : ev E x = some (.int kd a)) (hy : ev E y = some (.int kd b)) (hz : ev E z = some (.int kd c)) : Yld P n ds E w ⟨d, .call ⟨.builtin .max, #[x, y, z], #[t, u, v]⟩, ty, pos, aft, g⟩ (.int kd (max (max a b) c)) :=
  y_built (xs := [x, y, z]) (vs := [.int kd a, .int kd b, .int kd c]) (by simp [evl, hx, hy, hz]) (fun cs => by
    have e : ∀ p q : Int, (if p < q then q else p) = max p q := fun p q => by omega
    have e2 : ∀ p q : Int, (if p ≤ q then q else p) = max p q := fun p q => by omega
    have e3 : ∀ p q : Int, (if q < p then p else q) = max p q := fun p q => by omega
    simp [builtin, Builtin.max_, Builtin.max2, e, e2, e3])
section
variable {k : Ctx} {w : World} {kd ch : Int} {nm : ByteArray} {b : Bool}
theorem t_is_spec {n : Int} (hb : decide (kd = n) = b) (hO : Own k w []) : Tri Tryz.prog 25 #[.agg (Api_token.cells (tk kd nm ch)).toArray, .int .i64 n] k w fun v m => v = .bool b ∧ m = [] := by
  refine enter (args := [.agg (Api_token.cells (tk kd nm ch)).toArray, .int .i64 n]) Tryz.func25 rfl rfl ?_
  subst hb
  refine K0 (K1 ?_)
  refine s_box (vs := [.int .i64 (tk kd nm ch).Kind, .string (tk kd nm ch).Name, .string (tk kd nm ch).Data, .string (tk kd nm ch).System, .int .i64 (tk kd nm ch).Has, .bool (tk kd nm ch).Quirks, .int .i32 (tk kd nm ch).Char, .bool (tk kd nm ch).Self, .slice (tk kd nm ch).AttrsP (tk kd nm ch).Attrs.length (tk kd nm ch).AttrsC]) hO rfl rfl rfl (by rfl) fun b2 w hO => ?_
  refine l_y rfl rfl (y_assign rfl) ?_
  refine K2 (K3 (K0 (K1 ?_)))
  refine l_y rfl rfl (y_fldb (o' := 0) rfl) ?_
  refine l_y rfl rfl (y_fldb (o' := 0) rfl) ?_
  refine l_y rfl rfl (D5 hO rfl) ?_
  refine l_y rfl rfl (y_move rfl) ?_
  refine l_y rfl rfl (y_cmpI rfl rfl rfl) ?_
  refine l_y rfl rfl (y_assign rfl) ?_
  refine K2 (K3 (K6 ?_))
  exact fin1 rfl rfl ⟨_, ⟨rfl, rfl⟩, hO.only []⟩
theorem t_white_spec (hb : whiteB ch = b) (hO : Own k w []) : Tri Tryz.prog 67 #[.int .i32 ch] k w fun v m => v = .bool b ∧ m = [] := by
  refine enter (args := [.int .i32 ch]) Tryz.func67 rfl rfl ?_
  subst hb
  refine K0 (K1 ?_)
  refine l_y rfl rfl (y_assign rfl) ?_
  refine K2 (K3 (K0 (K1 ?_)))
  refine l_y rfl rfl (y_move rfl) ?_
  refine Z0 (fun h1_1 => ?_) (fun h1_1 => ?_)
  · refine l_y rfl rfl (y_move rfl) ?_
    repeat refine M2 ?_
    refine l_y rfl rfl (y_pick_t rfl rfl) ?_
    refine l_y rfl rfl (y_move rfl) ?_
    repeat refine M2 ?_
    refine l_y rfl rfl (y_pick_t rfl rfl) ?_
    refine l_y rfl rfl (y_move rfl) ?_
    repeat refine M2 ?_
    refine l_y rfl rfl (y_pick_t rfl rfl) ?_
    refine l_y rfl rfl (y_move rfl) ?_
    repeat refine M2 ?_
    refine l_y rfl rfl (y_pick_t rfl rfl) ?_
    refine l_y rfl rfl (y_assign rfl) ?_
    refine K2 (K3 (K6 ?_))
    exact fin1 rfl rfl ⟨_, ⟨by simp [whiteB, *], rfl⟩, hO⟩
  · refine l_y rfl rfl (y_move rfl) ?_
    refine l_y rfl rfl (y_move rfl) ?_
    refine Z0 (fun h1_4 => ?_) (fun h1_4 => ?_)
    · refine l_y rfl rfl (y_pick_f rfl rfl) ?_
      refine l_y rfl rfl (y_move rfl) ?_
      repeat refine M2 ?_
      refine l_y rfl rfl (y_pick_t rfl rfl) ?_
      refine l_y rfl rfl (y_move rfl) ?_
      repeat refine M2 ?_
      refine l_y rfl rfl (y_pick_t rfl rfl) ?_
      refine l_y rfl rfl (y_move rfl) ?_
      repeat refine M2 ?_
      refine l_y rfl rfl (y_pick_t rfl rfl) ?_
      refine l_y rfl rfl (y_assign rfl) ?_
      refine K2 (K3 (K6 ?_))
      exact fin1 rfl rfl ⟨_, ⟨by simp [whiteB, *], rfl⟩, hO⟩
    · refine l_y rfl rfl (y_pick_f rfl rfl) ?_
      refine l_y rfl rfl (y_move rfl) ?_
      refine l_y rfl rfl (y_move rfl) ?_
      refine Z0 (fun h1_8 => ?_) (fun h1_8 => ?_)
      · refine l_y rfl rfl (y_pick_f rfl rfl) ?_
        refine l_y rfl rfl (y_move rfl) ?_
        repeat refine M2 ?_
        refine l_y rfl rfl (y_pick_t rfl rfl) ?_
        refine l_y rfl rfl (y_move rfl) ?_
        repeat refine M2 ?_
        refine l_y rfl rfl (y_pick_t rfl rfl) ?_
        refine l_y rfl rfl (y_assign rfl) ?_
        refine K2 (K3 (K6 ?_))
        exact fin1 rfl rfl ⟨_, ⟨by simp [whiteB, *], rfl⟩, hO⟩
      · refine l_y rfl rfl (y_pick_f rfl rfl) ?_
        refine l_y rfl rfl (y_move rfl) ?_
        refine l_y rfl rfl (y_move rfl) ?_
        refine Z0 (fun h1_12 => ?_) (fun h1_12 => ?_)
        · refine l_y rfl rfl (y_pick_f rfl rfl) ?_
          refine l_y rfl rfl (y_move rfl) ?_
          repeat refine M2 ?_
          refine l_y rfl rfl (y_pick_t rfl rfl) ?_
          refine l_y rfl rfl (y_assign rfl) ?_
          refine K2 (K3 (K6 ?_))
          exact fin1 rfl rfl ⟨_, ⟨by simp [whiteB, *], rfl⟩, hO⟩
        · refine l_y rfl rfl (y_pick_f rfl rfl) ?_
          refine l_y rfl rfl (y_move rfl) ?_
          refine l_y rfl rfl (y_move rfl) ?_
          refine Z0 (fun h1_16 => ?_) (fun h1_16 => ?_)
          · refine l_y rfl rfl (y_pick_f rfl rfl) ?_
            refine l_y rfl rfl (y_assign rfl) ?_
            refine K2 (K3 (K6 ?_))
            exact fin1 rfl rfl ⟨_, ⟨by simp [whiteB, *], rfl⟩, hO⟩
          · refine l_y rfl rfl (y_pick_f rfl rfl) ?_
            refine l_y rfl rfl (y_assign rfl) ?_
            refine K2 (K3 (K6 ?_))
            exact fin1 rfl rfl ⟨_, ⟨by simp [whiteB, *], rfl⟩, hO⟩
theorem t_blank_spec (hb : (decide (kd = 4) && whiteB ch) = b) (hO : Own k w []) : Tri Tryz.prog 85 #[.agg (Api_token.cells (tk kd nm ch)).toArray] k w fun v m => v = .bool b ∧ m = [] := by
  refine enter (args := [.agg (Api_token.cells (tk kd nm ch)).toArray]) Tryz.func85 rfl rfl ?_
  refine K0 (K1 ?_)
  refine s_box (vs := [.int .i64 (tk kd nm ch).Kind, .string (tk kd nm ch).Name, .string (tk kd nm ch).Data, .string (tk kd nm ch).System, .int .i64 (tk kd nm ch).Has, .bool (tk kd nm ch).Quirks, .int .i32 (tk kd nm ch).Char, .bool (tk kd nm ch).Self, .slice (tk kd nm ch).AttrsP (tk kd nm ch).Attrs.length (tk kd nm ch).AttrsC]) hO rfl rfl rfl (by rfl) fun b1 w hO => ?_
  refine l_y rfl rfl (y_assign rfl) ?_
  refine K2 (K3 (K0 (K1 ?_)))
  refine l_y rfl rfl (y_fldb (o' := 0) rfl) ?_
  refine l_y rfl rfl (y_fldb (o' := 0) rfl) ?_
  refine l_y rfl rfl (D5 hO rfl) ?_
  have e3 : (tk kd nm ch).Kind = kd := rfl
  refine Z0 (fun h1_3 => ?_) (fun h1_3 => ?_)
  · refine l_y rfl rfl (y_move rfl) ?_
    refine l_y rfl rfl (y_fldb (o' := 0) rfl) ?_
    refine l_y rfl rfl (y_fldb (o' := 6) rfl) ?_
    refine l_y rfl rfl (D5 hO rfl) ?_
    refine CK [] hO rfl (fun k' hx hr hO' => t_white_spec rfl (hO := hO')) ?_
    rintro _ _ w ⟨rfl, rfl⟩ hO
    simp only [List.cons_append, List.nil_append] at hO
    refine l_y rfl rfl (y_pick_t rfl rfl) ?_
    refine l_y rfl rfl (y_assign rfl) ?_
    refine K2 (K3 (K6 ?_))
    have e3 : (tk kd nm ch).Kind = kd := rfl
    have e4 : (tk kd nm ch).Char = ch := rfl
    exact fin1 rfl rfl ⟨_, ⟨by rw [← hb]; simp_all, rfl⟩, hO.only []⟩
  · refine l_y rfl rfl (y_move rfl) ?_
    repeat refine M2 ?_
    refine l_y rfl rfl (y_pick_f rfl rfl) ?_
    refine l_y rfl rfl (y_assign rfl) ?_
    refine K2 (K3 (K6 ?_))
    have e3 : (tk kd nm ch).Kind = kd := rfl
    have e4 : (tk kd nm ch).Char = ch := rfl
    exact fin1 rfl rfl ⟨_, ⟨by rw [← hb]; simp_all, rfl⟩, hO.only []⟩
theorem t_start_spec {s : ByteArray} (hs : s.size < 1000000) (hb : (decide (kd = 1) && oneB nm s) = b) (hO : Own k w []) : Tri Tryz.prog 81 #[.agg (Api_token.cells (tk kd nm ch)).toArray, .string s] k w fun v m => v = .bool b ∧ m = [] := by
  refine enter (args := [.agg (Api_token.cells (tk kd nm ch)).toArray, .string s]) Tryz.func81 rfl rfl ?_
  refine K0 (K1 ?_)
  refine s_box (vs := [.int .i64 (tk kd nm ch).Kind, .string (tk kd nm ch).Name, .string (tk kd nm ch).Data, .string (tk kd nm ch).System, .int .i64 (tk kd nm ch).Has, .bool (tk kd nm ch).Quirks, .int .i32 (tk kd nm ch).Char, .bool (tk kd nm ch).Self, .slice (tk kd nm ch).AttrsP (tk kd nm ch).Attrs.length (tk kd nm ch).AttrsC]) hO rfl rfl rfl (by rfl) fun b2 w hO => ?_
  refine l_y rfl rfl (y_assign rfl) ?_
  refine K2 (K3 (K0 (K1 ?_)))
  refine l_y rfl rfl (y_fldb (o' := 0) rfl) ?_
  refine l_y rfl rfl (y_fldb (o' := 0) rfl) ?_
  refine l_y rfl rfl (D5 hO rfl) ?_
  refine Z0 (fun h1_3 => ?_) (fun h1_3 => ?_)
  · refine l_y rfl rfl (y_move rfl) ?_
    refine l_y rfl rfl (y_fldb (o' := 0) rfl) ?_
    refine l_y rfl rfl (y_fldb (o' := 1) rfl) ?_
    refine l_y rfl rfl (D5 hO rfl) ?_
    refine l_y rfl rfl (y_move rfl) ?_
    refine CK [] hO rfl (fun k' hx hr hO' => one_spec (b := oneB nm s) hs rfl hO') ?_
    rintro _ _ w ⟨rfl, rfl⟩ hO
    simp only [List.cons_append, List.nil_append] at hO
    refine l_y rfl rfl (y_pick_t rfl rfl) ?_
    refine l_y rfl rfl (y_assign rfl) ?_
    refine K2 (K3 (K6 ?_))
    have e3 : (tk kd nm ch).Kind = kd := rfl
    exact fin1 rfl rfl ⟨_, ⟨by rw [← hb]; simp_all, rfl⟩, hO.only []⟩
  · refine l_y rfl rfl (y_move rfl) ?_
    repeat refine M2 ?_
    refine l_y rfl rfl (y_pick_f rfl rfl) ?_
    refine l_y rfl rfl (y_assign rfl) ?_
    refine K2 (K3 (K6 ?_))
    have e3 : (tk kd nm ch).Kind = kd := rfl
    exact fin1 rfl rfl ⟨_, ⟨by rw [← hb]; simp_all, rfl⟩, hO.only []⟩
theorem t_end_spec {s : ByteArray} (hs : s.size < 1000000) (hb : (decide (kd = 2) && oneB nm s) = b) (hO : Own k w []) : Tri Tryz.prog 99 #[.agg (Api_token.cells (tk kd nm ch)).toArray, .string s] k w fun v m => v = .bool b ∧ m = [] := by
  refine enter (args := [.agg (Api_token.cells (tk kd nm ch)).toArray, .string s]) Tryz.func99 rfl rfl ?_
  refine K0 (K1 ?_)
  refine s_box (vs := [.int .i64 (tk kd nm ch).Kind, .string (tk kd nm ch).Name, .string (tk kd nm ch).Data, .string (tk kd nm ch).System, .int .i64 (tk kd nm ch).Has, .bool (tk kd nm ch).Quirks, .int .i32 (tk kd nm ch).Char, .bool (tk kd nm ch).Self, .slice (tk kd nm ch).AttrsP (tk kd nm ch).Attrs.length (tk kd nm ch).AttrsC]) hO rfl rfl rfl (by rfl) fun b2 w hO => ?_
  refine l_y rfl rfl (y_assign rfl) ?_
  refine K2 (K3 (K0 (K1 ?_)))
  refine l_y rfl rfl (y_fldb (o' := 0) rfl) ?_
  refine l_y rfl rfl (y_fldb (o' := 0) rfl) ?_
  refine l_y rfl rfl (D5 hO rfl) ?_
  refine Z0 (fun h1_3 => ?_) (fun h1_3 => ?_)
  · refine l_y rfl rfl (y_move rfl) ?_
    refine l_y rfl rfl (y_fldb (o' := 0) rfl) ?_
    refine l_y rfl rfl (y_fldb (o' := 1) rfl) ?_
    refine l_y rfl rfl (D5 hO rfl) ?_
    refine l_y rfl rfl (y_move rfl) ?_
    refine CK [] hO rfl (fun k' hx hr hO' => one_spec (b := oneB nm s) hs rfl hO') ?_
    rintro _ _ w ⟨rfl, rfl⟩ hO
    simp only [List.cons_append, List.nil_append] at hO
    refine l_y rfl rfl (y_pick_t rfl rfl) ?_
    refine l_y rfl rfl (y_assign rfl) ?_
    refine K2 (K3 (K6 ?_))
    have e3 : (tk kd nm ch).Kind = kd := rfl
    exact fin1 rfl rfl ⟨_, ⟨by rw [← hb]; simp_all, rfl⟩, hO.only []⟩
  · refine l_y rfl rfl (y_move rfl) ?_
    repeat refine M2 ?_
    refine l_y rfl rfl (y_pick_f rfl rfl) ?_
    refine l_y rfl rfl (y_assign rfl) ?_
    refine K2 (K3 (K6 ?_))
    have e3 : (tk kd nm ch).Kind = kd := rfl
    exact fin1 rfl rfl ⟨_, ⟨by rw [← hb]; simp_all, rfl⟩, hO.only []⟩
theorem t_ends_spec {s : ByteArray} (hs : s.size < 1000000) (hb : (decide (kd = 2) && !oneB nm s) = b) (hO : Own k w []) : Tri Tryz.prog 91 #[.agg (Api_token.cells (tk kd nm ch)).toArray, .string s] k w fun v m => v = .bool b ∧ m = [] := by
  refine enter (args := [.agg (Api_token.cells (tk kd nm ch)).toArray, .string s]) Tryz.func91 rfl rfl ?_
  refine K0 (K1 ?_)
  refine s_box (vs := [.int .i64 (tk kd nm ch).Kind, .string (tk kd nm ch).Name, .string (tk kd nm ch).Data, .string (tk kd nm ch).System, .int .i64 (tk kd nm ch).Has, .bool (tk kd nm ch).Quirks, .int .i32 (tk kd nm ch).Char, .bool (tk kd nm ch).Self, .slice (tk kd nm ch).AttrsP (tk kd nm ch).Attrs.length (tk kd nm ch).AttrsC]) hO rfl rfl rfl (by rfl) fun b2 w hO => ?_
  refine l_y rfl rfl (y_assign rfl) ?_
  refine K2 (K3 (K0 (K1 ?_)))
  refine l_y rfl rfl (y_fldb (o' := 0) rfl) ?_
  refine l_y rfl rfl (y_fldb (o' := 0) rfl) ?_
  refine l_y rfl rfl (D5 hO rfl) ?_
  refine Z0 (fun h1_3 => ?_) (fun h1_3 => ?_)
  · refine l_y rfl rfl (y_move rfl) ?_
    refine l_y rfl rfl (y_fldb (o' := 0) rfl) ?_
    refine l_y rfl rfl (y_fldb (o' := 1) rfl) ?_
    refine l_y rfl rfl (D5 hO rfl) ?_
    refine l_y rfl rfl (y_move rfl) ?_
    refine CK [] hO rfl (fun k' hx hr hO' => one_spec (b := oneB nm s) hs rfl hO') ?_
    rintro _ _ w ⟨rfl, rfl⟩ hO
    simp only [List.cons_append, List.nil_append] at hO
    refine l_y rfl rfl (y_not rfl rfl) ?_
    refine l_y rfl rfl (y_pick_t rfl rfl) ?_
    refine l_y rfl rfl (y_assign rfl) ?_
    refine K2 (K3 (K6 ?_))
    have e3 : (tk kd nm ch).Kind = kd := rfl
    exact fin1 rfl rfl ⟨_, ⟨by rw [← hb]; simp_all, rfl⟩, hO.only []⟩
  · refine l_y rfl rfl (y_move rfl) ?_
    repeat refine M2 ?_
    refine l_y rfl rfl (y_pick_f rfl rfl) ?_
    refine l_y rfl rfl (y_assign rfl) ?_
    refine K2 (K3 (K6 ?_))
    have e3 : (tk kd nm ch).Kind = kd := rfl
    exact fin1 rfl rfl ⟨_, ⟨by rw [← hb]; simp_all, rfl⟩, hO.only []⟩
theorem t_long_spec (h : nm.size ≤ 1048576) (hO : Own k w []) : Tri Tryz.prog 20 #[.agg (Api_token.cells (tk kd nm ch)).toArray] k w fun v m => v = .bool false ∧ m = [] := by
  refine enter (args := [.agg (Api_token.cells (tk kd nm ch)).toArray]) Tryz.func20 rfl rfl ?_
  refine K0 (K1 ?_)
  refine s_box (vs := [.int .i64 (tk kd nm ch).Kind, .string (tk kd nm ch).Name, .string (tk kd nm ch).Data, .string (tk kd nm ch).System, .int .i64 (tk kd nm ch).Has, .bool (tk kd nm ch).Quirks, .int .i32 (tk kd nm ch).Char, .bool (tk kd nm ch).Self, .slice (tk kd nm ch).AttrsP (tk kd nm ch).Attrs.length (tk kd nm ch).AttrsC]) hO rfl rfl rfl (by rfl) fun b1 w hO => ?_
  refine l_y rfl rfl (y_assign rfl) ?_
  refine K2 (K3 (K0 (K1 ?_)))
  refine l_y rfl rfl (y_fldb (o' := 0) rfl) ?_
  refine l_y rfl rfl (y_fldb (o' := 1) rfl) ?_
  refine l_y rfl rfl (D5 hO rfl) ?_
  refine l_y rfl rfl (y_lenS rfl) ?_
  refine l_y rfl rfl (y_fldb (o' := 0) rfl) ?_
  refine l_y rfl rfl (y_fldb (o' := 2) rfl) ?_
  refine l_y rfl rfl (D5 hO rfl) ?_
  refine l_y rfl rfl (y_lenS rfl) ?_
  refine l_y rfl rfl (y_fldb (o' := 0) rfl) ?_
  refine l_y rfl rfl (y_fldb (o' := 3) rfl) ?_
  refine l_y rfl rfl (D5 hO rfl) ?_
  refine l_y rfl rfl (y_lenS rfl) ?_
  refine l_y rfl rfl (y_max3 rfl rfl rfl) ?_
  refine l_y rfl rfl (y_assign rfl) ?_
  refine K2 (K3 (K0 (K0 (K1 ?_))))
  refine l_y rfl rfl (y_fldb (o' := 0) rfl) ?_
  refine l_y rfl rfl (y_fldb (o' := 8) rfl) ?_
  refine l_y rfl rfl (D5 hO rfl) ?_
  refine l_y rfl rfl (y_lenL rfl) ?_
  refine l_y rfl rfl (y_move rfl) ?_
  refine K2 (K3 (K4 ?_))
  refine c_rounds (X := Nat) (fun i => [(1, .pointer (some ⟨b1, 0, none⟩)), (2, .bool false), (3, .int .i64 (max (max ((nm.size : Nat) : Int) 0) 0)), (21, .slice (tk kd nm ch).AttrsP (tk kd nm ch).Attrs.length (tk kd nm ch).AttrsC), (22, .int .i64 0), (23, .int .i64 0)]) (fun i w => Own k w [blk b1 67 (Api_token.cells (tk kd nm ch))] ∧ (True)) (fun i => 0) (0) ⟨rfl, rfl, rfl, rfl, rfl, rfl, trivial⟩ ⟨hO.only [.b b1], trivial⟩ ?_
  rintro i w m hm ⟨hO, hi⟩
  refine K0 (K1 ?_)
  refine N3 ?_
  refine K2 (K3 (K0 (L9 (K7 (L1 (L1 (L2 (K3 (K0 (K1 ?_))))))))))
  refine l_y rfl rfl (y_move rfl) ?_
  refine l_y rfl rfl (y_cmpI rfl rfl rfl) ?_
  rw [decide_eq_false (show ¬ (max (max ((nm.size : Nat) : Int) 0) 0 > 1048576) by omega)]
  refine l_y rfl rfl (y_move rfl) ?_
  refine l_y rfl rfl (y_fldb (o' := 0) rfl) ?_
  refine l_y rfl rfl (y_fldb (o' := 8) rfl) ?_
  refine l_y rfl rfl (D5 hO rfl) ?_
  refine l_y rfl rfl (y_lenL rfl) ?_
  refine N3 (hp := (by show ¬ ((0 : Int) > 1024); decide)) ?_
  refine l_y rfl rfl (y_pick_f rfl rfl) ?_
  refine l_y rfl rfl (y_assign rfl) ?_
  refine K2 (K3 (K6 ?_))
  exact fin1 rfl rfl ⟨_, ⟨rfl, rfl⟩, hO.only []⟩
theorem t_plain_spec (hO : Own k w []) : Tri Tryz.prog 93 #[.string nm] k w fun v m => v = .agg (Api_token.cells (tk 1 nm 0)).toArray ∧ m = [] := by
  refine enter (args := [.string nm]) Tryz.func93 rfl rfl ?_
  refine K0 (K1 ?_)
  refine s_alloc (vs := [.int .i64 0, .string ⟨#[]⟩, .string ⟨#[]⟩, .string ⟨#[]⟩, .int .i64 0, .bool false, .int .i32 0, .bool false, .slice none 0 0]) hO rfl rfl rfl fun b2 w hO => ?_
  refine K2 (K3 (K0 (K1 ?_)))
  refine l_y rfl rfl (y_move rfl) ?_
  refine s_build (parts := [(0, .const (.int .i64 1)), (1, .tmp 3)]) (cs := [.int .i64 1, .string nm, .string ⟨#[]⟩, .string ⟨#[]⟩, .int .i64 0, .bool false, .int .i32 0, .bool false, .slice none 0 0]) rfl rfl (fun a ha => partsOf_sound ha _ _ rfl) (by kernel_rfl) ?_
  refine s_build (parts := [(0, .tmp 4)]) (cs := [.int .i64 1, .string nm, .string ⟨#[]⟩, .string ⟨#[]⟩, .int .i64 0, .bool false, .int .i32 0, .bool false, .slice none 0 0]) rfl rfl (fun a ha => partsOf_sound ha _ _ rfl) (by kernel_rfl) ?_
  refine Y3 hO rfl rfl (fun w hO => ?_)
  refine K2 (K3 (K6 ?_))
  exact finC hO rfl rfl ⟨_, ⟨rfl, rfl⟩, hO.only []⟩
end
end Go.Proofs.YtpejdlfkaaiehaaGreatDoor
end
section
set_option linter.unusedVariables false
set_option linter.unusedSimpArgs false
set_option maxRecDepth 100000
namespace Go.Proofs.YtpejdlfkaaiehaaGreatDoor
open Go Go.Hb Go.RowKit
/-- one more node at a node's end -/
noncomputable def addA (A : List Node_one) (n : Api_node) (up : Int) : List Node_one := (linkL (A ++ [blankN n]) up A.length (-1)).2
def addKK (A : List Node_one) (K : Int → List Int) (up : Int) : Int → List Int := linkK (addK A K) up A.length (-1)
section
variable {A : List Node_one} {K : Int → List Int} {up : Int} {n : Api_node}
/-- what a call to Put asks -/
structure AddOk (A : List Node_one) (K : Int → List Int) (n : Api_node) (up : Int) : Prop where
  tree : Tree (A ++ [blankN n]) (addK A K)
  i1 : InA (A ++ [blankN n]) up
  i2 : InA (A ++ [blankN n]) A.length
  fr : (nodeA (A ++ [blankN n]) A.length).Parent = -1
  pa : parentB (nodeA (A ++ [blankN n]) up).Kind = true
  ki : (nodeA (A ++ [blankN n]) A.length).Kind ≠ 0 ∧ (nodeA (A ++ [blankN n]) A.length).Kind ≠ 5
  ab : ¬ Anc (A ++ [blankN n]) up A.length
  go : (linkL (A ++ [blankN n]) up A.length (-1)).1 = 0
theorem addA_ok (t : Tree A K) (hu : InA A up) (ku : parentB (nodeA A up).Kind = true) (kid : n.Kind ≠ 0 ∧ n.Kind ≠ 5) (ha : n.Attrs.length ≤ 1024) : AddOk A K n up := by
  have t1 := t.add n ha
  have i1 : InA (A ++ [blankN n]) up := inA_new.2 (.inl hu)
  have i2 : InA (A ++ [blankN n]) A.length := inA_new.2 (.inr rfl)
  have n2 : nodeA (A ++ [blankN n]) A.length = (blankN n).Node := by rw [nodeA, at_new]
  have n1 : nodeA (A ++ [blankN n]) up = nodeA A up := by rw [nodeA, at_old hu]
  have fr : (nodeA (A ++ [blankN n]) A.length).Parent = -1 := by rw [n2]; rfl
  have ki : (nodeA (A ++ [blankN n]) A.length).Kind ≠ 0 ∧ (nodeA (A ++ [blankN n]) A.length).Kind ≠ 5 := by rw [n2]; exact kid
  have ab : ¬ Anc (A ++ [blankN n]) up A.length := fun hh => anc_new t hh hu rfl
  have pa : parentB (nodeA (A ++ [blankN n]) up).Kind = true := by rw [n1]; exact ku
  exact ⟨t1, i1, i2, fr, pa, ki, ab, link_go (before := -1) i1 i2 (.inl rfl) pa ki fr ab⟩
theorem addA_len : (addA A n up).length = A.length + 1 := by rw [addA, linkL_len]; simp
theorem addA_tree (h : AddOk A K n up) : Tree (addA A n up) (addKK A K up) := h.tree.link h.go
theorem addA_old (h : AddOk A K n up) {y : Int} (hy : InA A y) : coreN (at_ (addA A n up) y.toNat) = coreN (at_ A y.toNat) := by
  rw [addA, linkL_core h.tree hy.1, at_old hy]
theorem addA_new (h : AddOk A K n up) : coreN (at_ (addA A n up) ((A.length : Nat) : Int).toNat) = coreN (blankN n) := by
  rw [addA, linkL_core h.tree (by omega), at_new]
theorem addA_in {y : Int} (hy : InA A y) : InA (addA A n up) y := ⟨hy.1, by have := hy.2; rw [addA_len]; omega⟩
theorem elB_in {A : List Node_one} {x : Int} (h : elB A x = true) : InA A x := inA_iff.1 (elB_has h)
theorem elB_kind {A : List Node_one} {x : Int} (h : elB A x = true) : (nodeA A x).Kind = 1 := by
  rw [elB, Bool.and_eq_true] at h; exact of_decide_eq_true h.2
theorem elB_of {A : List Node_one} {x : Int} (h : InA A x) (hk : (nodeA A x).Kind = 1) : elB A x = true := by
  rw [elB, h.b, decide_eq_true hk]; rfl
theorem elB_par {A : List Node_one} {x : Int} (h : elB A x = true) : parentB (nodeA A x).Kind = true := by rw [elB_kind h]; rfl
end
/-- the stack's top -/
theorem topI_ne {l : List Int} (h : l ≠ []) : topI l = at_ l (l.length - 1) := by
  have : 0 < l.length := List.length_pos_iff.2 h
  rw [topI, atI, if_neg (by omega), show ((l.length : Int) - 1).toNat = l.length - 1 by omega]
theorem topI_snoc {l : List Int} {x : Int} : topI (l ++ [x]) = x := by rw [topI_ne (by simp)]; simpa using at_app_new (xs := l) (x := x)
structure BI (A : List Node_one) (K : Int → List Int) (st : List Int) (ns : List ByteArray) : Prop where
  tree : Tree A K
  pos : 0 < A.length
  doc : parentB (nodeA A 0).Kind = true
  stk : StkI A st
  len : ns.length = st.length
  one : ∀ i, i < st.length → (nd A (at_ st i)).Name = at_ ns i ∧ (nd A (at_ st i)).Space = 0 ∧ (nd A (at_ st i)).Inner = -1
  nt : ∀ n ∈ ns, inB n templL = false ∧ inB n tableL = false
section
variable {A : List Node_one} {K : Int → List Int} {st : List Int} {ns : List ByteArray} {up : Int} {n : Api_node}
theorem BI.in0 (h : BI A K st ns) : InA A 0 := ⟨Int.le_refl _, by have := h.pos; omega⟩
theorem BI.el (h : BI A K st ns) {i : Nat} (hi : i < st.length) : elB A (at_ st i) = true := h.stk.el _ (at_mem hi)
theorem BI.ne (h : BI A K st ns) : ∀ x ∈ st, x ≠ -1 := fun x hx e => by
  have := (elB_in (h.stk.el x hx)).1; omega
theorem BI.nam (h : BI A K st ns) {ts : List ByteArray} {i : Nat} (hi : i < st.length) : namA A ts (at_ st i) = inB (at_ ns i) ts := by
  obtain ⟨h1, h2, _⟩ := h.one i hi
  rw [namA, namB]
  have e1 : (at_ A (at_ st i).toNat).Node.Space = 0 := h2
  have e2 : (at_ A (at_ st i).toNat).Node.Name = at_ ns i := h1
  rw [e1, e2]; rfl
theorem BI.top (h : BI A K st ns) (hne : st ≠ []) : elB A (topI st) = true ∧ (nd A (topI st)).Name = at_ ns (st.length - 1) ∧ (nd A (topI st)).Space = 0 ∧ (nd A (topI st)).Inner = -1 := by
  have : 0 < st.length := List.length_pos_iff.2 hne
  rw [topI_ne hne]
  exact ⟨h.el (by omega), h.one _ (by omega)⟩
theorem BI.last (h : BI A K st ns) (p : List ByteArray) (hp : ∀ n ∈ ns, inB n p = false) : lastV (namA A p) st = -1 := by
  rcases lastV_cases (namA A p) st with h1 | ⟨i, _, h2, h3⟩
  · exact h1
  · rw [h.nam h2, hp _ (at_mem (by rw [h.len]; exact h2))] at h3; cases h3
theorem BI.fos (h : BI A K st ns) : FosOk A st := fun _ => by
  have h1 := h.last templL fun n hn => (h.nt n hn).1
  have h2 := h.last tableL fun n hn => (h.nt n hn).2
  have e : fosterV A st = if 0 < st.length then ⟨at_ st 0, -1⟩ else ⟨-1, -1⟩ := by
    rw [fosterV, h1, h2, if_neg (by decide), if_pos (by decide)]
  next hne =>
  rw [e] at hne ⊢
  by_cases h0 : 0 < st.length
  · rw [if_pos h0]; exact elB_has (h.el h0)
  · rw [if_neg h0] at hne; exact absurd rfl hne
theorem BI.spot (h : BI A K st ns) (hne : st ≠ []) : spotV A st (max 0 (topI st)) false = (⟨topI st, -1⟩, 0) := by
  obtain ⟨h1, _, _, h4⟩ := h.top hne
  have h0 := (elB_in h1).1
  have e : max 0 (topI st) = topI st := by omega
  rw [e, spotV, if_neg (by rw [elB_has h1]; simp), atV, if_neg (by simp), innV, if_neg (by simpa using h4)]
/-- one more node, which is not on the stack -/
theorem BI.add (h : BI A K st ns) (g : AddOk A K n up) : BI (addA A n up) (addKK A K up) st ns := by
  have hel : ∀ x ∈ st, elB (addA A n up) x = true := fun x hx => by
    have hx1 := h.stk.el x hx
    refine elB_of (addA_in (elB_in hx1)) ?_
    have := core_kind (addA_old g (elB_in hx1))
    exact this.trans (elB_kind hx1)
  refine ⟨addA_tree g, by rw [addA_len]; omega, ?_, ⟨hel, h.stk.nodup⟩, h.len, fun i hi => ?_, h.nt⟩
  · have := core_kind (addA_old g h.in0)
    rw [nodeA, this]; exact h.doc
  · have hc := addA_old g (elB_in (h.el hi))
    obtain ⟨h1, h2, h3⟩ := h.one i hi
    exact ⟨(core_name hc).trans h1, (core_space hc).trans h2, (core_inner hc).trans h3⟩
/-- .. and one that is -/
theorem BI.push {q : Option Addr} {d : Nat} {nm : ByteArray} (h : BI A K st ns) (g : AddOk A K (elementN q d 0 nm []) up) (hn : inB nm templL = false ∧ inB nm tableL = false) : BI (addA A (elementN q d 0 nm []) up) (addKK A K up) (st ++ [(A.length : Int)]) (ns ++ [nm]) ∧ freshE (addA A (elementN q d 0 nm []) up) st A.length = 0 := by
  have h1 := h.add g
  have hin : InA (addA A (elementN q d 0 nm []) up) (A.length : Int) := ⟨by omega, by rw [addA_len]; omega⟩
  have hc := addA_new g
  have hel : elB (addA A (elementN q d 0 nm []) up) (A.length : Int) = true := elB_of hin (core_kind hc)
  have hni : (A.length : Int) ∉ st := fun hm => by have := (elB_in (h.stk.el _ hm)).2; omega
  have hf : findI st (A.length : Int) < 0 := by
    rcases idx_cases (fun y => decide (y = (A.length : Int))) st with ⟨e, _⟩ | ⟨i, e, h2, h3, _⟩
    · unfold findI; omega
    · exact absurd (at_mem h2) (by have := of_decide_eq_true h3; rw [this]; exact hni)
  refine ⟨⟨h1.tree, h1.pos, h1.doc, ?_, by simp [h1.len], fun i hi => ?_, fun n hn2 => ?_⟩, by rw [freshE, hel, if_neg (by simp), if_neg (by omega)]⟩
  · exact (h1.stk.cons hel hni).perm (List.perm_append_comm (l₁ := [(A.length : Int)]))
  · rw [List.length_append] at hi
    by_cases e : i < st.length
    · rw [at_app_l e, at_app_l (by rw [h.len]; exact e)]; exact h1.one i e
    · have e2 : i = st.length := by simp at hi; omega
      subst e2
      have e3 : at_ (ns ++ [nm]) st.length = nm := by rw [← h.len]; exact at_app_new
      rw [at_app_new, e3]
      exact ⟨core_name hc, core_space hc, core_inner hc⟩
  · rcases List.mem_append.1 hn2 with h2 | h2
    · exact h.nt n h2
    · rw [List.mem_singleton.1 h2]; exact hn
theorem BI.take (h : BI A K st ns) (j : Nat) : BI A K (st.take j) (ns.take j) := by
  refine ⟨h.tree, h.pos, h.doc, h.stk.take j, by simp [h.len], fun i hi => ?_, fun n hn => h.nt n (List.mem_of_mem_take hn)⟩
  rw [List.length_take] at hi
  rw [at_take (by omega), at_take (by omega)]
  exact h.one i (by omega)
theorem BI.len_st (h : BI A K st ns) : st.length ≤ A.length := h.stk.len
theorem BI.addOk (h : BI A K st ns) (hne : st ≠ []) (kid : n.Kind ≠ 0 ∧ n.Kind ≠ 5) (ha : n.Attrs.length ≤ 1024) : AddOk A K n (topI st) :=
  addA_ok h.tree (elB_in (h.top hne).1) (elB_par (h.top hne).1) kid ha
end
end Go.Proofs.YtpejdlfkaaiehaaGreatDoor
end
section
set_option linter.unusedVariables false
set_option linter.unusedSimpArgs false
set_option maxRecDepth 100000
namespace Go.Proofs.YtpejdlfkaaiehaaGreatDoor
open Go Go.Hb Go.RowKit
/-- what changes of a builder -/
structure BQ where
  mode : Int
  head : Int
  quirk : Int
  errs : Int
  framed : Bool
  over : Bool
/-- a builder's cells -/
abbrev bC (a s l r : Nat) (q : BQ) : List Value := [.pointer (some ⟨a, 0, none⟩), .pointer (some ⟨s, 0, none⟩), .pointer (some ⟨l, 0, none⟩), .map (some r), .int .i64 q.mode, .int .i64 0, .slice none 0 0, .int .i64 q.head, .int .i64 (-1), .int .i64 (-1), .int .i64 (-1), .int .i64 (-1), .int .i64 q.quirk, .int .i64 q.errs, .bool q.framed, .bool false, .bool false, .bool false, .bool false, .bool q.over, .slice none 0 0]
/-- is it an element of HTML of one of some names -/
def nmB (A : List Node_one) (id : Int) (names : ByteArray) : Bool := elB A id && decide ((nd A id).Space = 0) && oneB (nd A id).Name names
section
variable {k : Ctx} {w : World} {b a s l r : Nat} {q : BQ} {A : List Node_one} {K : Int → List Int} {st : List Int} {ns : List ByteArray}
theorem b_none_spec (hO : Own k w [blk b 65 (bC a s l r q)]) : Tri Tryz.prog 19 #[.pointer (some ⟨b, 0, none⟩)] k w fun v m => v = .bool false ∧ m = [blk b 65 (bC a s l r q)] := by
  refine enter (args := [.pointer (some ⟨b, 0, none⟩)]) Tryz.func19 rfl rfl ?_
  refine K0 (K1 ?_)
  refine l_y rfl rfl (y_assign rfl) ?_
  refine K2 (K3 (K0 (K1 ?_)))
  refine l_y rfl rfl (y_move rfl) ?_
  refine l_y rfl rfl (y_eqPnil rfl rfl rfl) ?_
  refine l_y rfl rfl (y_move rfl) ?_
  refine l_y rfl rfl (y_move rfl) ?_
  refine l_y rfl rfl (y_nilCheck rfl rfl) ?_
  refine l_y rfl rfl (y_fldb (o' := 0) rfl) ?_
  refine l_y rfl rfl (D5 hO rfl) ?_
  refine l_y rfl rfl (y_eqPnil rfl rfl rfl) ?_
  refine l_y rfl rfl (y_pick_f rfl rfl) ?_
  refine l_y rfl rfl (y_assign rfl) ?_
  refine K2 (K3 (K6 ?_))
  exact fin1 rfl rfl ⟨_, ⟨rfl, rfl⟩, hO.only [.b b]⟩
theorem b_fault_spec (h : q.errs ≤ 1000000000) (h0 : 0 ≤ q.errs) (hO : Own k w [blk b 65 (bC a s l r q)]) : Tri Tryz.prog 26 #[.pointer (some ⟨b, 0, none⟩)] k w fun v m => v = .tuple #[] ∧ m = [blk b 65 (bC a s l r { q with errs := q.errs + 1 })] := by
  refine enter (args := [.pointer (some ⟨b, 0, none⟩)]) Tryz.func26 rfl rfl ?_
  refine K1 ?_
  refine l_y rfl rfl (y_move rfl) ?_
  refine l_y rfl rfl (y_nilCheck rfl rfl) ?_
  refine l_y rfl rfl (y_fldb (o' := 13) rfl) ?_
  refine l_y rfl rfl (D5 hO rfl) ?_
  refine l_y rfl rfl (D4) ?_
  refine l_y rfl rfl (y_nilCheck rfl rfl) ?_
  refine l_y rfl rfl (y_fldb (o' := 13) rfl) ?_
  refine Y1 hO rfl rfl (fun w hO => ?_)
  simp only [List.set_cons_zero, List.set_cons_succ] at hO
  refine K2 ?_
  exact fin0 rfl ⟨_, ⟨rfl, rfl⟩, hO.only [.b b]⟩
theorem b_to_spec {x : Int} (hO : Own k w [blk b 65 (bC a s l r q)]) : Tri Tryz.prog 89 #[.pointer (some ⟨b, 0, none⟩), .int .i64 x] k w fun v m => v = .bool false ∧ m = [blk b 65 (bC a s l r { q with mode := x })] := by
  refine enter (args := [.pointer (some ⟨b, 0, none⟩), .int .i64 x]) Tryz.func89 rfl rfl ?_
  refine K0 (K1 ?_)
  refine l_y rfl rfl (y_assign rfl) ?_
  refine K2 (K3 (K0 (K1 ?_)))
  refine l_y rfl rfl (y_move rfl) ?_
  refine l_y rfl rfl (y_move rfl) ?_
  refine l_y rfl rfl (y_nilCheck rfl rfl) ?_
  refine l_y rfl rfl (y_fldb (o' := 4) rfl) ?_
  refine Y1 hO rfl rfl (fun w hO => ?_)
  simp only [List.set_cons_zero, List.set_cons_succ] at hO
  refine K2 (K3 (K0 (K1 ?_)))
  refine l_y rfl rfl (y_assign rfl) ?_
  refine K2 (K3 (K6 ?_))
  exact fin1 rfl rfl ⟨_, ⟨rfl, rfl⟩, hO.only [.b b]⟩
theorem b_again_spec {x : Int} (hO : Own k w [blk b 65 (bC a s l r q)]) : Tri Tryz.prog 90 #[.pointer (some ⟨b, 0, none⟩), .int .i64 x] k w fun v m => v = .bool true ∧ m = [blk b 65 (bC a s l r { q with mode := x })] := by
  refine enter (args := [.pointer (some ⟨b, 0, none⟩), .int .i64 x]) Tryz.func90 rfl rfl ?_
  refine K0 (K1 ?_)
  refine l_y rfl rfl (y_assign rfl) ?_
  refine K2 (K3 (K0 (K1 ?_)))
  refine l_y rfl rfl (y_move rfl) ?_
  refine l_y rfl rfl (y_move rfl) ?_
  refine l_y rfl rfl (y_nilCheck rfl rfl) ?_
  refine l_y rfl rfl (y_fldb (o' := 4) rfl) ?_
  refine Y1 hO rfl rfl (fun w hO => ?_)
  simp only [List.set_cons_zero, List.set_cons_succ] at hO
  refine K2 (K3 (K0 (K1 ?_)))
  refine l_y rfl rfl (y_assign rfl) ?_
  refine K2 (K3 (K6 ?_))
  exact fin1 rfl rfl ⟨_, ⟨rfl, rfl⟩, hO.only [.b b]⟩
theorem b_look_spec {id : Int} (hn : 0 < A.length) (ha : AttrsOk A) (hO : Own k w [blk b 65 (bC a s l r q), arenaL a A]) : Tri Tryz.prog 74 #[.pointer (some ⟨b, 0, none⟩), .int .i64 id] k w fun v m => ∃ n, NV A id n ∧ v = .agg (Api_node.cells n).toArray ∧ m = [blk b 65 (bC a s l r q), arenaL a A] := by
  refine enter (args := [.pointer (some ⟨b, 0, none⟩), .int .i64 id]) Tryz.func74 rfl rfl ?_
  refine K0 (K1 ?_)
  refine s_alloc (vs := [.int .i64 0, .int .i64 0, .string ⟨#[]⟩, .slice none 0 0, .string ⟨#[]⟩, .string ⟨#[]⟩, .int .i64 0, .int .i64 0, .int .i64 0, .int .i64 0, .int .i64 0, .int .i64 0]) hO rfl rfl rfl fun b4 w hO => ?_
  refine K2 (K3 (K0 (K1 ?_)))
  refine l_y rfl rfl (y_move rfl) ?_
  refine l_y rfl rfl (y_nilCheck rfl rfl) ?_
  refine l_y rfl rfl (y_fldb (o' := 0) rfl) ?_
  refine l_y rfl rfl (D5 hO rfl) ?_
  refine l_y rfl rfl (y_move rfl) ?_
  refine CK [.o a] hO rfl (fun k' hx hr hO' => NodeD_spec hn ha hO') ?_
  rintro _ _ w ⟨n, hnv, rfl, rfl⟩ hO
  simp only [List.cons_append, List.nil_append] at hO
  refine l_y rfl rfl (y_move rfl) ?_
  refine l_y rfl rfl (y_extract rfl rfl) ?_
  refine l_y rfl rfl (y_extract rfl rfl) ?_
  refine s_alloc (vs := [.int .i64 0, .int .i64 0, .string ⟨#[]⟩, .slice none 0 0, .string ⟨#[]⟩, .string ⟨#[]⟩, .int .i64 0, .int .i64 0, .int .i64 0, .int .i64 0, .int .i64 0, .int .i64 0]) hO rfl rfl rfl fun b5 w hO => ?_
  refine Y3 hO rfl rfl (fun w hO => ?_)
  refine l_y rfl rfl (y_assign rfl) ?_
  refine K2 (K3 (K0 (K1 ?_)))
  refine l_y rfl rfl (D8 (cs := [.int .i64 n.Kind, .int .i64 n.Space, .string n.Name, .slice n.AttrsP n.Attrs.length n.AttrsC, .string n.Data, .string n.System, .int .i64 n.Parent, .int .i64 n.First, .int .i64 n.Last, .int .i64 n.Prev, .int .i64 n.Next, .int .i64 n.Inner]) hO rfl) ?_
  refine Y3 hO rfl rfl (fun w hO => ?_)
  refine K2 (K3 (K6 ?_))
  exact finC hO rfl rfl ⟨_, ⟨n, hnv, rfl, rfl⟩, hO.only [.b b, .o a]⟩
theorem b_named_spec {id : Int} {names : ByteArray} {bb : Bool} (hn : 0 < A.length) (ha : AttrsOk A) (hs : names.size < 1000000) (hb : nmB A id names = bb) (hO : Own k w [blk b 65 (bC a s l r q), arenaL a A]) : Tri Tryz.prog 125 #[.pointer (some ⟨b, 0, none⟩), .int .i64 id, .string names] k w fun v m => v = .bool bb ∧ m = [blk b 65 (bC a s l r q), arenaL a A] := by
  refine enter (args := [.pointer (some ⟨b, 0, none⟩), .int .i64 id, .string names]) Tryz.func125 rfl rfl ?_
  refine K0 (K1 ?_)
  refine l_y rfl rfl (y_assign rfl) ?_
  refine K2 (K3 (K0 (K1 ?_)))
  refine l_y rfl rfl (y_move rfl) ?_
  refine l_y rfl rfl (y_nilCheck rfl rfl) ?_
  refine l_y rfl rfl (y_fldb (o' := 0) rfl) ?_
  refine l_y rfl rfl (D5 hO rfl) ?_
  refine l_y rfl rfl (y_move rfl) ?_
  refine CK [.o a] hO rfl (fun k' hx hr hO' => NodeD_spec hn ha hO') ?_
  rintro _ _ w ⟨n, hnv, rfl, rfl⟩ hO
  simp only [List.cons_append, List.nil_append] at hO
  refine l_y rfl rfl (y_move rfl) ?_
  refine l_y rfl rfl (y_extract rfl rfl) ?_
  refine l_y rfl rfl (y_extract rfl rfl) ?_
  refine s_alloc (vs := [.int .i64 0, .int .i64 0, .string ⟨#[]⟩, .slice none 0 0, .string ⟨#[]⟩, .string ⟨#[]⟩, .int .i64 0, .int .i64 0, .int .i64 0, .int .i64 0, .int .i64 0, .int .i64 0]) hO rfl rfl rfl fun b7 w hO => ?_
  refine Y3 hO rfl rfl (fun w hO => ?_)
  refine l_y rfl rfl (y_assign rfl) ?_
  refine K2 (K3 (K0 ?_))
  have hel := hnv.el
  refine K1 ?_
  refine l_y rfl rfl (y_move rfl) ?_
  refine Z0 (fun h2_1 => ?_) (fun h2_1 => ?_)
  · refine l_y rfl rfl (y_move rfl) ?_
    refine l_y rfl rfl (y_fldb (o' := 0) rfl) ?_
    refine l_y rfl rfl (D5 hO rfl) ?_
    refine Z0 (fun h2_5 => ?_) (fun h2_5 => ?_)
    · refine l_y rfl rfl (y_pick_t rfl rfl) ?_
      refine l_y rfl rfl (y_move rfl) ?_
      refine l_y rfl rfl (y_fldb (o' := 1) rfl) ?_
      refine l_y rfl rfl (D5 hO rfl) ?_
      refine Z0 (fun h2_10 => ?_) (fun h2_10 => ?_)
      · refine l_y rfl rfl (y_pick_t rfl rfl) ?_
        refine l_y rfl rfl (y_move rfl) ?_
        refine l_y rfl rfl (y_fldb (o' := 2) rfl) ?_
        refine l_y rfl rfl (D5 hO rfl) ?_
        refine l_y rfl rfl (y_move rfl) ?_
        refine CK [] hO rfl (fun k' hx hr hO' => one_spec (b := oneB n.Name names) hs rfl hO') ?_
        rintro _ _ w ⟨rfl, rfl⟩ hO
        simp only [List.cons_append, List.nil_append] at hO
        refine l_y rfl rfl (y_pick_t rfl rfl) ?_
        refine l_y rfl rfl (y_assign rfl) ?_
        refine K2 (K3 (K6 ?_))
        have hv : nmB A id names = (decide (errN A id = 0) && decide (n.Kind = 1) && decide (n.Space = 0) && oneB n.Name names) := by
          rw [nmB, hel]
          by_cases hb2 : hasB A id = true
          · rw [hnv.space hb2, hnv.name hb2]; rfl
          · rw [errN, if_neg hb2]; rfl
        rw [hb] at hv
        exact fin1 rfl rfl ⟨_, ⟨by rw [hv]; simp_all, rfl⟩, hO.only [.b b, .o a]⟩
      · refine l_y rfl rfl (y_pick_t rfl rfl) ?_
        refine l_y rfl rfl (y_move rfl) ?_
        repeat refine M2 ?_
        refine l_y rfl rfl (y_pick_f rfl rfl) ?_
        refine l_y rfl rfl (y_assign rfl) ?_
        refine K2 (K3 (K6 ?_))
        have hv : nmB A id names = (decide (errN A id = 0) && decide (n.Kind = 1) && decide (n.Space = 0) && oneB n.Name names) := by
          rw [nmB, hel]
          by_cases hb2 : hasB A id = true
          · rw [hnv.space hb2, hnv.name hb2]; rfl
          · rw [errN, if_neg hb2]; rfl
        rw [hb] at hv
        exact fin1 rfl rfl ⟨_, ⟨by rw [hv]; simp_all, rfl⟩, hO.only [.b b, .o a]⟩
    · refine l_y rfl rfl (y_pick_t rfl rfl) ?_
      refine l_y rfl rfl (y_move rfl) ?_
      repeat refine M2 ?_
      refine l_y rfl rfl (y_pick_f rfl rfl) ?_
      refine l_y rfl rfl (y_move rfl) ?_
      repeat refine M2 ?_
      refine l_y rfl rfl (y_pick_f rfl rfl) ?_
      refine l_y rfl rfl (y_assign rfl) ?_
      refine K2 (K3 (K6 ?_))
      have hv : nmB A id names = (decide (errN A id = 0) && decide (n.Kind = 1) && decide (n.Space = 0) && oneB n.Name names) := by
        rw [nmB, hel]
        by_cases hb2 : hasB A id = true
        · rw [hnv.space hb2, hnv.name hb2]; rfl
        · rw [errN, if_neg hb2]; rfl
      rw [hb] at hv
      exact fin1 rfl rfl ⟨_, ⟨by rw [hv]; simp_all, rfl⟩, hO.only [.b b, .o a]⟩
  · refine l_y rfl rfl (y_move rfl) ?_
    repeat refine M2 ?_
    refine l_y rfl rfl (y_pick_f rfl rfl) ?_
    refine l_y rfl rfl (y_move rfl) ?_
    repeat refine M2 ?_
    refine l_y rfl rfl (y_pick_f rfl rfl) ?_
    refine l_y rfl rfl (y_move rfl) ?_
    repeat refine M2 ?_
    refine l_y rfl rfl (y_pick_f rfl rfl) ?_
    refine l_y rfl rfl (y_assign rfl) ?_
    refine K2 (K3 (K6 ?_))
    have hv : nmB A id names = (decide (errN A id = 0) && decide (n.Kind = 1) && decide (n.Space = 0) && oneB n.Name names) := by
      rw [nmB, hel]
      by_cases hb2 : hasB A id = true
      · rw [hnv.space hb2, hnv.name hb2]; rfl
      · rw [errN, if_neg hb2]; rfl
    rw [hb] at hv
    exact fin1 rfl rfl ⟨_, ⟨by rw [hv]; simp_all, rfl⟩, hO.only [.b b, .o a]⟩
theorem b_top_spec {names : ByteArray} {bb : Bool} (hn : 0 < A.length) (ha : AttrsOk A) (hl : st.length ≤ 1000000) (hs : names.size < 1000000) (hb : nmB A (topI st) names = bb) (hO : Own k w [blk b 65 (bC a s l r q), arenaL a A, stkL s a st]) : Tri Tryz.prog 102 #[.pointer (some ⟨b, 0, none⟩), .string names] k w fun v m => v = .bool bb ∧ m = [blk b 65 (bC a s l r q), arenaL a A, stkL s a st] := by
  refine enter (args := [.pointer (some ⟨b, 0, none⟩), .string names]) Tryz.func102 rfl rfl ?_
  refine K0 (K1 ?_)
  refine l_y rfl rfl (y_assign rfl) ?_
  refine K2 (K3 (K0 (K1 ?_)))
  refine l_y rfl rfl (y_move rfl) ?_
  refine l_y rfl rfl (y_move rfl) ?_
  refine l_y rfl rfl (y_nilCheck rfl rfl) ?_
  refine l_y rfl rfl (y_fldb (o' := 1) rfl) ?_
  refine l_y rfl rfl (D5 hO rfl) ?_
  refine CK [.o s] hO rfl (fun k' hx hr hO' => sTopC_spec (x := 0) hl hO') ?_
  rintro _ _ w ⟨rfl, rfl⟩ hO
  simp only [List.cons_append, List.nil_append] at hO
  refine l_y rfl rfl (y_move rfl) ?_
  refine CK [.b b, .o a] hO rfl (fun k' hx hr hO' => b_named_spec hn ha hs hb hO') ?_
  rintro _ _ w ⟨rfl, rfl⟩ hO
  simp only [List.cons_append, List.nil_append] at hO
  refine l_y rfl rfl (y_assign rfl) ?_
  refine K2 (K3 (K6 ?_))
  exact fin1 rfl rfl ⟨_, ⟨rfl, rfl⟩, hO.only [.b b, .o a, .o s]⟩
theorem b_adjusted_spec (hl : st.length ≤ 1000000) (hO : Own k w [blk b 65 (bC a s l r q), stkL s a st]) : Tri Tryz.prog 75 #[.pointer (some ⟨b, 0, none⟩)] k w fun v m => v = .int .i64 (topI st) ∧ m = [blk b 65 (bC a s l r q), stkL s a st] := by
  refine enter (args := [.pointer (some ⟨b, 0, none⟩)]) Tryz.func75 rfl rfl ?_
  refine K0 (K1 ?_)
  refine l_y rfl rfl (y_assign rfl) ?_
  refine K2 (K3 (K0 (K0 (K1 ?_))))
  refine l_y rfl rfl (y_move rfl) ?_
  refine l_y rfl rfl (y_nilCheck rfl rfl) ?_
  refine l_y rfl rfl (y_fldb (o' := 1) rfl) ?_
  refine l_y rfl rfl (D5 hO rfl) ?_
  refine CK [.o s] hO rfl (fun k' hx hr hO' => sLenC_spec hO') ?_
  rintro _ _ w ⟨rfl, rfl⟩ hO
  simp only [List.cons_append, List.nil_append] at hO
  refine Z0 (fun h1_5 => ?_) (fun h1_5 => ?_)
  · refine l_y rfl rfl (y_move rfl) ?_
    refine l_y rfl rfl (y_move rfl) ?_
    refine l_y rfl rfl (y_nilCheck rfl rfl) ?_
    refine l_y rfl rfl (y_fldb (o' := 9) rfl) ?_
    refine l_y rfl rfl (D5 hO rfl) ?_
    refine N4 ?_
    refine l_y rfl rfl (y_pick_t rfl rfl) ?_
    refine K2 (K3 (L9 (K5 (K3 (K0 (K1 ?_))))))
    refine l_y rfl rfl (y_move rfl) ?_
    refine l_y rfl rfl (y_nilCheck rfl rfl) ?_
    refine l_y rfl rfl (y_fldb (o' := 1) rfl) ?_
    refine l_y rfl rfl (D5 hO rfl) ?_
    refine CK [.o s] hO rfl (fun k' hx hr hO' => sTopC_spec (x := 0) hl hO') ?_
    rintro _ _ w ⟨rfl, rfl⟩ hO
    simp only [List.cons_append, List.nil_append] at hO
    refine l_y rfl rfl (y_assign rfl) ?_
    refine K2 (K3 (K6 ?_))
    exact fin1 rfl rfl ⟨_, ⟨rfl, rfl⟩, hO.only [.b b, .o s]⟩
  · refine l_y rfl rfl (y_move rfl) ?_
    repeat refine M2 ?_
    refine l_y rfl rfl (y_pick_f rfl rfl) ?_
    refine K2 (K3 (L9 (K5 (K3 (K0 (K1 ?_))))))
    refine l_y rfl rfl (y_move rfl) ?_
    refine l_y rfl rfl (y_nilCheck rfl rfl) ?_
    refine l_y rfl rfl (y_fldb (o' := 1) rfl) ?_
    refine l_y rfl rfl (D5 hO rfl) ?_
    refine CK [.o s] hO rfl (fun k' hx hr hO' => sTopC_spec (x := 0) hl hO') ?_
    rintro _ _ w ⟨rfl, rfl⟩ hO
    simp only [List.cons_append, List.nil_append] at hO
    refine l_y rfl rfl (y_assign rfl) ?_
    refine K2 (K3 (K6 ?_))
    exact fin1 rfl rfl ⟨_, ⟨rfl, rfl⟩, hO.only [.b b, .o s]⟩
end
end Go.Proofs.YtpejdlfkaaiehaaGreatDoor
end
section
set_option linter.unusedVariables false
set_option linter.unusedSimpArgs false
set_option maxRecDepth 100000
namespace Go.Proofs.YtpejdlfkaaiehaaGreatDoor
open Go Go.Hb Go.RowKit
section
variable {A : List Node_one} {K : Int → List Int} {st : List Int} {ns : List ByteArray} {n : Api_node}
theorem not_tmpl {nm : ByteArray} (h : inB nm templL = false) : ¬ tmpl 0 nm := fun ⟨_, e⟩ => by
  rw [e] at h; exact absurd h (by decide)
theorem el_ok {nm : ByteArray} {p : Option Addr} {d : Nat} (h : inB nm templL = false) (hs : nm.size ≤ 1000) (hl : A.length ≤ 30000) : elementL A 0 nm [] p d = ((A.length : Int), 0, A ++ [blankN (elementN p d 0 nm [])]) := by
  rw [elementL, if_neg (by decide), if_neg (by decide), if_neg (fun hh => not_tmpl h hh.1), if_neg, if_neg (by omega), if_neg (not_tmpl h)]
  simp only [longB, attrTexts, List.flatMap_nil, List.any_cons, List.any_nil, Bool.or_false, decide_eq_true_eq]
  omega
theorem txt_ok {s : ByteArray} (hs : s.size ≤ 1000) (hl : A.length ≤ 30000) : addL A (textN s) [s] = ((A.length : Int), 0, A ++ [blankN (textN s)]) := by
  rw [addL, if_neg, if_neg (by omega)]
  simp only [longB, List.any_cons, List.any_nil, Bool.or_false, decide_eq_true_eq]
  omega
/-- one more node, not linked yet -/
theorem BI.new (h : BI A K st ns) (g : AddOk A K n (topI st)) : BI (A ++ [blankN n]) (addK A K) st ns := by
  have hin : ∀ {y}, InA A y → InA (A ++ [blankN n]) y := fun h => inA_new.2 (.inl h)
  have he : ∀ {y}, InA A y → at_ (A ++ [blankN n]) y.toNat = at_ A y.toNat := fun h => at_old h
  refine ⟨g.tree, by simp, by rw [nodeA, he h.in0]; exact h.doc, ⟨fun x hx => ?_, h.stk.nodup⟩, h.len, fun i hi => ?_, h.nt⟩
  · have hx1 := h.stk.el x hx
    exact elB_of (hin (elB_in hx1)) (by rw [nodeA, he (elB_in hx1)]; exact elB_kind hx1)
  · have e := he (elB_in (h.el hi))
    have := h.one i hi
    unfold nd at this ⊢
    rw [e]; exact this
end
section
variable {k : Ctx} {w : World} {b a s l r : Nat} {q : BQ} {A : List Node_one} {K : Int → List Int} {st : List Int} {ns : List ByteArray} {kd ch : Int} {nm : ByteArray}
theorem b_spot_spec (h : BI A K st ns) (hne : st ≠ []) (hl : st.length ≤ 1000000) (hO : Own k w [blk b 65 (bC a s l r q), arenaL a A, stkL s a st]) : Tri Tryz.prog 131 #[.pointer (some ⟨b, 0, none⟩)] k w fun v m => v = .agg (Api_spot.cells ⟨topI st, -1⟩).toArray ∧ m = [blk b 65 (bC a s l r q), arenaL a A, stkL s a st] := by
  refine enter (args := [.pointer (some ⟨b, 0, none⟩)]) Tryz.func131 rfl rfl ?_
  have hsp := h.spot hne
  refine K0 (K1 ?_)
  refine s_alloc (vs := [.int .i64 0, .int .i64 0]) hO rfl rfl rfl fun b2 w hO => ?_
  refine K2 (K3 (K0 ?_))
  refine da_region (by intro c a d v w h; cases d <;> exact h) ?_
  have hO := hO.drew
  refine da_phase _ [23] (SO.ks [.b b] hO) ?_
  refine dx_u 0 (by kernel_rfl) rfl rfl rfl (fun w => y_move rfl) ?_
  refine dx_u 1 (by kernel_rfl) rfl rfl rfl (fun w => y_nilCheck rfl rfl) ?_
  refine dx_u 2 (by kernel_rfl) rfl rfl rfl (fun w => y_fldb (o' := 0) rfl) ?_
  refine dx_y 3 (by kernel_rfl) rfl rfl rfl (fun w ⟨m, hw⟩ => D5 hw rfl) ?_
  refine dx_u 4 (by kernel_rfl) rfl rfl rfl (fun w => y_move rfl) ?_
  refine dx_u 5 (by kernel_rfl) rfl rfl rfl (fun w => y_nilCheck rfl rfl) ?_
  refine dx_u 6 (by kernel_rfl) rfl rfl rfl (fun w => y_fldb (o' := 1) rfl) ?_
  refine dx_y 7 (by kernel_rfl) rfl rfl rfl (fun w ⟨m, hw⟩ => D5 hw rfl) ?_
  refine dx_u 8 (by kernel_rfl) rfl rfl rfl (fun w => y_move rfl) ?_
  refine dx_u 9 (by kernel_rfl) rfl rfl rfl (fun w => y_nilCheck rfl rfl) ?_
  refine dx_u 10 (by kernel_rfl) rfl rfl rfl (fun w => y_fldb (o' := 1) rfl) ?_
  refine dx_y 11 (by kernel_rfl) rfl rfl rfl (fun w ⟨m, hw⟩ => D5 hw rfl) ?_
  refine dx_u 14 (by kernel_rfl) rfl rfl rfl (fun w => y_move rfl) ?_
  refine dx_u 15 (by kernel_rfl) rfl rfl rfl (fun w => y_nilCheck rfl rfl) ?_
  refine dx_u 16 (by kernel_rfl) rfl rfl rfl (fun w => y_fldb (o' := 15) rfl) ?_
  refine dx_y 17 (by kernel_rfl) rfl rfl rfl (fun w ⟨m, hw⟩ => D5 hw rfl) ?_
  refine dx_two 12 22 (by kernel_rfl) rfl rfl rfl rfl ?_ ?_
  · refine CK [.o s] hO rfl (fun k' hx hr hO' => sTopC_spec (x := 0) hl hO') ?_
    rintro _ _ w ⟨rfl, rfl⟩ hO
    simp only [List.cons_append, List.nil_append] at hO
    refine o_done ?_
    refine ⟨SO.ks [.b b] hO, ?_⟩
    refine dx_u 13 (by kernel_rfl) rfl rfl rfl (fun w => y_max rfl rfl) ?_
    refine dx_two 18 22 (by kernel_rfl) rfl rfl rfl rfl ?_ ?_
    · refine CK [.o a, .o s] hO rfl (fun k' hx hr hO' => Spot_spec (target := max 0 (topI st)) (f := false) h.pos h.tree.attrs h.stk.el hl h.fos hO') ?_
      rintro _ _ w ⟨rfl, rfl⟩ hO
      simp only [List.cons_append, List.nil_append] at hO
      rw [hsp]
      refine o_done ?_
      refine ⟨SO.ks [.b b] hO, ?_⟩
      refine dx_u 19 (by kernel_rfl) rfl rfl rfl (fun w => y_move rfl) ?_
      refine dx_u 20 (by kernel_rfl) rfl rfl rfl (fun w => y_extract rfl rfl) ?_
      refine dx_u 21 (by kernel_rfl) rfl rfl rfl (fun w => y_extract rfl rfl) ?_
      refine dx_only 22 (by kernel_rfl) rfl rfl ?_
      refine s_alloc (vs := [.int .i64 0, .int .i64 0]) hO rfl rfl rfl fun b3 w hO => ?_
      refine o_done ?_
      refine ⟨SO.ks [.b b] hO, ?_⟩
      refine dx_close 23 (by kernel_rfl) rfl rfl ?_
      refine Y3 hO rfl rfl (fun w hO => ?_)
      refine o_done ?_
      refine da_phase _ [] (SO.ks [] hO) ?_
      refine dx_u 24 (by kernel_rfl) rfl rfl rfl (fun w => y_assign rfl) ?_
      refine dx_end (by kernel_rfl) ?_
      refine K3 (K0 (K1 ?_))
      refine l_y rfl rfl (D8 (cs := [.int .i64 (Api_spot.mk (topI st) (-1)).Parent, .int .i64 (Api_spot.mk (topI st) (-1)).Before]) hO rfl) ?_
      refine Y3 hO rfl rfl (fun w hO => ?_)
      refine K2 (K3 (K6 ?_))
      exact finC hO rfl rfl ⟨_, ⟨rfl, rfl⟩, hO.only [.b b, .o a, .o s]⟩
    · refine s_alloc (vs := [.int .i64 0, .int .i64 0]) hO rfl rfl rfl fun b3 w hO => ?_
      refine o_done ?_
      refine ⟨SO.ks [.b b] hO, ?_⟩
      refine dx_only 18 (by kernel_rfl) rfl rfl ?_
      refine CK [.o a, .o s] hO rfl (fun k' hx hr hO' => Spot_spec (target := max 0 (topI st)) (f := false) h.pos h.tree.attrs h.stk.el hl h.fos hO') ?_
      rintro _ _ w ⟨rfl, rfl⟩ hO
      simp only [List.cons_append, List.nil_append] at hO
      rw [hsp]
      refine o_done ?_
      refine ⟨SO.ks [.b b] hO, ?_⟩
      refine dx_u 19 (by kernel_rfl) rfl rfl rfl (fun w => y_move rfl) ?_
      refine dx_u 20 (by kernel_rfl) rfl rfl rfl (fun w => y_extract rfl rfl) ?_
      refine dx_u 21 (by kernel_rfl) rfl rfl rfl (fun w => y_extract rfl rfl) ?_
      refine dx_close 23 (by kernel_rfl) rfl rfl ?_
      refine Y3 hO rfl rfl (fun w hO => ?_)
      refine o_done ?_
      refine da_phase _ [] (SO.ks [] hO) ?_
      refine dx_u 24 (by kernel_rfl) rfl rfl rfl (fun w => y_assign rfl) ?_
      refine dx_end (by kernel_rfl) ?_
      refine K3 (K0 (K1 ?_))
      refine l_y rfl rfl (D8 (cs := [.int .i64 (Api_spot.mk (topI st) (-1)).Parent, .int .i64 (Api_spot.mk (topI st) (-1)).Before]) hO rfl) ?_
      refine Y3 hO rfl rfl (fun w hO => ?_)
      refine K2 (K3 (K6 ?_))
      exact finC hO rfl rfl ⟨_, ⟨rfl, rfl⟩, hO.only [.b b, .o a, .o s]⟩
  · refine s_alloc (vs := [.int .i64 0, .int .i64 0]) hO rfl rfl rfl fun b3 w hO => ?_
    refine o_done ?_
    refine ⟨SO.ks [.b b] hO, ?_⟩
    refine dx_only 12 (by kernel_rfl) rfl rfl ?_
    refine CK [.o s] hO rfl (fun k' hx hr hO' => sTopC_spec (x := 0) hl hO') ?_
    rintro _ _ w ⟨rfl, rfl⟩ hO
    simp only [List.cons_append, List.nil_append] at hO
    refine o_done ?_
    refine ⟨SO.ks [.b b] hO, ?_⟩
    refine dx_u 13 (by kernel_rfl) rfl rfl rfl (fun w => y_max rfl rfl) ?_
    refine dx_only 18 (by kernel_rfl) rfl rfl ?_
    refine CK [.o a, .o s] hO rfl (fun k' hx hr hO' => Spot_spec (target := max 0 (topI st)) (f := false) h.pos h.tree.attrs h.stk.el hl h.fos hO') ?_
    rintro _ _ w ⟨rfl, rfl⟩ hO
    simp only [List.cons_append, List.nil_append] at hO
    rw [hsp]
    refine o_done ?_
    refine ⟨SO.ks [.b b] hO, ?_⟩
    refine dx_u 19 (by kernel_rfl) rfl rfl rfl (fun w => y_move rfl) ?_
    refine dx_u 20 (by kernel_rfl) rfl rfl rfl (fun w => y_extract rfl rfl) ?_
    refine dx_u 21 (by kernel_rfl) rfl rfl rfl (fun w => y_extract rfl rfl) ?_
    refine dx_close 23 (by kernel_rfl) rfl rfl ?_
    refine Y3 hO rfl rfl (fun w hO => ?_)
    refine o_done ?_
    refine da_phase _ [] (SO.ks [] hO) ?_
    refine dx_u 24 (by kernel_rfl) rfl rfl rfl (fun w => y_assign rfl) ?_
    refine dx_end (by kernel_rfl) ?_
    refine K3 (K0 (K1 ?_))
    refine l_y rfl rfl (D8 (cs := [.int .i64 (Api_spot.mk (topI st) (-1)).Parent, .int .i64 (Api_spot.mk (topI st) (-1)).Before]) hO rfl) ?_
    refine Y3 hO rfl rfl (fun w hO => ?_)
    refine K2 (K3 (K6 ?_))
    exact finC hO rfl rfl ⟨_, ⟨rfl, rfl⟩, hO.only [.b b, .o a, .o s]⟩
set_option maxHeartbeats 1000000 in
theorem b_element_spec (h : BI A K st ns) (hne : st ≠ []) (hnt : inB nm templL = false ∧ inB nm tableL = false) (hns : nm.size ≤ 1000) (hA : A.length ≤ 30000) (hO : Own k w [blk b 65 (bC a s l r q), arenaL a A, stkL s a st]) :
    Tri Tryz.prog 139 #[.pointer (some ⟨b, 0, none⟩), .int .i64 0, .agg (Api_token.cells (tk kd nm ch)).toArray] k w fun v m => ∃ p d, v = .int .i64 (A.length : Int) ∧ m = [blk b 65 (bC a s l r q), arenaL a (addA A (elementN p d 0 nm []) (topI st)), stkL s a (st ++ [(A.length : Int)])] := by
  refine enter (args := [.pointer (some ⟨b, 0, none⟩), .int .i64 0, .agg (Api_token.cells (tk kd nm ch)).toArray]) Tryz.func139 rfl rfl ?_
  have hl : st.length ≤ 1000000 := by have := h.len_st; omega
  refine K0 (K1 ?_)
  refine s_box (vs := [.int .i64 (tk kd nm ch).Kind, .string (tk kd nm ch).Name, .string (tk kd nm ch).Data, .string (tk kd nm ch).System, .int .i64 (tk kd nm ch).Has, .bool (tk kd nm ch).Quirks, .int .i32 (tk kd nm ch).Char, .bool (tk kd nm ch).Self, .slice (tk kd nm ch).AttrsP (tk kd nm ch).Attrs.length (tk kd nm ch).AttrsC]) hO rfl rfl rfl (by rfl) fun b5 w hO => ?_
  refine l_y rfl rfl (y_assign rfl) ?_
  refine K2 (K3 (K0 ?_))
  refine da_region (by intro c a d v w h; cases d <;> exact h) ?_
  have hO := hO.drew
  refine da_phase _ [11] (SO.ks [.b b, .b b5] hO) ?_
  refine dx_u 0 (by kernel_rfl) rfl rfl rfl (fun w => y_move rfl) ?_
  refine dx_u 1 (by kernel_rfl) rfl rfl rfl (fun w => y_nilCheck rfl rfl) ?_
  refine dx_u 2 (by kernel_rfl) rfl rfl rfl (fun w => y_fldb (o' := 0) rfl) ?_
  refine dx_y 3 (by kernel_rfl) rfl rfl rfl (fun w ⟨m, hw⟩ => D5 hw rfl) ?_
  refine dx_u 4 (by kernel_rfl) rfl rfl rfl (fun w => y_move rfl) ?_
  refine dx_u 5 (by kernel_rfl) rfl rfl rfl (fun w => y_fldb (o' := 0) rfl) ?_
  refine dx_u 6 (by kernel_rfl) rfl rfl rfl (fun w => y_fldb (o' := 1) rfl) ?_
  refine dx_y 7 (by kernel_rfl) rfl rfl rfl (fun w ⟨m, hw⟩ => D5 hw rfl) ?_
  refine dx_u 8 (by kernel_rfl) rfl rfl rfl (fun w => y_fldb (o' := 0) rfl) ?_
  refine dx_u 9 (by kernel_rfl) rfl rfl rfl (fun w => y_fldb (o' := 8) rfl) ?_
  refine dx_y 10 (by kernel_rfl) rfl rfl rfl (fun w ⟨m, hw⟩ => D5 hw rfl) ?_
  refine dx_close 11 (by kernel_rfl) rfl rfl ?_
  refine CK [.o a] hO rfl (fun k' hx hr hO' => Element_spec (sp := 0) (nm := nm) (xs := []) (ap := none) (ac := 0) h.pos (by omega) (Sli.nil rfl) (hO := hO')) ?_
  rintro _ _ w ⟨p1, d1, rfl, rfl⟩ hO
  simp only [List.cons_append, List.nil_append] at hO
  rw [el_ok hnt.1 hns hA] at hO ⊢
  have g : AddOk A K (elementN p1 d1 0 nm []) (topI st) := h.addOk hne ⟨show (1 : Int) ≠ 0 by decide, show (1 : Int) ≠ 5 by decide⟩ (Nat.zero_le _)
  have hbn := h.new g
  obtain ⟨h2, hf⟩ := h.push g hnt
  refine o_done ?_
  refine da_phase _ [] (SO.ks [] hO) ?_
  refine dx_u 12 (by kernel_rfl) rfl rfl rfl (fun w => y_move rfl) ?_
  refine dx_u 13 (by kernel_rfl) rfl rfl rfl (fun w => y_extract rfl rfl) ?_
  refine dx_u 14 (by kernel_rfl) rfl rfl rfl (fun w => y_extract rfl rfl) ?_
  refine dx_u 15 (by kernel_rfl) rfl rfl rfl (fun w => y_assign rfl) ?_
  refine dx_u 16 (by kernel_rfl) rfl rfl rfl (fun w => y_assign rfl) ?_
  refine dx_end (by kernel_rfl) ?_
  refine K3 (K0 ?_)
  refine da_region (by intro c a d v w h; cases d <;> exact h) ?_
  have hO := hO.drew
  refine da_phase _ [7] (SO.ks [.b b] hO) ?_
  refine dx_u 0 (by kernel_rfl) rfl rfl rfl (fun w => y_move rfl) ?_
  refine dx_u 1 (by kernel_rfl) rfl rfl rfl (fun w => y_nilCheck rfl rfl) ?_
  refine dx_u 2 (by kernel_rfl) rfl rfl rfl (fun w => y_fldb (o' := 0) rfl) ?_
  refine dx_y 3 (by kernel_rfl) rfl rfl rfl (fun w ⟨m, hw⟩ => D5 hw rfl) ?_
  refine dx_u 4 (by kernel_rfl) rfl rfl rfl (fun w => y_move rfl) ?_
  refine dx_u 6 (by kernel_rfl) rfl rfl rfl (fun w => y_move rfl) ?_
  refine dx_only 5 (by kernel_rfl) rfl rfl ?_
  refine CK [.b b, .o a, .o s] hO rfl (fun k' hx hr hO' => b_spot_spec hbn hne hl hO') ?_
  rintro _ _ w ⟨rfl, rfl⟩ hO
  simp only [List.cons_append, List.nil_append] at hO
  refine o_done ?_
  refine ⟨SO.ks [.b b] hO, ?_⟩
  refine dx_close 7 (by kernel_rfl) rfl rfl ?_
  refine CK [.o a] hO rfl (fun k' hx hr hO' => Put_spec g.tree (by simp) g.i1 g.i2 g.fr g.pa g.ki g.ab (hO := hO')) ?_
  rintro _ _ w ⟨rfl, rfl⟩ hO
  simp only [List.cons_append, List.nil_append] at hO
  have hO : Own k w (arenaL a (addA A (elementN p1 d1 0 nm []) (topI st)) :: _) := hO
  refine o_done ?_
  refine da_end (by kernel_rfl) ?_
  refine K3 (K0 (K1 ?_))
  refine l_y rfl rfl (y_move rfl) ?_
  refine l_y rfl rfl (y_nilCheck rfl rfl) ?_
  refine l_y rfl rfl (y_fldb (o' := 1) rfl) ?_
  refine l_y rfl rfl (D5 hO rfl) ?_
  refine l_y rfl rfl (y_move rfl) ?_
  refine CK [.o a, .o s] hO rfl (fun k' hx hr hO' => sPush_spec (by rw [addA_len]; omega) (addA_tree g).attrs hl (hO := hO')) ?_
  rintro _ _ w ⟨rfl, rfl⟩ hO
  simp only [List.cons_append, List.nil_append] at hO
  rw [hf, if_pos rfl] at hO
  refine K2 (K3 (K0 (K1 ?_)))
  refine l_y rfl rfl (y_move rfl) ?_
  refine l_y rfl rfl (y_assign rfl) ?_
  refine K2 (K3 (K6 ?_))
  exact fin1 rfl rfl ⟨_, ⟨p1, d1, rfl, rfl⟩, hO.only [.b b, .o a, .o s]⟩
theorem b_put_spec (h : BI A K st ns) (hne : st ≠ []) (hnt : inB nm templL = false ∧ inB nm tableL = false) (hns : nm.size ≤ 1000) (hA : A.length ≤ 30000) (hO : Own k w [blk b 65 (bC a s l r q), arenaL a A, stkL s a st]) :
    Tri Tryz.prog 94 #[.pointer (some ⟨b, 0, none⟩), .agg (Api_token.cells (tk kd nm ch)).toArray] k w fun v m => ∃ p d, v = .int .i64 (A.length : Int) ∧ m = [blk b 65 (bC a s l r q), arenaL a (addA A (elementN p d 0 nm []) (topI st)), stkL s a (st ++ [(A.length : Int)])] := by
  refine enter (args := [.pointer (some ⟨b, 0, none⟩), .agg (Api_token.cells (tk kd nm ch)).toArray]) Tryz.func94 rfl rfl ?_
  refine K0 (K1 ?_)
  refine s_box (vs := [.int .i64 (tk kd nm ch).Kind, .string (tk kd nm ch).Name, .string (tk kd nm ch).Data, .string (tk kd nm ch).System, .int .i64 (tk kd nm ch).Has, .bool (tk kd nm ch).Quirks, .int .i32 (tk kd nm ch).Char, .bool (tk kd nm ch).Self, .slice (tk kd nm ch).AttrsP (tk kd nm ch).Attrs.length (tk kd nm ch).AttrsC]) hO rfl rfl rfl (by rfl) fun b3 w hO => ?_
  refine l_y rfl rfl (y_assign rfl) ?_
  refine K2 (K3 (K0 (K1 ?_)))
  refine l_y rfl rfl (y_move rfl) ?_
  refine l_y rfl rfl (D8 (cs := [.int .i64 (tk kd nm ch).Kind, .string (tk kd nm ch).Name, .string (tk kd nm ch).Data, .string (tk kd nm ch).System, .int .i64 (tk kd nm ch).Has, .bool (tk kd nm ch).Quirks, .int .i32 (tk kd nm ch).Char, .bool (tk kd nm ch).Self, .slice (tk kd nm ch).AttrsP (tk kd nm ch).Attrs.length (tk kd nm ch).AttrsC]) hO rfl) ?_
  refine CK [.b b, .o a, .o s] hO rfl (fun k' hx hr hO' => b_element_spec (kd := kd) (nm := nm) (ch := ch) h hne hnt hns hA hO') ?_
  rintro _ _ w ⟨p1, d1, rfl, rfl⟩ hO
  simp only [List.cons_append, List.nil_append] at hO
  refine l_y rfl rfl (y_assign rfl) ?_
  refine K2 (K3 (K6 ?_))
  exact fin1 rfl rfl ⟨_, ⟨p1, d1, rfl, rfl⟩, hO.only [.b b, .o a, .o s]⟩
theorem b_doc_spec (hO : Own k w []) : Tri Tryz.prog 87 #[] k w fun v m => v = .agg (Api_spot.cells ⟨0, -1⟩).toArray ∧ m = [] := by
  refine enter (args := []) Tryz.func87 rfl rfl ?_
  refine K0 (K1 ?_)
  refine s_alloc (vs := [.int .i64 0, .int .i64 0]) hO rfl rfl rfl fun b0 w hO => ?_
  refine K2 (K3 (K0 (K1 ?_)))
  refine s_build (parts := [(0, .const (.int .i64 0)), (1, .const (.int .i64 (-1)))]) (cs := [.int .i64 0, .int .i64 (-1)]) rfl rfl (fun a ha => partsOf_sound ha _ _ rfl) (by kernel_rfl) ?_
  refine Y3 hO rfl rfl (fun w hO => ?_)
  refine K2 (K3 (K6 ?_))
  exact finC hO rfl rfl ⟨_, ⟨rfl, rfl⟩, hO.only []⟩
def htmlS : ByteArray := ⟨#[104, 116, 109, 108]⟩
set_option maxHeartbeats 1000000 in
/-- the first element of all -/
theorem b_root_spec (h : BI A K [] []) (hA : A.length ≤ 30000) (hO : Own k w [blk b 65 (bC a s l r q), arenaL a A, stkL s a []]) :
    Tri Tryz.prog 92 #[.pointer (some ⟨b, 0, none⟩), .agg (Api_token.cells (tk 1 htmlS 0)).toArray] k w fun v m => ∃ p d, m = [blk b 65 (bC a s l r q), arenaL a (addA A (elementN p d 0 htmlS []) 0), stkL s a [(A.length : Int)]] := by
  refine enter (args := [.pointer (some ⟨b, 0, none⟩), .agg (Api_token.cells (tk 1 htmlS 0)).toArray]) Tryz.func92 rfl rfl ?_
  have hl : ([] : List Int).length ≤ 1000000 := by decide
  refine K0 (K1 ?_)
  refine s_box (vs := [.int .i64 (tk 1 htmlS 0).Kind, .string (tk 1 htmlS 0).Name, .string (tk 1 htmlS 0).Data, .string (tk 1 htmlS 0).System, .int .i64 (tk 1 htmlS 0).Has, .bool (tk 1 htmlS 0).Quirks, .int .i32 (tk 1 htmlS 0).Char, .bool (tk 1 htmlS 0).Self, .slice (tk 1 htmlS 0).AttrsP (tk 1 htmlS 0).Attrs.length (tk 1 htmlS 0).AttrsC]) hO rfl rfl rfl (by rfl) fun b3 w hO => ?_
  refine K2 (K3 (K0 ?_))
  refine da_region (by intro c a d v w h; cases d <;> exact h) ?_
  have hO := hO.drew
  refine da_phase _ [7] (SO.ks [.b b, .b b3] hO) ?_
  refine dx_u 0 (by kernel_rfl) rfl rfl rfl (fun w => y_move rfl) ?_
  refine dx_u 1 (by kernel_rfl) rfl rfl rfl (fun w => y_nilCheck rfl rfl) ?_
  refine dx_u 2 (by kernel_rfl) rfl rfl rfl (fun w => y_fldb (o' := 0) rfl) ?_
  refine dx_y 3 (by kernel_rfl) rfl rfl rfl (fun w ⟨m, hw⟩ => D5 hw rfl) ?_
  refine dx_u 4 (by kernel_rfl) rfl rfl rfl (fun w => y_fldb (o' := 0) rfl) ?_
  refine dx_u 5 (by kernel_rfl) rfl rfl rfl (fun w => y_fldb (o' := 8) rfl) ?_
  refine dx_y 6 (by kernel_rfl) rfl rfl rfl (fun w ⟨m, hw⟩ => D5 hw rfl) ?_
  refine dx_close 7 (by kernel_rfl) rfl rfl ?_
  refine CK [.o a] hO rfl (fun k' hx hr hO' => Element_spec (sp := 0) (nm := htmlS) (xs := []) (ap := none) (ac := 0) h.pos (by omega) (Sli.nil rfl) (hO := hO')) ?_
  rintro _ _ w ⟨p1, d1, rfl, rfl⟩ hO
  simp only [List.cons_append, List.nil_append] at hO
  rw [el_ok (by decide) (by decide) hA] at hO ⊢
  have g : AddOk A K (elementN p1 d1 0 htmlS []) 0 := addA_ok h.tree h.in0 h.doc ⟨show (1 : Int) ≠ 0 by decide, show (1 : Int) ≠ 5 by decide⟩ (Nat.zero_le _)
  obtain ⟨h2, hf⟩ := h.push g (by decide)
  refine o_done ?_
  refine da_phase _ [] (SO.ks [] hO) ?_
  refine dx_u 8 (by kernel_rfl) rfl rfl rfl (fun w => y_move rfl) ?_
  refine dx_u 9 (by kernel_rfl) rfl rfl rfl (fun w => y_extract rfl rfl) ?_
  refine dx_u 10 (by kernel_rfl) rfl rfl rfl (fun w => y_extract rfl rfl) ?_
  refine dx_u 11 (by kernel_rfl) rfl rfl rfl (fun w => y_assign rfl) ?_
  refine dx_u 12 (by kernel_rfl) rfl rfl rfl (fun w => y_assign rfl) ?_
  refine dx_end (by kernel_rfl) ?_
  refine K3 (K0 ?_)
  refine da_region (by intro c a d v w h; cases d <;> exact h) ?_
  have hO := hO.drew
  refine da_phase _ [6] (SO.ks [.b b] hO) ?_
  refine dx_u 0 (by kernel_rfl) rfl rfl rfl (fun w => y_move rfl) ?_
  refine dx_u 1 (by kernel_rfl) rfl rfl rfl (fun w => y_nilCheck rfl rfl) ?_
  refine dx_u 2 (by kernel_rfl) rfl rfl rfl (fun w => y_fldb (o' := 0) rfl) ?_
  refine dx_y 3 (by kernel_rfl) rfl rfl rfl (fun w ⟨m, hw⟩ => D5 hw rfl) ?_
  refine dx_u 5 (by kernel_rfl) rfl rfl rfl (fun w => y_move rfl) ?_
  refine dx_only 4 (by kernel_rfl) rfl rfl ?_
  refine CK [] hO rfl (fun k' hx hr hO' => b_doc_spec hO') ?_
  rintro _ _ w ⟨rfl, rfl⟩ hO
  simp only [List.cons_append, List.nil_append] at hO
  refine o_done ?_
  refine ⟨SO.ks [.b b] hO, ?_⟩
  refine dx_close 6 (by kernel_rfl) rfl rfl ?_
  refine CK [.o a] hO rfl (fun k' hx hr hO' => Put_spec g.tree (by simp) g.i1 g.i2 g.fr g.pa g.ki g.ab (hO := hO')) ?_
  rintro _ _ w ⟨rfl, rfl⟩ hO
  simp only [List.cons_append, List.nil_append] at hO
  have hO : Own k w (arenaL a (addA A (elementN p1 d1 0 htmlS []) 0) :: _) := hO
  refine o_done ?_
  refine da_end (by kernel_rfl) ?_
  refine K3 (K1 ?_)
  refine l_y rfl rfl (y_move rfl) ?_
  refine l_y rfl rfl (y_nilCheck rfl rfl) ?_
  refine l_y rfl rfl (y_fldb (o' := 1) rfl) ?_
  refine l_y rfl rfl (D5 hO rfl) ?_
  refine l_y rfl rfl (y_move rfl) ?_
  refine CK [.o a, .o s] hO rfl (fun k' hx hr hO' => sPush_spec (by rw [addA_len]; omega) (addA_tree g).attrs hl (hO := hO')) ?_
  rintro _ _ w ⟨rfl, rfl⟩ hO
  simp only [List.cons_append, List.nil_append] at hO
  rw [hf, if_pos rfl] at hO
  refine K2 ?_
  exact fin0 rfl ⟨_, ⟨p1, d1, rfl⟩, hO.only [.b b, .o a, .o s]⟩
end
end Go.Proofs.YtpejdlfkaaiehaaGreatDoor
end
section
set_option linter.unusedVariables false
set_option linter.unusedSimpArgs false
set_option maxRecDepth 100000
namespace Go.Proofs.YtpejdlfkaaiehaaGreatDoor
open Go Go.Hb Go.RowKit
section
variable {k : Ctx} {w : World} {b a s l r : Nat} {q : BQ} {A : List Node_one} {K : Int → List Int} {st : List Int} {ns : List ByteArray} {kd ch : Int} {nm : ByteArray}
set_option maxHeartbeats 2000000 in
/-- a text in an element that has nothing below -/
theorem Chars1_spec {want : Int} {xs : List Int} {p : Option Addr} {c : Nat} (t : Tree A K) (g : AddOk A K (textN (runesBytes xs)) want) (hin : InA A want) (hw0 : want ≠ 0) (hK : K want = []) (hxl : 0 < xs.length) (hxs : (runesBytes xs).size ≤ 1000) (hA : A.length ≤ 30000) (hs : Sli (Ro k) (.slice p xs.length c) (xs.map (eI .i32))) (hO : Own k w [arenaL a A]) :
    Tri Tryz.prog 130 #[.pointer (some ⟨a, 0, none⟩), .agg (Api_spot.cells ⟨want, -1⟩).toArray, .slice p xs.length c] k w fun v m => v = .int .i64 0 ∧ m = [arenaL a (addA A (textN (runesBytes xs)) want)] := by
  refine enter (args := [.pointer (some ⟨a, 0, none⟩), .agg (Api_spot.cells ⟨want, -1⟩).toArray, .slice p xs.length c]) Tryz.func130 rfl rfl ?_
  have ha := t.attrs
  have hn : 0 < A.length := by have := hin.1; have := hin.2; omega
  have hi0 := hin.1
  have hlast : (nodeA A want).Last = -1 := by rw [(t.lnk want hin).last, hK]; rfl
  refine K0 (K1 ?_)
  refine s_box (vs := [.int .i64 (Api_spot.mk want (-1)).Parent, .int .i64 (Api_spot.mk want (-1)).Before]) hO rfl rfl rfl (by rfl) fun b4 w hO => ?_
  refine l_y rfl rfl (y_assign rfl) ?_
  refine K2 (K3 (K0 (K4 (K0 (K1 ?_)))))
  refine l_y rfl rfl (y_move rfl) ?_
  refine CK [.o a] hO rfl (fun k' hx hr hO' => LenC_spec hn (hO := hO')) ?_
  rintro _ _ w ⟨rfl, rfl⟩ hO
  simp only [List.cons_append, List.nil_append] at hO
  refine N3 ?_
  refine l_y rfl rfl (y_assign rfl) ?_
  refine K2 (K3 (L9 (K0 (K1 ?_))))
  refine l_y rfl rfl (y_move rfl) ?_
  refine l_y rfl rfl (y_lenL rfl) ?_
  refine N3 ?_
  refine l_y rfl rfl (y_move rfl) ?_
  refine l_y rfl rfl (y_fldb (o' := 0) rfl) ?_
  refine l_y rfl rfl (D5 hO rfl) ?_
  refine N3 ?_
  refine l_y rfl rfl (y_pick_f rfl rfl) ?_
  refine l_y rfl rfl (y_assign rfl) ?_
  refine K2 (K3 (L9 (K0 (K1 ?_))))
  refine l_y rfl rfl (y_fldb (o' := 0) rfl) ?_
  refine l_y rfl rfl (D5 hO rfl) ?_
  refine N3 ?_
  refine l_y rfl rfl (y_move rfl) ?_
  refine l_y rfl rfl (y_move rfl) ?_
  refine l_y rfl rfl (y_fldb (o' := 0) rfl) ?_
  refine l_y rfl rfl (D5 hO rfl) ?_
  refine l_y rfl rfl (y_fldb (o' := 1) rfl) ?_
  refine l_y rfl rfl (D5 hO rfl) ?_
  refine s_lit (parts := [(0, .tmp 37), (1, .tmp 39)]) (enc := (eI .i64)) [(Api_spot.mk want (-1)).Parent, (Api_spot.mk want (-1)).Before] [.int .i64 (Api_spot.mk want (-1)).Parent, .int .i64 (Api_spot.mk want (-1)).Before] hO rfl (fun b40 w hO => ?_)
  refine CK [.o a] hO rfl (fun k' hx hr hO' => all_spec (ids := [want, -1]) hn (sls_roK (p := (some ⟨b40, 0, none⟩)) hr (sls_fct (p := (some ⟨b40, 0, none⟩)) hO)) (by simp) (hO := hO')) ?_
  rintro _ _ w ⟨rfl, rfl⟩ hO
  simp only [List.cons_append, List.nil_append] at hO
  rw [show allB A [want, -1] = true by simp [allB, hin.b]]
  refine l_y rfl rfl (y_not rfl rfl) ?_
  refine l_y rfl rfl (y_pick_f rfl rfl) ?_
  refine l_y rfl rfl (y_assign rfl) ?_
  refine K2 (K3 (L9 (K5 (K8 (K3 (K0 (K1 ?_)))))))
  refine l_y rfl rfl (y_move rfl) ?_
  refine CK [] hO rfl (fun k' hx hr hO' => UTF8_spec (hs.ext hO hx) (hO := hO')) ?_
  rintro _ _ w ⟨bb, bd, rfl, rfl⟩ hO
  simp only [List.cons_append, List.nil_append] at hO
  refine l_y rfl rfl (y_bysStr (b := bb) hO rfl) ?_
  refine l_y rfl rfl (y_assign rfl) ?_
  refine K2 (K3 (K0 (K1 ?_)))
  refine l_y rfl rfl (y_move rfl) ?_
  refine l_y rfl rfl (y_fldb (o' := 0) rfl) ?_
  refine l_y rfl rfl (D5 hO rfl) ?_
  refine CK [.o a] hO rfl (fun k' hx hr hO' => NodeD_spec hn ha (hO := hO')) ?_
  rintro _ _ w ⟨x8_3, hx8_3, rfl, rfl⟩ hO
  simp only [List.cons_append, List.nil_append] at hO
  refine l_y rfl rfl (y_move rfl) ?_
  refine l_y rfl rfl (y_extract rfl rfl) ?_
  refine l_y rfl rfl (y_extract rfl rfl) ?_
  refine s_alloc (vs := [.int .i64 0, .int .i64 0, .string ⟨#[]⟩, .slice none 0 0, .string ⟨#[]⟩, .string ⟨#[]⟩, .int .i64 0, .int .i64 0, .int .i64 0, .int .i64 0, .int .i64 0, .int .i64 0]) hO rfl rfl rfl fun b8 w hO => ?_
  refine Y3 hO rfl rfl (fun w hO => ?_)
  refine l_y rfl rfl (y_assign rfl) ?_
  refine K2 (K3 (K0 ?_))
  have e8 := (hx8_3.last hin.b).trans hlast
  refine K1 ?_
  refine l_y rfl rfl (y_fldb (o' := 8) rfl) ?_
  refine l_y rfl rfl (D5 hO rfl) ?_
  refine l_y rfl rfl (y_assign rfl) ?_
  refine K2 (K3 (K0 (K0 (K1 ?_))))
  refine l_y rfl rfl (y_move rfl) ?_
  refine l_y rfl rfl (y_fldb (o' := 1) rfl) ?_
  refine l_y rfl rfl (D5 hO rfl) ?_
  refine CK [.o a] hO rfl (fun k' hx hr hO' => NodeD_spec hn ha (hO := hO')) ?_
  rintro _ _ w ⟨x10_3, hx10_3, rfl, rfl⟩ hO
  simp only [List.cons_append, List.nil_append] at hO
  refine l_y rfl rfl (y_move rfl) ?_
  refine l_y rfl rfl (y_extract rfl rfl) ?_
  refine l_y rfl rfl (y_extract rfl rfl) ?_
  refine s_alloc (vs := [.int .i64 0, .int .i64 0, .string ⟨#[]⟩, .slice none 0 0, .string ⟨#[]⟩, .string ⟨#[]⟩, .int .i64 0, .int .i64 0, .int .i64 0, .int .i64 0, .int .i64 0, .int .i64 0]) hO rfl rfl rfl fun b11 w hO => ?_
  refine Y3 hO rfl rfl (fun w hO => ?_)
  refine l_y rfl rfl (y_assign rfl) ?_
  refine K2 (K3 (K0 (K1 ?_)))
  refine l_y rfl rfl (y_move rfl) ?_
  refine N3 (hp := (by simp [errN, hasB])) ?_
  refine l_y rfl rfl (y_move rfl) ?_
  repeat refine M2 ?_
  refine l_y rfl rfl (y_pick_f rfl rfl) ?_
  refine K2 (K3 (L9 (K5 (K3 (K0 (K0 (K1 ?_)))))))
  refine l_y rfl rfl (y_move rfl) ?_
  refine l_y rfl rfl (y_move rfl) ?_
  refine CK [.o a] hO rfl (fun k' hx hr hO' => NodeD_spec hn ha (hO := hO')) ?_
  rintro _ _ w ⟨x13_2, hx13_2, rfl, rfl⟩ hO
  simp only [List.cons_append, List.nil_append] at hO
  refine l_y rfl rfl (y_move rfl) ?_
  refine l_y rfl rfl (y_extract rfl rfl) ?_
  refine l_y rfl rfl (y_extract rfl rfl) ?_
  refine s_alloc (vs := [.int .i64 0, .int .i64 0, .string ⟨#[]⟩, .slice none 0 0, .string ⟨#[]⟩, .string ⟨#[]⟩, .int .i64 0, .int .i64 0, .int .i64 0, .int .i64 0, .int .i64 0, .int .i64 0]) hO rfl rfl rfl fun b13 w hO => ?_
  refine Y3 hO rfl rfl (fun w hO => ?_)
  refine l_y rfl rfl (y_assign rfl) ?_
  refine K2 (K3 (K0 (K1 ?_)))
  refine l_y rfl rfl (y_move rfl) ?_
  refine N3 (hp := (by rw [e8]; simp [errN, hasB])) ?_
  refine l_y rfl rfl (y_move rfl) ?_
  repeat refine M2 ?_
  refine l_y rfl rfl (y_pick_f rfl rfl) ?_
  refine K2 (K3 (L9 (K5 (K3 (K0 (K1 ?_))))))
  refine l_y rfl rfl (y_move rfl) ?_
  refine l_y rfl rfl (y_move rfl) ?_
  refine CK [.o a] hO rfl (fun k' hx hr hO' => Text_spec hn (by omega) (hO := hO')) ?_
  rintro _ _ w ⟨rfl, rfl⟩ hO
  simp only [List.cons_append, List.nil_append] at hO
  rw [txt_ok hxs hA] at hO ⊢
  refine l_y rfl rfl (y_move rfl) ?_
  refine l_y rfl rfl (y_extract rfl rfl) ?_
  refine l_y rfl rfl (y_extract rfl rfl) ?_
  refine l_y rfl rfl (y_assign rfl) ?_
  refine l_y rfl rfl (y_assign rfl) ?_
  refine K2 (K3 (K0 (K0 (K1 ?_))))
  refine l_y rfl rfl (y_move rfl) ?_
  refine N4 (hp := (by rfl)) ?_
  refine K2 (K3 (L9 (K5 (K3 (K0 (K1 ?_))))))
  refine l_y rfl rfl (y_move rfl) ?_
  refine l_y rfl rfl (D8 (cs := [.int .i64 (Api_spot.mk want (-1)).Parent, .int .i64 (Api_spot.mk want (-1)).Before]) hO rfl) ?_
  refine l_y rfl rfl (y_move rfl) ?_
  refine CK [.o a] hO rfl (fun k' hx hr hO' => Put_spec g.tree (by simp) g.i1 g.i2 g.fr g.pa g.ki g.ab (hO := hO')) ?_
  rintro _ _ w ⟨rfl, rfl⟩ hO
  simp only [List.cons_append, List.nil_append] at hO
  have hO : Own k w (arenaL a (addA A (textN (runesBytes xs)) want) :: _) := hO
  refine l_y rfl rfl (y_assign rfl) ?_
  refine K2 (K3 (K6 ?_))
  exact fin1 rfl rfl ⟨_, ⟨rfl, rfl⟩, hO.only [.o a]⟩
theorem b_char_spec (h : BI A K st ns) (hne : st ≠ []) (hK : K (topI st) = []) (hw0 : topI st ≠ 0) (hxs : (runesBytes [ch]).size ≤ 1000) (hA : A.length ≤ 30000) (hO : Own k w [blk b 65 (bC a s l r q), arenaL a A, stkL s a st]) :
    Tri Tryz.prog 66 #[.pointer (some ⟨b, 0, none⟩), .int .i32 ch] k w fun v m => v = .bool false ∧ m = [blk b 65 (bC a s l r q), arenaL a (addA A (textN (runesBytes [ch])) (topI st)), stkL s a st] := by
  refine enter (args := [.pointer (some ⟨b, 0, none⟩), .int .i32 ch]) Tryz.func66 rfl rfl ?_
  have hl : st.length ≤ 1000000 := by have := h.len_st; omega
  have g : AddOk A K (textN (runesBytes [ch])) (topI st) := h.addOk hne ⟨show (2 : Int) ≠ 0 by decide, show (2 : Int) ≠ 5 by decide⟩ (Nat.zero_le _)
  refine K0 (K1 ?_)
  refine l_y rfl rfl (y_assign rfl) ?_
  refine K2 (K3 (K0 ?_))
  refine da_region (by intro c a d v w h; cases d <;> exact h) ?_
  have hO := hO.drew
  refine da_phase _ [8] (SO.ks [.b b] hO) ?_
  refine dx_u 0 (by kernel_rfl) rfl rfl rfl (fun w => y_move rfl) ?_
  refine dx_u 1 (by kernel_rfl) rfl rfl rfl (fun w => y_nilCheck rfl rfl) ?_
  refine dx_u 2 (by kernel_rfl) rfl rfl rfl (fun w => y_fldb (o' := 0) rfl) ?_
  refine dx_y 3 (by kernel_rfl) rfl rfl rfl (fun w ⟨m, hw⟩ => D5 hw rfl) ?_
  refine dx_u 4 (by kernel_rfl) rfl rfl rfl (fun w => y_move rfl) ?_
  refine dx_u 6 (by kernel_rfl) rfl rfl rfl (fun w => y_move rfl) ?_
  refine dx_two 5 7 (by kernel_rfl) rfl rfl rfl rfl ?_ ?_
  · refine CK [.b b, .o a, .o s] hO rfl (fun k' hx hr hO' => b_spot_spec h hne hl hO') ?_
    rintro _ _ w ⟨rfl, rfl⟩ hO
    simp only [List.cons_append, List.nil_append] at hO
    refine o_done ?_
    refine ⟨SO.ks [.b b] hO, ?_⟩
    refine dx_only 7 (by kernel_rfl) rfl rfl ?_
    refine s_lit (parts := [(0, .tmp 11)]) (enc := (eI .i32)) [ch] [.int .i32 ch] hO rfl (fun b12 w hO => ?_)
    refine o_done ?_
    refine ⟨SO.ks [.b b] hO, ?_⟩
    refine dx_close 8 (by kernel_rfl) rfl rfl ?_
    refine CK [.o a] hO rfl (fun k' hx hr hO' => Chars1_spec (xs := [ch]) h.tree g (elB_in (h.top hne).1) hw0 hK (by simp) hxs hA (sls_roK (p := (some ⟨b12, 0, none⟩)) hr (sls_fct (p := (some ⟨b12, 0, none⟩)) hO)) (hO := hO')) ?_
    rintro _ _ w ⟨rfl, rfl⟩ hO
    simp only [List.cons_append, List.nil_append] at hO
    refine o_done ?_
    refine da_end (by kernel_rfl) ?_
    refine K3 (K0 (K1 ?_))
    refine l_y rfl rfl (y_assign rfl) ?_
    refine K2 (K3 (K6 ?_))
    exact fin1 rfl rfl ⟨_, ⟨rfl, rfl⟩, hO.only [.b b, .o a, .o s]⟩
  · refine s_lit (parts := [(0, .tmp 11)]) (enc := (eI .i32)) [ch] [.int .i32 ch] hO rfl (fun b12 w hO => ?_)
    refine o_done ?_
    refine ⟨SO.ks [.b b] hO, ?_⟩
    refine dx_only 5 (by kernel_rfl) rfl rfl ?_
    refine CK [.b b, .o a, .o s] hO rfl (fun k' hx hr hO' => b_spot_spec h hne hl hO') ?_
    rintro _ _ w ⟨rfl, rfl⟩ hO
    simp only [List.cons_append, List.nil_append] at hO
    refine o_done ?_
    refine ⟨SO.ks [.b b] hO, ?_⟩
    refine dx_close 8 (by kernel_rfl) rfl rfl ?_
    refine CK [.o a] hO rfl (fun k' hx hr hO' => Chars1_spec (xs := [ch]) h.tree g (elB_in (h.top hne).1) hw0 hK (by simp) hxs hA (sls_roK (p := (some ⟨b12, 0, none⟩)) hr (sls_fct (p := (some ⟨b12, 0, none⟩)) hO)) (hO := hO')) ?_
    rintro _ _ w ⟨rfl, rfl⟩ hO
    simp only [List.cons_append, List.nil_append] at hO
    refine o_done ?_
    refine da_end (by kernel_rfl) ?_
    refine K3 (K0 (K1 ?_))
    refine l_y rfl rfl (y_assign rfl) ?_
    refine K2 (K3 (K6 ?_))
    exact fin1 rfl rfl ⟨_, ⟨rfl, rfl⟩, hO.only [.b b, .o a, .o s]⟩
theorem b_native_spec (h : BI A K st ns) (hl : st.length ≤ 1000000) (hO : Own k w [blk b 65 (bC a s l r q), arenaL a A, stkL s a st]) :
    Tri Tryz.prog 24 #[.pointer (some ⟨b, 0, none⟩), .agg (Api_token.cells (tk kd nm ch)).toArray] k w fun v m => v = .bool true ∧ m = [blk b 65 (bC a s l r q), arenaL a A, stkL s a st] := by
  refine enter (args := [.pointer (some ⟨b, 0, none⟩), .agg (Api_token.cells (tk kd nm ch)).toArray]) Tryz.func24 rfl rfl ?_
  refine K0 (K1 ?_)
  refine s_box (vs := [.int .i64 (tk kd nm ch).Kind, .string (tk kd nm ch).Name, .string (tk kd nm ch).Data, .string (tk kd nm ch).System, .int .i64 (tk kd nm ch).Has, .bool (tk kd nm ch).Quirks, .int .i32 (tk kd nm ch).Char, .bool (tk kd nm ch).Self, .slice (tk kd nm ch).AttrsP (tk kd nm ch).Attrs.length (tk kd nm ch).AttrsC]) hO rfl rfl rfl (by rfl) fun b3 w hO => ?_
  refine l_y rfl rfl (y_assign rfl) ?_
  refine K2 (K3 (K0 (K0 (K1 ?_))))
  refine l_y rfl rfl (y_move rfl) ?_
  refine l_y rfl rfl (y_nilCheck rfl rfl) ?_
  refine l_y rfl rfl (y_fldb (o' := 1) rfl) ?_
  refine l_y rfl rfl (D5 hO rfl) ?_
  refine CK [.o s] hO rfl (fun k' hx hr hO' => sLenC_spec hO') ?_
  rintro _ _ w ⟨rfl, rfl⟩ hO
  simp only [List.cons_append, List.nil_append] at hO
  refine Z0 (fun h1_5 => ?_) (fun h1_5 => ?_)
  · refine l_y rfl rfl (y_move rfl) ?_
    repeat refine M2 ?_
    refine l_y rfl rfl (y_pick_t rfl rfl) ?_
    refine K2 (K3 (L8 (K0 (K1 ?_))))
    refine l_y rfl rfl (y_assign rfl) ?_
    refine K2 (K3 (K6 (K9 ?_)))
    exact fin1 rfl rfl ⟨_, ⟨rfl, rfl⟩, hO.only [.b b, .o a, .o s]⟩
  · refine l_y rfl rfl (y_move rfl) ?_
    refine l_y rfl rfl (D8 (cs := [.int .i64 (tk kd nm ch).Kind, .string (tk kd nm ch).Name, .string (tk kd nm ch).Data, .string (tk kd nm ch).System, .int .i64 (tk kd nm ch).Has, .bool (tk kd nm ch).Quirks, .int .i32 (tk kd nm ch).Char, .bool (tk kd nm ch).Self, .slice (tk kd nm ch).AttrsP (tk kd nm ch).Attrs.length (tk kd nm ch).AttrsC]) hO rfl) ?_
    refine CK [] hO rfl (fun k' hx hr hO' => t_is_spec (kd := kd) (nm := nm) (ch := ch) (b := decide (kd = 5)) rfl (hO := hO')) ?_
    rintro _ _ w ⟨rfl, rfl⟩ hO
    simp only [List.cons_append, List.nil_append] at hO
    refine l_y rfl rfl (y_pick_f rfl rfl) ?_
    refine K2 (K3 ?_)
    refine c_split rfl (fun hc17 => ?_) (fun hc17 => ?_)
    · refine K0 (K1 ?_)
      refine l_y rfl rfl (y_assign rfl) ?_
      refine K2 (K3 (K6 (K9 ?_)))
      exact fin1 rfl rfl ⟨_, ⟨rfl, rfl⟩, hO.only [.b b, .o a, .o s]⟩
    · refine K5 (K3 (K0 (K1 ?_)))
      refine l_y rfl rfl (y_move rfl) ?_
      refine l_y rfl rfl (y_move rfl) ?_
      refine CK [.b b, .o s] hO rfl (fun k' hx hr hO' => b_adjusted_spec hl hO') ?_
      rintro _ _ w ⟨rfl, rfl⟩ hO
      simp only [List.cons_append, List.nil_append] at hO
      refine CK [.b b, .o a] hO rfl (fun k' hx hr hO' => b_look_spec h.pos h.tree.attrs hO') ?_
      rintro _ _ w ⟨n, hnv, rfl, rfl⟩ hO
      simp only [List.cons_append, List.nil_append] at hO
      have hne : st ≠ [] := by rintro rfl; exact h1_5 rfl
      have ht := h.top hne
      have hsp : n.Space = 0 := (hnv.space (elB_has ht.1)).trans ht.2.2.1
      refine s_alloc (vs := [.int .i64 0, .int .i64 0, .string ⟨#[]⟩, .slice none 0 0, .string ⟨#[]⟩, .string ⟨#[]⟩, .int .i64 0, .int .i64 0, .int .i64 0, .int .i64 0, .int .i64 0, .int .i64 0]) hO rfl rfl rfl fun b5 w hO => ?_
      refine Y3 hO rfl rfl (fun w hO => ?_)
      refine K2 (K3 (K0 ?_))
      refine da_region (by intro c a d v w h; cases d <;> exact h) ?_
      have hO := hO.drew
      refine da_phase _ [3] (SO.ks [.b b3] hO) ?_
      refine dx_y 0 (by kernel_rfl) rfl rfl rfl (fun w ⟨m, hw⟩ => D8 (cs := [.int .i64 (tk kd nm ch).Kind, .string (tk kd nm ch).Name, .string (tk kd nm ch).Data, .string (tk kd nm ch).System, .int .i64 (tk kd nm ch).Has, .bool (tk kd nm ch).Quirks, .int .i32 (tk kd nm ch).Char, .bool (tk kd nm ch).Self, .slice (tk kd nm ch).AttrsP (tk kd nm ch).Attrs.length (tk kd nm ch).AttrsC]) hw rfl) ?_
      refine dx_y 2 (by kernel_rfl) rfl rfl rfl (fun w ⟨m, hw⟩ => D8 (cs := [.int .i64 (tk kd nm ch).Kind, .string (tk kd nm ch).Name, .string (tk kd nm ch).Data, .string (tk kd nm ch).System, .int .i64 (tk kd nm ch).Has, .bool (tk kd nm ch).Quirks, .int .i32 (tk kd nm ch).Char, .bool (tk kd nm ch).Self, .slice (tk kd nm ch).AttrsP (tk kd nm ch).Attrs.length (tk kd nm ch).AttrsC]) hw rfl) ?_
      refine dx_only 1 (by kernel_rfl) rfl rfl ?_
      refine CK [] hO rfl (fun k' hx hr hO' => t_is_spec (kd := kd) (nm := nm) (ch := ch) (b := decide (kd = 4)) rfl (hO := hO')) ?_
      rintro _ _ w ⟨rfl, rfl⟩ hO
      simp only [List.cons_append, List.nil_append] at hO
      refine o_done ?_
      refine ⟨SO.ks [.b b3] hO, ?_⟩
      refine dx_close 3 (by kernel_rfl) rfl rfl ?_
      refine CK [] hO rfl (fun k' hx hr hO' => t_is_spec (kd := kd) (nm := nm) (ch := ch) (b := decide (kd = 1)) rfl (hO := hO')) ?_
      rintro _ _ w ⟨rfl, rfl⟩ hO
      simp only [List.cons_append, List.nil_append] at hO
      refine o_done ?_
      refine da_phase _ [] (SO.ks [] hO) ?_
      refine dx_u 4 (by kernel_rfl) rfl rfl rfl (fun w => y_assign rfl) ?_
      refine dx_u 5 (by kernel_rfl) rfl rfl rfl (fun w => y_assign rfl) ?_
      refine dx_end (by kernel_rfl) ?_
      refine K3 (K0 (K4 (K0 (K1 ?_))))
      refine l_y rfl rfl (y_fldb (o' := 1) rfl) ?_
      refine l_y rfl rfl (D5 hO rfl) ?_
      refine N2 (hp := hsp) ?_
      refine l_y rfl rfl (y_assign rfl) ?_
      refine K2 (K3 (L8 (K0 (K1 ?_))))
      refine l_y rfl rfl (y_assign rfl) ?_
      refine K2 (K3 (K6 (L0 (K9 ?_))))
      exact fin1 rfl rfl ⟨_, ⟨rfl, rfl⟩, hO.only [.b b, .o a, .o s]⟩
theorem b_in_spec {names : ByteArray} {kind : Int} {bb : Bool} (hn : 0 < A.length) (ha : AttrsOk A) (hel : AllEl A st) (hl : st.length ≤ 1000000) (hs : names.size < 1000000) (hb : ((wordsB names).any fun x => scopeL A (namA A [x]) kind st) = bb) (hO : Own k w [blk b 65 (bC a s l r q), arenaL a A, stkL s a st]) :
    Tri Tryz.prog 119 #[.pointer (some ⟨b, 0, none⟩), .string names, .int .i64 kind] k w fun v m => v = .bool bb ∧ m = [blk b 65 (bC a s l r q), arenaL a A, stkL s a st] := by
  refine enter (args := [.pointer (some ⟨b, 0, none⟩), .string names, .int .i64 kind]) Tryz.func119 rfl rfl ?_
  have hlen : (wordsB names).length = Lib.countB names blankS + 1 := Lib.splitB_all blankS (by decide) 0 _ names rfl
  have hle := Lib.countB_le blankS (by decide) names.size names (Nat.le_refl _)
  refine K0 (K1 ?_)
  refine l_y rfl rfl (y_assign rfl) ?_
  refine K2 (K3 (K0 (K0 (K1 ?_))))
  refine l_y rfl rfl (y_move rfl) ?_
  refine CK [] hO rfl (fun k' hx hr hO' => words_spec (by omega) hO') ?_
  rintro _ _ w ⟨x, rfl, rfl⟩ hO
  simp only [List.cons_append, List.nil_append] at hO
  have hgs : Gs (some ⟨x, 0, none⟩) (wordsB names).length := .some _ _ _
  refine l_y rfl rfl (y_lenL rfl) ?_
  refine l_y rfl rfl (y_move rfl) ?_
  refine K2 (K3 (K4 ?_))
  refine c_rounds (X := Nat) (fun i => [(0, .pointer (some ⟨b, 0, none⟩)), (2, .int .i64 kind), (6, .bool false), (10, .slice (some ⟨x, 0, none⟩) (wordsB names).length (wordsB names).length), (11, .int .i64 (((wordsB names).length : Nat) : Int)), (12, .int .i64 (i : Int))]) (fun i w => Own k w [sls (some ⟨x, 0, none⟩) (wordsB names).length 9 1 eS (wordsB names), blk b 65 (bC a s l r q), arenaL a A, stkL s a st] ∧ (i ≤ (wordsB names).length) ∧ (∀ j, j < i → scopeL A (namA A [at_ (wordsB names) j]) kind st = false)) (fun i => (wordsB names).length - i) (0) ⟨rfl, rfl, rfl, rfl, rfl, rfl, trivial⟩ ⟨hO.only [.p (some ⟨x, 0, none⟩), .b b, .o a, .o s], Nat.zero_le _, fun j hj => absurd hj (Nat.not_lt_zero j)⟩ ?_
  rintro i w m hm ⟨hO, hi, hT⟩
  refine K0 (K1 ?_)
  refine Z0 (fun h2_0 => ?_) (fun h2_0 => ?_)
  · refine K2 (K3 (K0 (L8 (K5 (K3 (K0 (K4 (K0 (K1 ?_)))))))))
    refine l_y rfl rfl (y_idx rfl rfl) ?_
    refine l_y rfl rfl (y_e1 (x0 := 0) hO rfl) ?_
    refine l_y rfl rfl (y_assign rfl) ?_
    refine K2 (K3 (K0 (K1 ?_)))
    refine l_y rfl rfl (y_move rfl) ?_
    refine l_y rfl rfl (y_nilCheck rfl rfl) ?_
    refine l_y rfl rfl (y_fldb (o' := 1) rfl) ?_
    refine l_y rfl rfl (D5 hO rfl) ?_
    refine l_y rfl rfl (y_move rfl) ?_
    refine l_y rfl rfl (y_move rfl) ?_
    refine CK [.o a, .o s] hO rfl (fun k' hx hr hO' => sScope_spec (name := at_ (wordsB names) ((i : Nat) : Int).toNat) hn ha hel hl hO') ?_
    rintro _ _ w ⟨rfl, rfl⟩ hO
    simp only [List.cons_append, List.nil_append] at hO
    refine K2 (K3 ?_)
    refine c_split rfl (fun hc22 => ?_) (fun hc22 => ?_)
    · refine K0 (K1 ?_)
      refine l_y rfl rfl (y_assign rfl) ?_
      refine K2 (K3 (K6 (L0 (K9 (K9 (L0 (K9 ?_)))))))
      have ht : ((wordsB names).any fun x => scopeL A (namA A [x]) kind st) = true := List.any_eq_true.2 ⟨_, at_mem (xs := wordsB names) (i := i) (by omega), hc22⟩
      exact fin1 rfl rfl ⟨_, ⟨by rw [← hb, ht], rfl⟩, hO.only [.b b, .o a, .o s]⟩
    · refine K5 (K8 (K3 (K1 ?_)))
      refine l_y rfl rfl (D4) ?_
      refine l_y rfl rfl (y_move rfl) ?_
      refine K2 ?_
      exact q_next (i + 1) ⟨rfl, rfl, rfl, rfl, rfl, rfl, trivial⟩ ⟨hO.only [.p (some ⟨x, 0, none⟩), .b b, .o a, .o s], by omega, (fun j hj => by by_cases e : j < i; (exact hT j e); (have e2 : j = i := by omega); subst e2; exact hc22)⟩ (by omega)
  · refine K2 (K3 (K0 (L9 (K7 (L1 (L1 (L2 (K3 (K0 (K1 ?_))))))))))
    refine l_y rfl rfl (y_assign rfl) ?_
    refine K2 (K3 (K6 ?_))
    have hf : ((wordsB names).any fun x => scopeL A (namA A [x]) kind st) = false := List.any_eq_false.2 fun y hy => by
      obtain ⟨j, hj, rfl⟩ := mem_at hy
      simp [hT j (by omega)]
    exact fin1 rfl rfl ⟨_, ⟨by rw [← hb, hf], rfl⟩, hO.only [.b b, .o a, .o s]⟩
end
end Go.Proofs.YtpejdlfkaaiehaaGreatDoor
end
section
set_option linter.unusedVariables false
set_option linter.unusedSimpArgs false
set_option maxRecDepth 100000
namespace Go.Hb
open Go Go.RowKit
def entsV (kk : IntKind) (l : List (Int × Value)) : Array MapEntry := (l.zipIdx.map fun x => ({ key := .int kk x.1.1, val := x.1.2, born := x.2 } : MapEntry)).toArray
abbrev mpV (b : Nat) (kk : IntKind) (l : List (Int × Value)) : HP := obj b (.map (entsV kk l) l.length)
def lookV (l : List (Int × Value)) (n : Int) : Option Value := (l.find? fun p => p.1 == n).map (·.2)
theorem entsV_snoc (kk : IntKind) (l : List (Int × Value)) (a : Int) (v : Value) : (entsV kk l).push { key := .int kk a, val := v, born := l.length } = entsV kk (l ++ [(a, v)]) := by
  apply Array.ext'
  simp [entsV, List.zipIdx_append]
theorem findNow_entsV {kk : IntKind} {n : Int} : ∀ (l : List (Int × Value)) (i j : Nat),
    (lookV l n = none → Instr.findNow (.int kk) (.int kk n) ((l.zipIdx j).map fun x => ({ key := .int kk x.1.1, val := x.1.2, born := x.2 } : MapEntry)) i = some none) ∧
    ∀ v, lookV l n = some v → ∃ q, Instr.findNow (.int kk) (.int kk n) ((l.zipIdx j).map fun x => ({ key := .int kk x.1.1, val := x.1.2, born := x.2 } : MapEntry)) i = some (some (q, v))
  | [], i, j => ⟨fun _ => rfl, fun v h => by simp [lookV] at h⟩
  | (a, u) :: l, i, j => by
    have ih := findNow_entsV (kk := kk) (n := n) l (i + 1) (j + 1)
    by_cases h : a = n
    · subst h
      refine ⟨fun h => by simp [lookV] at h, fun v hv => ⟨i, ?_⟩⟩
      simp [lookV] at hv
      subst hv
      simp [Instr.findNow, Instr.sameNow]
    · have e : lookV ((a, u) :: l) n = lookV l n := by simp [lookV, h]
      rw [e]
      have e2 : ((n == a) : Bool) = false := by simp; exact fun e => h e.symm
      simp only [List.zipIdx_cons, List.map_cons, Instr.findNow, Instr.sameNow, if_true, e2]
      exact ih
section
variable {P : Program} {ops : Array Oper} {Q : Exit → Act → World → Prop} {n : Nat} {ds : List Deferred} {E : Env} {w : World} {k : Ctx} {l rl : List HP}
variable {rest : List Oper} {d : Option Tmp} {ty : TypeId} {pos : String} {aft : Array Edge} {g : Option (Nat × Bool)}
theorem s_makeMapV {t : TypeId} (kk : IntKind) (hO : Own k w l) (h : ∀ b w', Own k w' (mpV b kk [] :: l) → LW P ops Q n ds rest (E.put d (.map (some b))) w')
    (hg : gd ops E g = some true := by rfl) (hd : dok n d = true := by rfl) : LW P ops Q n ds (⟨d, .makeMap t none, ty, pos, aft, g⟩ :: rest) E w :=
  l_val (o := ⟨d, .makeMap t none, ty, pos, aft, g⟩) (w' := w.alloc (.map #[] 0)) hg hd (fun c hc => by simp [execOp, Instr.makeMap]) (h _ _ (hO.obj_alloc _))
theorem s_insertV {t kt et : TypeId} {kk : IntKind} {b : Nat} {L : List (Int × Value)} {a : Int} {v : Value} [hu : Und P t (.map kt et)] [hk : Und P kt (.int kk)] {x y z : Operand} (L' : List (Int × Value)) (hO : Own k w (mpV b kk L :: l)) (hx : ev E x = some (.map (some b))) (hy : ev E y = some (.int kk a)) (hz : ev E z = some (v))
    (hn : lookV L a = none) (hL : L' = L ++ [(a, v)]) (h : ∀ w', Own k w' (mpV b kk L' :: l) → LW P ops Q n ds rest (E.put d undef) w')
    (hg : gd ops E g = some true := by rfl) (hd : dok n d = true := by rfl) : LW P ops Q n ds (⟨d, .insert t x y z, ty, pos, aft, g⟩ :: rest) E w := by
  subst hL
  have hf : Instr.findNow (.int kk) (.int kk a) (entsV kk L).toList 0 = some none := by
    rw [entsV]; exact (findNow_entsV (kk := kk) L 0 0).1 hn
  have hb : w.heap[b]? = some (.map (entsV kk L) L.length) := hO.heap fun hp hA h => (h b _ hA).2
  have hck := MapKept.run_checkKey (P := P) (w := w) (k := .int kk a) hk.eq (by simp [MapKept.IsKey]) false 9999
  have hfk := MapKept.run_findKey (P := P) (w := w) hk.eq hf
  have hr : (Instr.mapUpdate t (.map (some b)) (.int kk a) (v)).run P w = .ok () { w with heap := w.heap.setIfInBounds b (.map (entsV kk (L ++ [(a, v)])) (L.length + 1)) } := by
    have := MapKept.run_getObj_map (P := P) hb
    have h2 := MapKept.run_setObj_map (P := P) (.map (entsV kk (L ++ [(a, v)])) (L.length + 1)) hb
    simp [Instr.mapUpdate, run_underlying hu.eq, this, hck, hfk, Result.andThen, entsV_snoc, h2]
  have hO' := hO.write (w' := { w with heap := w.heap.setIfInBounds b (.map (entsV kk (L ++ [(a, v)])) (L.length + 1)) }) (b := b) (A' := mpV b kk (L ++ [(a, v)])) (.hd _ _ l) (fun h hA => ⟨_, hA⟩) hb (MapKept.heap_set hb).1 ⟨rfl, rfl, rfl, by simp, fun c hc => (MapKept.heap_set hb).2 c hc⟩
    (fun h hA hb2 => by simp [mpV, obj])
  exact l_unit (o := ⟨d, .insert t x y z, ty, pos, aft, g⟩) hg hd (fun c hc => by simp [execOp, hc.eval hx, hc.eval hy, hc.eval hz, hr]) (h _ hO')
theorem y_lookV {t kt et : TypeId} {kk : IntKind} {b : Nat} {L : List (Int × Value)} {a : Int} {v : Value} [hu : Und P t (.map kt et)] [hk : Und P kt (.int kk)] {x y : Operand} [hm : AtK l (.o b) (mpV b kk L) rl] (hO : Own k w l) (hx : ev E x = some (.map (some b))) (hy : ev E y = some (.int kk a)) (hl : lookV L a = some v) :
    Yld P n ds E w ⟨d, .lookup t x y false, ty, pos, aft, g⟩ v := by
  have hO := hO.pull hm.pull
  have hb : w.heap[b]? = some (.map (entsV kk L) L.length) := hO.heap fun hp hA h => (h b _ hA).2
  have hgo := MapKept.run_getObj_map (P := P) hb
  have hck := MapKept.run_checkKey (P := P) (w := w) (k := .int kk a) hk.eq (by simp [MapKept.IsKey]) (entsV kk L).isEmpty 9999
  have hs := findNow_entsV (kk := kk) (n := a) L 0 0
  constructor
  intro c hc
  obtain ⟨q, hq⟩ := hs.2 v hl
  have hfk := MapKept.run_findKey (P := P) (w := w) (l := (entsV kk L).toList) hk.eq hq
  simp [execOp, hc.eval hx, hc.eval hy, Instr.lookup, run_underlying hu.eq, hgo, hck, hfk]
end
end Go.Hb
namespace Go.Proofs.YtpejdlfkaaiehaaGreatDoor
open Go Go.Hb Go.RowKit
/-- names, and what is done with them -/
structure Grp where
  names : ByteArray
  f : FuncId
instance : Inhabited Grp := ⟨⟨⟨#[]⟩, 0⟩⟩
def Grp.cells (x : Grp) : List Value := [.string x.names, .func (.func x.f) #[] #[]]
instance : OneC Grp.cells 2 := ⟨fun _ => rfl, fun a v hv => by
  have h : (Grp.cells a).all (·.oneCell') = true := rfl
  exact List.all_eq_true.1 h v hv⟩
section
variable {k : Ctx} {w : World}
def startsL : List Grp := [⟨⟨#[98, 97, 115, 101, 32, 98, 97, 115, 101, 102, 111, 110, 116, 32, 98, 103, 115, 111, 117, 110, 100, 32, 108, 105, 110, 107, 32, 109, 101, 116, 97, 32, 110, 111, 102, 114, 97, 109, 101, 115, 32, 115, 99, 114, 105, 112, 116, 32, 115, 116, 121, 108, 101, 32, 116, 101, 109, 112, 108, 97, 116, 101, 32, 116, 105, 116, 108, 101]⟩, 45⟩, ⟨⟨#[104, 116, 109, 108, 32, 98, 111, 100, 121, 32, 102, 114, 97, 109, 101, 115, 101, 116]⟩, 157⟩, ⟨⟨#[97, 100, 100, 114, 101, 115, 115, 32, 97, 114, 116, 105, 99, 108, 101, 32, 97, 115, 105, 100, 101, 32, 98, 108, 111, 99, 107, 113, 117, 111, 116, 101, 32, 99, 101, 110, 116, 101, 114, 32, 100, 101, 116, 97, 105, 108, 115, 32, 100, 105, 97, 108, 111, 103, 32, 100, 105, 114, 32, 100, 105, 118, 32, 100, 108, 32, 102, 105, 101, 108, 100, 115, 101, 116, 32, 102, 105, 103, 99, 97, 112, 116, 105, 111, 110, 32, 102, 105, 103, 117, 114, 101, 32, 102, 111, 111, 116, 101, 114, 32, 104, 101, 97, 100, 101, 114, 32, 104, 103, 114, 111, 117, 112, 32, 109, 97, 105, 110, 32, 109, 101, 110, 117, 32, 110, 97, 118, 32, 111, 108, 32, 112, 32, 115, 101, 97, 114, 99, 104, 32, 115, 101, 99, 116, 105, 111, 110, 32, 115, 117, 109, 109, 97, 114, 121, 32, 117, 108]⟩, 158⟩, ⟨⟨#[104, 49, 32, 104, 50, 32, 104, 51, 32, 104, 52, 32, 104, 53, 32, 104, 54, 32, 112, 114, 101, 32, 108, 105, 115, 116, 105, 110, 103, 32, 102, 111, 114, 109, 32, 108, 105, 32, 100, 100, 32, 100, 116, 32, 112, 108, 97, 105, 110, 116, 101, 120, 116, 32, 98, 117, 116, 116, 111, 110]⟩, 159⟩, ⟨⟨#[97, 32, 98, 32, 98, 105, 103, 32, 99, 111, 100, 101, 32, 101, 109, 32, 102, 111, 110, 116, 32, 105, 32, 110, 111, 98, 114, 32, 115, 32, 115, 109, 97, 108, 108, 32, 115, 116, 114, 105, 107, 101, 32, 115, 116, 114, 111, 110, 103, 32, 116, 116, 32, 117]⟩, 160⟩, ⟨⟨#[97, 112, 112, 108, 101, 116, 32, 109, 97, 114, 113, 117, 101, 101, 32, 111, 98, 106, 101, 99, 116, 32, 116, 97, 98, 108, 101]⟩, 161⟩, ⟨⟨#[97, 114, 101, 97, 32, 98, 114, 32, 101, 109, 98, 101, 100, 32, 105, 109, 103, 32, 107, 101, 121, 103, 101, 110, 32, 119, 98, 114, 32, 105, 110, 112, 117, 116, 32, 112, 97, 114, 97, 109, 32, 115, 111, 117, 114, 99, 101, 32, 116, 114, 97, 99, 107, 32, 104, 114, 32, 105, 109, 97, 103, 101]⟩, 162⟩, ⟨⟨#[116, 101, 120, 116, 97, 114, 101, 97, 32, 120, 109, 112, 32, 105, 102, 114, 97, 109, 101, 32, 110, 111, 101, 109, 98, 101, 100, 32, 115, 101, 108, 101, 99, 116]⟩, 163⟩, ⟨⟨#[111, 112, 116, 103, 114, 111, 117, 112, 32, 111, 112, 116, 105, 111, 110, 32, 114, 98, 32, 114, 116, 99, 32, 114, 112, 32, 114, 116, 32, 109, 97, 116, 104, 32, 115, 118, 103]⟩, 164⟩, ⟨⟨#[99, 97, 112, 116, 105, 111, 110, 32, 99, 111, 108, 32, 99, 111, 108, 103, 114, 111, 117, 112, 32, 102, 114, 97, 109, 101, 32, 104, 101, 97, 100, 32, 116, 98, 111, 100, 121, 32, 116, 100, 32, 116, 102, 111, 111, 116, 32, 116, 104, 32, 116, 104, 101, 97, 100, 32, 116, 114]⟩, 165⟩]
theorem starts_spec (hO : Own k w []) : Tri Tryz.prog 106 #[] k w fun v m => ∃ b, v = .slice (some ⟨b, 0, none⟩) 10 10 ∧ m = [sls (some ⟨b, 0, none⟩) 10 129 2 Grp.cells startsL] := by
  refine enter (args := []) Tryz.func106 rfl rfl ?_
  refine K0 (K1 ?_)
  refine l_y rfl rfl (y_assign rfl) ?_
  refine K2 (K3 (K0 (K1 ?_)))
  refine s_build (parts := [(0, .const (.string ⟨#[98, 97, 115, 101, 32, 98, 97, 115, 101, 102, 111, 110, 116, 32, 98, 103, 115, 111, 117, 110, 100, 32, 108, 105, 110, 107, 32, 109, 101, 116, 97, 32, 110, 111, 102, 114, 97, 109, 101, 115, 32, 115, 99, 114, 105, 112, 116, 32, 115, 116, 121, 108, 101, 32, 116, 101, 109, 112, 108, 97, 116, 101, 32, 116, 105, 116, 108, 101]⟩)), (1, .func 45)]) (cs := [.string ⟨#[98, 97, 115, 101, 32, 98, 97, 115, 101, 102, 111, 110, 116, 32, 98, 103, 115, 111, 117, 110, 100, 32, 108, 105, 110, 107, 32, 109, 101, 116, 97, 32, 110, 111, 102, 114, 97, 109, 101, 115, 32, 115, 99, 114, 105, 112, 116, 32, 115, 116, 121, 108, 101, 32, 116, 101, 109, 112, 108, 97, 116, 101, 32, 116, 105, 116, 108, 101]⟩, .func (.func 45) #[] #[]]) rfl rfl (fun a ha => partsOf_sound ha _ _ rfl) (by kernel_rfl) ?_
  refine s_build (parts := [(0, .const (.string ⟨#[104, 116, 109, 108, 32, 98, 111, 100, 121, 32, 102, 114, 97, 109, 101, 115, 101, 116]⟩)), (1, .func 157)]) (cs := [.string ⟨#[104, 116, 109, 108, 32, 98, 111, 100, 121, 32, 102, 114, 97, 109, 101, 115, 101, 116]⟩, .func (.func 157) #[] #[]]) rfl rfl (fun a ha => partsOf_sound ha _ _ rfl) (by kernel_rfl) ?_
  refine s_build (parts := [(0, .const (.string ⟨#[97, 100, 100, 114, 101, 115, 115, 32, 97, 114, 116, 105, 99, 108, 101, 32, 97, 115, 105, 100, 101, 32, 98, 108, 111, 99, 107, 113, 117, 111, 116, 101, 32, 99, 101, 110, 116, 101, 114, 32, 100, 101, 116, 97, 105, 108, 115, 32, 100, 105, 97, 108, 111, 103, 32, 100, 105, 114, 32, 100, 105, 118, 32, 100, 108, 32, 102, 105, 101, 108, 100, 115, 101, 116, 32, 102, 105, 103, 99, 97, 112, 116, 105, 111, 110, 32, 102, 105, 103, 117, 114, 101, 32, 102, 111, 111, 116, 101, 114, 32, 104, 101, 97, 100, 101, 114, 32, 104, 103, 114, 111, 117, 112, 32, 109, 97, 105, 110, 32, 109, 101, 110, 117, 32, 110, 97, 118, 32, 111, 108, 32, 112, 32, 115, 101, 97, 114, 99, 104, 32, 115, 101, 99, 116, 105, 111, 110, 32, 115, 117, 109, 109, 97, 114, 121, 32, 117, 108]⟩)), (1, .func 158)]) (cs := [.string ⟨#[97, 100, 100, 114, 101, 115, 115, 32, 97, 114, 116, 105, 99, 108, 101, 32, 97, 115, 105, 100, 101, 32, 98, 108, 111, 99, 107, 113, 117, 111, 116, 101, 32, 99, 101, 110, 116, 101, 114, 32, 100, 101, 116, 97, 105, 108, 115, 32, 100, 105, 97, 108, 111, 103, 32, 100, 105, 114, 32, 100, 105, 118, 32, 100, 108, 32, 102, 105, 101, 108, 100, 115, 101, 116, 32, 102, 105, 103, 99, 97, 112, 116, 105, 111, 110, 32, 102, 105, 103, 117, 114, 101, 32, 102, 111, 111, 116, 101, 114, 32, 104, 101, 97, 100, 101, 114, 32, 104, 103, 114, 111, 117, 112, 32, 109, 97, 105, 110, 32, 109, 101, 110, 117, 32, 110, 97, 118, 32, 111, 108, 32, 112, 32, 115, 101, 97, 114, 99, 104, 32, 115, 101, 99, 116, 105, 111, 110, 32, 115, 117, 109, 109, 97, 114, 121, 32, 117, 108]⟩, .func (.func 158) #[] #[]]) rfl rfl (fun a ha => partsOf_sound ha _ _ rfl) (by kernel_rfl) ?_
  refine s_build (parts := [(0, .const (.string ⟨#[104, 49, 32, 104, 50, 32, 104, 51, 32, 104, 52, 32, 104, 53, 32, 104, 54, 32, 112, 114, 101, 32, 108, 105, 115, 116, 105, 110, 103, 32, 102, 111, 114, 109, 32, 108, 105, 32, 100, 100, 32, 100, 116, 32, 112, 108, 97, 105, 110, 116, 101, 120, 116, 32, 98, 117, 116, 116, 111, 110]⟩)), (1, .func 159)]) (cs := [.string ⟨#[104, 49, 32, 104, 50, 32, 104, 51, 32, 104, 52, 32, 104, 53, 32, 104, 54, 32, 112, 114, 101, 32, 108, 105, 115, 116, 105, 110, 103, 32, 102, 111, 114, 109, 32, 108, 105, 32, 100, 100, 32, 100, 116, 32, 112, 108, 97, 105, 110, 116, 101, 120, 116, 32, 98, 117, 116, 116, 111, 110]⟩, .func (.func 159) #[] #[]]) rfl rfl (fun a ha => partsOf_sound ha _ _ rfl) (by kernel_rfl) ?_
  refine s_build (parts := [(0, .const (.string ⟨#[97, 32, 98, 32, 98, 105, 103, 32, 99, 111, 100, 101, 32, 101, 109, 32, 102, 111, 110, 116, 32, 105, 32, 110, 111, 98, 114, 32, 115, 32, 115, 109, 97, 108, 108, 32, 115, 116, 114, 105, 107, 101, 32, 115, 116, 114, 111, 110, 103, 32, 116, 116, 32, 117]⟩)), (1, .func 160)]) (cs := [.string ⟨#[97, 32, 98, 32, 98, 105, 103, 32, 99, 111, 100, 101, 32, 101, 109, 32, 102, 111, 110, 116, 32, 105, 32, 110, 111, 98, 114, 32, 115, 32, 115, 109, 97, 108, 108, 32, 115, 116, 114, 105, 107, 101, 32, 115, 116, 114, 111, 110, 103, 32, 116, 116, 32, 117]⟩, .func (.func 160) #[] #[]]) rfl rfl (fun a ha => partsOf_sound ha _ _ rfl) (by kernel_rfl) ?_
  refine s_build (parts := [(0, .const (.string ⟨#[97, 112, 112, 108, 101, 116, 32, 109, 97, 114, 113, 117, 101, 101, 32, 111, 98, 106, 101, 99, 116, 32, 116, 97, 98, 108, 101]⟩)), (1, .func 161)]) (cs := [.string ⟨#[97, 112, 112, 108, 101, 116, 32, 109, 97, 114, 113, 117, 101, 101, 32, 111, 98, 106, 101, 99, 116, 32, 116, 97, 98, 108, 101]⟩, .func (.func 161) #[] #[]]) rfl rfl (fun a ha => partsOf_sound ha _ _ rfl) (by kernel_rfl) ?_
  refine s_build (parts := [(0, .const (.string ⟨#[97, 114, 101, 97, 32, 98, 114, 32, 101, 109, 98, 101, 100, 32, 105, 109, 103, 32, 107, 101, 121, 103, 101, 110, 32, 119, 98, 114, 32, 105, 110, 112, 117, 116, 32, 112, 97, 114, 97, 109, 32, 115, 111, 117, 114, 99, 101, 32, 116, 114, 97, 99, 107, 32, 104, 114, 32, 105, 109, 97, 103, 101]⟩)), (1, .func 162)]) (cs := [.string ⟨#[97, 114, 101, 97, 32, 98, 114, 32, 101, 109, 98, 101, 100, 32, 105, 109, 103, 32, 107, 101, 121, 103, 101, 110, 32, 119, 98, 114, 32, 105, 110, 112, 117, 116, 32, 112, 97, 114, 97, 109, 32, 115, 111, 117, 114, 99, 101, 32, 116, 114, 97, 99, 107, 32, 104, 114, 32, 105, 109, 97, 103, 101]⟩, .func (.func 162) #[] #[]]) rfl rfl (fun a ha => partsOf_sound ha _ _ rfl) (by kernel_rfl) ?_
  refine s_build (parts := [(0, .const (.string ⟨#[116, 101, 120, 116, 97, 114, 101, 97, 32, 120, 109, 112, 32, 105, 102, 114, 97, 109, 101, 32, 110, 111, 101, 109, 98, 101, 100, 32, 115, 101, 108, 101, 99, 116]⟩)), (1, .func 163)]) (cs := [.string ⟨#[116, 101, 120, 116, 97, 114, 101, 97, 32, 120, 109, 112, 32, 105, 102, 114, 97, 109, 101, 32, 110, 111, 101, 109, 98, 101, 100, 32, 115, 101, 108, 101, 99, 116]⟩, .func (.func 163) #[] #[]]) rfl rfl (fun a ha => partsOf_sound ha _ _ rfl) (by kernel_rfl) ?_
  refine s_build (parts := [(0, .const (.string ⟨#[111, 112, 116, 103, 114, 111, 117, 112, 32, 111, 112, 116, 105, 111, 110, 32, 114, 98, 32, 114, 116, 99, 32, 114, 112, 32, 114, 116, 32, 109, 97, 116, 104, 32, 115, 118, 103]⟩)), (1, .func 164)]) (cs := [.string ⟨#[111, 112, 116, 103, 114, 111, 117, 112, 32, 111, 112, 116, 105, 111, 110, 32, 114, 98, 32, 114, 116, 99, 32, 114, 112, 32, 114, 116, 32, 109, 97, 116, 104, 32, 115, 118, 103]⟩, .func (.func 164) #[] #[]]) rfl rfl (fun a ha => partsOf_sound ha _ _ rfl) (by kernel_rfl) ?_
  refine s_build (parts := [(0, .const (.string ⟨#[99, 97, 112, 116, 105, 111, 110, 32, 99, 111, 108, 32, 99, 111, 108, 103, 114, 111, 117, 112, 32, 102, 114, 97, 109, 101, 32, 104, 101, 97, 100, 32, 116, 98, 111, 100, 121, 32, 116, 100, 32, 116, 102, 111, 111, 116, 32, 116, 104, 32, 116, 104, 101, 97, 100, 32, 116, 114]⟩)), (1, .func 165)]) (cs := [.string ⟨#[99, 97, 112, 116, 105, 111, 110, 32, 99, 111, 108, 32, 99, 111, 108, 103, 114, 111, 117, 112, 32, 102, 114, 97, 109, 101, 32, 104, 101, 97, 100, 32, 116, 98, 111, 100, 121, 32, 116, 100, 32, 116, 102, 111, 111, 116, 32, 116, 104, 32, 116, 104, 101, 97, 100, 32, 116, 114]⟩, .func (.func 165) #[] #[]]) rfl rfl (fun a ha => partsOf_sound ha _ _ rfl) (by kernel_rfl) ?_
  refine s_lit (parts := [(0, .tmp 1), (1, .tmp 2), (2, .tmp 3), (3, .tmp 4), (4, .tmp 5), (5, .tmp 6), (6, .tmp 7), (7, .tmp 8), (8, .tmp 9), (9, .tmp 10)]) (enc := Grp.cells) startsL [.agg [.string ⟨#[98, 97, 115, 101, 32, 98, 97, 115, 101, 102, 111, 110, 116, 32, 98, 103, 115, 111, 117, 110, 100, 32, 108, 105, 110, 107, 32, 109, 101, 116, 97, 32, 110, 111, 102, 114, 97, 109, 101, 115, 32, 115, 99, 114, 105, 112, 116, 32, 115, 116, 121, 108, 101, 32, 116, 101, 109, 112, 108, 97, 116, 101, 32, 116, 105, 116, 108, 101]⟩, .func (.func 45) #[] #[]].toArray, .agg [.string ⟨#[104, 116, 109, 108, 32, 98, 111, 100, 121, 32, 102, 114, 97, 109, 101, 115, 101, 116]⟩, .func (.func 157) #[] #[]].toArray, .agg [.string ⟨#[97, 100, 100, 114, 101, 115, 115, 32, 97, 114, 116, 105, 99, 108, 101, 32, 97, 115, 105, 100, 101, 32, 98, 108, 111, 99, 107, 113, 117, 111, 116, 101, 32, 99, 101, 110, 116, 101, 114, 32, 100, 101, 116, 97, 105, 108, 115, 32, 100, 105, 97, 108, 111, 103, 32, 100, 105, 114, 32, 100, 105, 118, 32, 100, 108, 32, 102, 105, 101, 108, 100, 115, 101, 116, 32, 102, 105, 103, 99, 97, 112, 116, 105, 111, 110, 32, 102, 105, 103, 117, 114, 101, 32, 102, 111, 111, 116, 101, 114, 32, 104, 101, 97, 100, 101, 114, 32, 104, 103, 114, 111, 117, 112, 32, 109, 97, 105, 110, 32, 109, 101, 110, 117, 32, 110, 97, 118, 32, 111, 108, 32, 112, 32, 115, 101, 97, 114, 99, 104, 32, 115, 101, 99, 116, 105, 111, 110, 32, 115, 117, 109, 109, 97, 114, 121, 32, 117, 108]⟩, .func (.func 158) #[] #[]].toArray, .agg [.string ⟨#[104, 49, 32, 104, 50, 32, 104, 51, 32, 104, 52, 32, 104, 53, 32, 104, 54, 32, 112, 114, 101, 32, 108, 105, 115, 116, 105, 110, 103, 32, 102, 111, 114, 109, 32, 108, 105, 32, 100, 100, 32, 100, 116, 32, 112, 108, 97, 105, 110, 116, 101, 120, 116, 32, 98, 117, 116, 116, 111, 110]⟩, .func (.func 159) #[] #[]].toArray, .agg [.string ⟨#[97, 32, 98, 32, 98, 105, 103, 32, 99, 111, 100, 101, 32, 101, 109, 32, 102, 111, 110, 116, 32, 105, 32, 110, 111, 98, 114, 32, 115, 32, 115, 109, 97, 108, 108, 32, 115, 116, 114, 105, 107, 101, 32, 115, 116, 114, 111, 110, 103, 32, 116, 116, 32, 117]⟩, .func (.func 160) #[] #[]].toArray, .agg [.string ⟨#[97, 112, 112, 108, 101, 116, 32, 109, 97, 114, 113, 117, 101, 101, 32, 111, 98, 106, 101, 99, 116, 32, 116, 97, 98, 108, 101]⟩, .func (.func 161) #[] #[]].toArray, .agg [.string ⟨#[97, 114, 101, 97, 32, 98, 114, 32, 101, 109, 98, 101, 100, 32, 105, 109, 103, 32, 107, 101, 121, 103, 101, 110, 32, 119, 98, 114, 32, 105, 110, 112, 117, 116, 32, 112, 97, 114, 97, 109, 32, 115, 111, 117, 114, 99, 101, 32, 116, 114, 97, 99, 107, 32, 104, 114, 32, 105, 109, 97, 103, 101]⟩, .func (.func 162) #[] #[]].toArray, .agg [.string ⟨#[116, 101, 120, 116, 97, 114, 101, 97, 32, 120, 109, 112, 32, 105, 102, 114, 97, 109, 101, 32, 110, 111, 101, 109, 98, 101, 100, 32, 115, 101, 108, 101, 99, 116]⟩, .func (.func 163) #[] #[]].toArray, .agg [.string ⟨#[111, 112, 116, 103, 114, 111, 117, 112, 32, 111, 112, 116, 105, 111, 110, 32, 114, 98, 32, 114, 116, 99, 32, 114, 112, 32, 114, 116, 32, 109, 97, 116, 104, 32, 115, 118, 103]⟩, .func (.func 164) #[] #[]].toArray, .agg [.string ⟨#[99, 97, 112, 116, 105, 111, 110, 32, 99, 111, 108, 32, 99, 111, 108, 103, 114, 111, 117, 112, 32, 102, 114, 97, 109, 101, 32, 104, 101, 97, 100, 32, 116, 98, 111, 100, 121, 32, 116, 100, 32, 116, 102, 111, 111, 116, 32, 116, 104, 32, 116, 104, 101, 97, 100, 32, 116, 114]⟩, .func (.func 165) #[] #[]].toArray] hO rfl (hn := by simp [startsL]) (hs := by simp [startsL]) (fun b w hO => ?_)
  refine l_y rfl rfl (y_assign rfl) ?_
  refine K2 (K3 (K6 ?_))
  exact fin1 rfl rfl ⟨_, ⟨_, rfl, rfl⟩, hO⟩
def endsL : List Grp := [⟨⟨#[116, 101, 109, 112, 108, 97, 116, 101]⟩, 45⟩, ⟨⟨#[98, 111, 100, 121, 32, 104, 116, 109, 108]⟩, 167⟩, ⟨⟨#[97, 32, 98, 32, 98, 105, 103, 32, 99, 111, 100, 101, 32, 101, 109, 32, 102, 111, 110, 116, 32, 105, 32, 110, 111, 98, 114, 32, 115, 32, 115, 109, 97, 108, 108, 32, 115, 116, 114, 105, 107, 101, 32, 115, 116, 114, 111, 110, 103, 32, 116, 116, 32, 117]⟩, 168⟩, ⟨⟨#[112, 32, 98, 114, 32, 102, 111, 114, 109, 32, 108, 105, 32, 100, 100, 32, 100, 116, 32, 104, 49, 32, 104, 50, 32, 104, 51, 32, 104, 52, 32, 104, 53, 32, 104, 54]⟩, 169⟩, ⟨⟨#[98, 117, 116, 116, 111, 110, 32, 108, 105, 115, 116, 105, 110, 103, 32, 112, 114, 101, 32, 97, 100, 100, 114, 101, 115, 115, 32, 97, 114, 116, 105, 99, 108, 101, 32, 97, 115, 105, 100, 101, 32, 98, 108, 111, 99, 107, 113, 117, 111, 116, 101, 32, 99, 101, 110, 116, 101, 114, 32, 100, 101, 116, 97, 105, 108, 115, 32, 100, 105, 97, 108, 111, 103, 32, 100, 105, 114, 32, 100, 105, 118, 32, 100, 108, 32, 102, 105, 101, 108, 100, 115, 101, 116, 32, 102, 105, 103, 99, 97, 112, 116, 105, 111, 110, 32, 102, 105, 103, 117, 114, 101, 32, 102, 111, 111, 116, 101, 114, 32, 104, 101, 97, 100, 101, 114, 32, 104, 103, 114, 111, 117, 112, 32, 109, 97, 105, 110, 32, 109, 101, 110, 117, 32, 110, 97, 118, 32, 111, 108, 32, 112, 32, 115, 101, 97, 114, 99, 104, 32, 115, 101, 99, 116, 105, 111, 110, 32, 115, 117, 109, 109, 97, 114, 121, 32, 117, 108]⟩, 170⟩, ⟨⟨#[97, 112, 112, 108, 101, 116, 32, 109, 97, 114, 113, 117, 101, 101, 32, 111, 98, 106, 101, 99, 116]⟩, 171⟩]
theorem ends_spec (hO : Own k w []) : Tri Tryz.prog 111 #[] k w fun v m => ∃ b, v = .slice (some ⟨b, 0, none⟩) 6 6 ∧ m = [sls (some ⟨b, 0, none⟩) 6 129 2 Grp.cells endsL] := by
  refine enter (args := []) Tryz.func111 rfl rfl ?_
  refine K0 (K1 ?_)
  refine l_y rfl rfl (y_assign rfl) ?_
  refine K2 (K3 (K0 (K1 ?_)))
  refine s_build (parts := [(0, .const (.string ⟨#[116, 101, 109, 112, 108, 97, 116, 101]⟩)), (1, .func 45)]) (cs := [.string ⟨#[116, 101, 109, 112, 108, 97, 116, 101]⟩, .func (.func 45) #[] #[]]) rfl rfl (fun a ha => partsOf_sound ha _ _ rfl) (by kernel_rfl) ?_
  refine s_build (parts := [(0, .const (.string ⟨#[98, 111, 100, 121, 32, 104, 116, 109, 108]⟩)), (1, .func 167)]) (cs := [.string ⟨#[98, 111, 100, 121, 32, 104, 116, 109, 108]⟩, .func (.func 167) #[] #[]]) rfl rfl (fun a ha => partsOf_sound ha _ _ rfl) (by kernel_rfl) ?_
  refine s_build (parts := [(0, .const (.string ⟨#[97, 32, 98, 32, 98, 105, 103, 32, 99, 111, 100, 101, 32, 101, 109, 32, 102, 111, 110, 116, 32, 105, 32, 110, 111, 98, 114, 32, 115, 32, 115, 109, 97, 108, 108, 32, 115, 116, 114, 105, 107, 101, 32, 115, 116, 114, 111, 110, 103, 32, 116, 116, 32, 117]⟩)), (1, .func 168)]) (cs := [.string ⟨#[97, 32, 98, 32, 98, 105, 103, 32, 99, 111, 100, 101, 32, 101, 109, 32, 102, 111, 110, 116, 32, 105, 32, 110, 111, 98, 114, 32, 115, 32, 115, 109, 97, 108, 108, 32, 115, 116, 114, 105, 107, 101, 32, 115, 116, 114, 111, 110, 103, 32, 116, 116, 32, 117]⟩, .func (.func 168) #[] #[]]) rfl rfl (fun a ha => partsOf_sound ha _ _ rfl) (by kernel_rfl) ?_
  refine s_build (parts := [(0, .const (.string ⟨#[112, 32, 98, 114, 32, 102, 111, 114, 109, 32, 108, 105, 32, 100, 100, 32, 100, 116, 32, 104, 49, 32, 104, 50, 32, 104, 51, 32, 104, 52, 32, 104, 53, 32, 104, 54]⟩)), (1, .func 169)]) (cs := [.string ⟨#[112, 32, 98, 114, 32, 102, 111, 114, 109, 32, 108, 105, 32, 100, 100, 32, 100, 116, 32, 104, 49, 32, 104, 50, 32, 104, 51, 32, 104, 52, 32, 104, 53, 32, 104, 54]⟩, .func (.func 169) #[] #[]]) rfl rfl (fun a ha => partsOf_sound ha _ _ rfl) (by kernel_rfl) ?_
  refine s_build (parts := [(0, .const (.string ⟨#[98, 117, 116, 116, 111, 110, 32, 108, 105, 115, 116, 105, 110, 103, 32, 112, 114, 101, 32, 97, 100, 100, 114, 101, 115, 115, 32, 97, 114, 116, 105, 99, 108, 101, 32, 97, 115, 105, 100, 101, 32, 98, 108, 111, 99, 107, 113, 117, 111, 116, 101, 32, 99, 101, 110, 116, 101, 114, 32, 100, 101, 116, 97, 105, 108, 115, 32, 100, 105, 97, 108, 111, 103, 32, 100, 105, 114, 32, 100, 105, 118, 32, 100, 108, 32, 102, 105, 101, 108, 100, 115, 101, 116, 32, 102, 105, 103, 99, 97, 112, 116, 105, 111, 110, 32, 102, 105, 103, 117, 114, 101, 32, 102, 111, 111, 116, 101, 114, 32, 104, 101, 97, 100, 101, 114, 32, 104, 103, 114, 111, 117, 112, 32, 109, 97, 105, 110, 32, 109, 101, 110, 117, 32, 110, 97, 118, 32, 111, 108, 32, 112, 32, 115, 101, 97, 114, 99, 104, 32, 115, 101, 99, 116, 105, 111, 110, 32, 115, 117, 109, 109, 97, 114, 121, 32, 117, 108]⟩)), (1, .func 170)]) (cs := [.string ⟨#[98, 117, 116, 116, 111, 110, 32, 108, 105, 115, 116, 105, 110, 103, 32, 112, 114, 101, 32, 97, 100, 100, 114, 101, 115, 115, 32, 97, 114, 116, 105, 99, 108, 101, 32, 97, 115, 105, 100, 101, 32, 98, 108, 111, 99, 107, 113, 117, 111, 116, 101, 32, 99, 101, 110, 116, 101, 114, 32, 100, 101, 116, 97, 105, 108, 115, 32, 100, 105, 97, 108, 111, 103, 32, 100, 105, 114, 32, 100, 105, 118, 32, 100, 108, 32, 102, 105, 101, 108, 100, 115, 101, 116, 32, 102, 105, 103, 99, 97, 112, 116, 105, 111, 110, 32, 102, 105, 103, 117, 114, 101, 32, 102, 111, 111, 116, 101, 114, 32, 104, 101, 97, 100, 101, 114, 32, 104, 103, 114, 111, 117, 112, 32, 109, 97, 105, 110, 32, 109, 101, 110, 117, 32, 110, 97, 118, 32, 111, 108, 32, 112, 32, 115, 101, 97, 114, 99, 104, 32, 115, 101, 99, 116, 105, 111, 110, 32, 115, 117, 109, 109, 97, 114, 121, 32, 117, 108]⟩, .func (.func 170) #[] #[]]) rfl rfl (fun a ha => partsOf_sound ha _ _ rfl) (by kernel_rfl) ?_
  refine s_build (parts := [(0, .const (.string ⟨#[97, 112, 112, 108, 101, 116, 32, 109, 97, 114, 113, 117, 101, 101, 32, 111, 98, 106, 101, 99, 116]⟩)), (1, .func 171)]) (cs := [.string ⟨#[97, 112, 112, 108, 101, 116, 32, 109, 97, 114, 113, 117, 101, 101, 32, 111, 98, 106, 101, 99, 116]⟩, .func (.func 171) #[] #[]]) rfl rfl (fun a ha => partsOf_sound ha _ _ rfl) (by kernel_rfl) ?_
  refine s_lit (parts := [(0, .tmp 1), (1, .tmp 2), (2, .tmp 3), (3, .tmp 4), (4, .tmp 5), (5, .tmp 6)]) (enc := Grp.cells) endsL [.agg [.string ⟨#[116, 101, 109, 112, 108, 97, 116, 101]⟩, .func (.func 45) #[] #[]].toArray, .agg [.string ⟨#[98, 111, 100, 121, 32, 104, 116, 109, 108]⟩, .func (.func 167) #[] #[]].toArray, .agg [.string ⟨#[97, 32, 98, 32, 98, 105, 103, 32, 99, 111, 100, 101, 32, 101, 109, 32, 102, 111, 110, 116, 32, 105, 32, 110, 111, 98, 114, 32, 115, 32, 115, 109, 97, 108, 108, 32, 115, 116, 114, 105, 107, 101, 32, 115, 116, 114, 111, 110, 103, 32, 116, 116, 32, 117]⟩, .func (.func 168) #[] #[]].toArray, .agg [.string ⟨#[112, 32, 98, 114, 32, 102, 111, 114, 109, 32, 108, 105, 32, 100, 100, 32, 100, 116, 32, 104, 49, 32, 104, 50, 32, 104, 51, 32, 104, 52, 32, 104, 53, 32, 104, 54]⟩, .func (.func 169) #[] #[]].toArray, .agg [.string ⟨#[98, 117, 116, 116, 111, 110, 32, 108, 105, 115, 116, 105, 110, 103, 32, 112, 114, 101, 32, 97, 100, 100, 114, 101, 115, 115, 32, 97, 114, 116, 105, 99, 108, 101, 32, 97, 115, 105, 100, 101, 32, 98, 108, 111, 99, 107, 113, 117, 111, 116, 101, 32, 99, 101, 110, 116, 101, 114, 32, 100, 101, 116, 97, 105, 108, 115, 32, 100, 105, 97, 108, 111, 103, 32, 100, 105, 114, 32, 100, 105, 118, 32, 100, 108, 32, 102, 105, 101, 108, 100, 115, 101, 116, 32, 102, 105, 103, 99, 97, 112, 116, 105, 111, 110, 32, 102, 105, 103, 117, 114, 101, 32, 102, 111, 111, 116, 101, 114, 32, 104, 101, 97, 100, 101, 114, 32, 104, 103, 114, 111, 117, 112, 32, 109, 97, 105, 110, 32, 109, 101, 110, 117, 32, 110, 97, 118, 32, 111, 108, 32, 112, 32, 115, 101, 97, 114, 99, 104, 32, 115, 101, 99, 116, 105, 111, 110, 32, 115, 117, 109, 109, 97, 114, 121, 32, 117, 108]⟩, .func (.func 170) #[] #[]].toArray, .agg [.string ⟨#[97, 112, 112, 108, 101, 116, 32, 109, 97, 114, 113, 117, 101, 101, 32, 111, 98, 106, 101, 99, 116]⟩, .func (.func 171) #[] #[]].toArray] hO rfl (hn := by simp [endsL]) (hs := by simp [endsL]) (fun b w hO => ?_)
  refine l_y rfl rfl (y_assign rfl) ?_
  refine K2 (K3 (K6 ?_))
  exact fin1 rfl rfl ⟨_, ⟨_, rfl, rfl⟩, hO⟩
def rulesL : List (Int × Value) := [(0, .func (.func 42) #[] #[]), (1, .func (.func 43) #[] #[]), (2, .func (.func 44) #[] #[]), (3, .func (.func 45) #[] #[]), (4, .func (.func 46) #[] #[]), (5, .func (.func 47) #[] #[]), (6, .func (.func 48) #[] #[]), (7, .func (.func 49) #[] #[]), (8, .func (.func 50) #[] #[]), (9, .func (.func 51) #[] #[]), (10, .func (.func 52) #[] #[]), (11, .func (.func 53) #[] #[]), (12, .func (.func 54) #[] #[]), (13, .func (.func 55) #[] #[]), (14, .func (.func 56) #[] #[]), (15, .func (.func 57) #[] #[]), (16, .func (.func 58) #[] #[]), (17, .func (.func 59) #[] #[]), (18, .func (.func 60) #[] #[]), (19, .func (.func 61) #[] #[]), (20, .func (.func 62) #[] #[]), (21, .func (.func 63) #[] #[]), (22, .func (.func 64) #[] #[])]
set_option maxHeartbeats 2000000 in
theorem rules_spec (hO : Own k w []) : Tri Tryz.prog 18 #[] k w fun v m => ∃ r, v = .map (some r) ∧ m = [mpV r .i64 rulesL] := by
  refine enter (args := []) Tryz.func18 rfl rfl ?_
  refine K0 (K1 ?_)
  refine l_y rfl rfl (y_assign rfl) ?_
  refine K2 (K3 (K0 (K1 ?_)))
  refine s_makeMapV .i64 hO (fun r w hO => ?_)
  refine s_insertV [(0, .func (.func 42) #[] #[])] hO rfl rfl rfl rfl rfl (fun w hO => ?_)
  refine s_insertV [(0, .func (.func 42) #[] #[]), (1, .func (.func 43) #[] #[])] hO rfl rfl rfl rfl rfl (fun w hO => ?_)
  refine s_insertV [(0, .func (.func 42) #[] #[]), (1, .func (.func 43) #[] #[]), (2, .func (.func 44) #[] #[])] hO rfl rfl rfl rfl rfl (fun w hO => ?_)
  refine s_insertV [(0, .func (.func 42) #[] #[]), (1, .func (.func 43) #[] #[]), (2, .func (.func 44) #[] #[]), (3, .func (.func 45) #[] #[])] hO rfl rfl rfl rfl rfl (fun w hO => ?_)
  refine s_insertV [(0, .func (.func 42) #[] #[]), (1, .func (.func 43) #[] #[]), (2, .func (.func 44) #[] #[]), (3, .func (.func 45) #[] #[]), (4, .func (.func 46) #[] #[])] hO rfl rfl rfl rfl rfl (fun w hO => ?_)
  refine s_insertV [(0, .func (.func 42) #[] #[]), (1, .func (.func 43) #[] #[]), (2, .func (.func 44) #[] #[]), (3, .func (.func 45) #[] #[]), (4, .func (.func 46) #[] #[]), (5, .func (.func 47) #[] #[])] hO rfl rfl rfl rfl rfl (fun w hO => ?_)
  refine s_insertV [(0, .func (.func 42) #[] #[]), (1, .func (.func 43) #[] #[]), (2, .func (.func 44) #[] #[]), (3, .func (.func 45) #[] #[]), (4, .func (.func 46) #[] #[]), (5, .func (.func 47) #[] #[]), (6, .func (.func 48) #[] #[])] hO rfl rfl rfl rfl rfl (fun w hO => ?_)
  refine s_insertV [(0, .func (.func 42) #[] #[]), (1, .func (.func 43) #[] #[]), (2, .func (.func 44) #[] #[]), (3, .func (.func 45) #[] #[]), (4, .func (.func 46) #[] #[]), (5, .func (.func 47) #[] #[]), (6, .func (.func 48) #[] #[]), (7, .func (.func 49) #[] #[])] hO rfl rfl rfl rfl rfl (fun w hO => ?_)
  refine s_insertV [(0, .func (.func 42) #[] #[]), (1, .func (.func 43) #[] #[]), (2, .func (.func 44) #[] #[]), (3, .func (.func 45) #[] #[]), (4, .func (.func 46) #[] #[]), (5, .func (.func 47) #[] #[]), (6, .func (.func 48) #[] #[]), (7, .func (.func 49) #[] #[]), (8, .func (.func 50) #[] #[])] hO rfl rfl rfl rfl rfl (fun w hO => ?_)
  refine s_insertV [(0, .func (.func 42) #[] #[]), (1, .func (.func 43) #[] #[]), (2, .func (.func 44) #[] #[]), (3, .func (.func 45) #[] #[]), (4, .func (.func 46) #[] #[]), (5, .func (.func 47) #[] #[]), (6, .func (.func 48) #[] #[]), (7, .func (.func 49) #[] #[]), (8, .func (.func 50) #[] #[]), (9, .func (.func 51) #[] #[])] hO rfl rfl rfl rfl rfl (fun w hO => ?_)
  refine s_insertV [(0, .func (.func 42) #[] #[]), (1, .func (.func 43) #[] #[]), (2, .func (.func 44) #[] #[]), (3, .func (.func 45) #[] #[]), (4, .func (.func 46) #[] #[]), (5, .func (.func 47) #[] #[]), (6, .func (.func 48) #[] #[]), (7, .func (.func 49) #[] #[]), (8, .func (.func 50) #[] #[]), (9, .func (.func 51) #[] #[]), (10, .func (.func 52) #[] #[])] hO rfl rfl rfl rfl rfl (fun w hO => ?_)
  refine s_insertV [(0, .func (.func 42) #[] #[]), (1, .func (.func 43) #[] #[]), (2, .func (.func 44) #[] #[]), (3, .func (.func 45) #[] #[]), (4, .func (.func 46) #[] #[]), (5, .func (.func 47) #[] #[]), (6, .func (.func 48) #[] #[]), (7, .func (.func 49) #[] #[]), (8, .func (.func 50) #[] #[]), (9, .func (.func 51) #[] #[]), (10, .func (.func 52) #[] #[]), (11, .func (.func 53) #[] #[])] hO rfl rfl rfl rfl rfl (fun w hO => ?_)
  refine s_insertV [(0, .func (.func 42) #[] #[]), (1, .func (.func 43) #[] #[]), (2, .func (.func 44) #[] #[]), (3, .func (.func 45) #[] #[]), (4, .func (.func 46) #[] #[]), (5, .func (.func 47) #[] #[]), (6, .func (.func 48) #[] #[]), (7, .func (.func 49) #[] #[]), (8, .func (.func 50) #[] #[]), (9, .func (.func 51) #[] #[]), (10, .func (.func 52) #[] #[]), (11, .func (.func 53) #[] #[]), (12, .func (.func 54) #[] #[])] hO rfl rfl rfl rfl rfl (fun w hO => ?_)
  refine s_insertV [(0, .func (.func 42) #[] #[]), (1, .func (.func 43) #[] #[]), (2, .func (.func 44) #[] #[]), (3, .func (.func 45) #[] #[]), (4, .func (.func 46) #[] #[]), (5, .func (.func 47) #[] #[]), (6, .func (.func 48) #[] #[]), (7, .func (.func 49) #[] #[]), (8, .func (.func 50) #[] #[]), (9, .func (.func 51) #[] #[]), (10, .func (.func 52) #[] #[]), (11, .func (.func 53) #[] #[]), (12, .func (.func 54) #[] #[]), (13, .func (.func 55) #[] #[])] hO rfl rfl rfl rfl rfl (fun w hO => ?_)
  refine s_insertV [(0, .func (.func 42) #[] #[]), (1, .func (.func 43) #[] #[]), (2, .func (.func 44) #[] #[]), (3, .func (.func 45) #[] #[]), (4, .func (.func 46) #[] #[]), (5, .func (.func 47) #[] #[]), (6, .func (.func 48) #[] #[]), (7, .func (.func 49) #[] #[]), (8, .func (.func 50) #[] #[]), (9, .func (.func 51) #[] #[]), (10, .func (.func 52) #[] #[]), (11, .func (.func 53) #[] #[]), (12, .func (.func 54) #[] #[]), (13, .func (.func 55) #[] #[]), (14, .func (.func 56) #[] #[])] hO rfl rfl rfl rfl rfl (fun w hO => ?_)
  refine s_insertV [(0, .func (.func 42) #[] #[]), (1, .func (.func 43) #[] #[]), (2, .func (.func 44) #[] #[]), (3, .func (.func 45) #[] #[]), (4, .func (.func 46) #[] #[]), (5, .func (.func 47) #[] #[]), (6, .func (.func 48) #[] #[]), (7, .func (.func 49) #[] #[]), (8, .func (.func 50) #[] #[]), (9, .func (.func 51) #[] #[]), (10, .func (.func 52) #[] #[]), (11, .func (.func 53) #[] #[]), (12, .func (.func 54) #[] #[]), (13, .func (.func 55) #[] #[]), (14, .func (.func 56) #[] #[]), (15, .func (.func 57) #[] #[])] hO rfl rfl rfl rfl rfl (fun w hO => ?_)
  refine s_insertV [(0, .func (.func 42) #[] #[]), (1, .func (.func 43) #[] #[]), (2, .func (.func 44) #[] #[]), (3, .func (.func 45) #[] #[]), (4, .func (.func 46) #[] #[]), (5, .func (.func 47) #[] #[]), (6, .func (.func 48) #[] #[]), (7, .func (.func 49) #[] #[]), (8, .func (.func 50) #[] #[]), (9, .func (.func 51) #[] #[]), (10, .func (.func 52) #[] #[]), (11, .func (.func 53) #[] #[]), (12, .func (.func 54) #[] #[]), (13, .func (.func 55) #[] #[]), (14, .func (.func 56) #[] #[]), (15, .func (.func 57) #[] #[]), (16, .func (.func 58) #[] #[])] hO rfl rfl rfl rfl rfl (fun w hO => ?_)
  refine s_insertV [(0, .func (.func 42) #[] #[]), (1, .func (.func 43) #[] #[]), (2, .func (.func 44) #[] #[]), (3, .func (.func 45) #[] #[]), (4, .func (.func 46) #[] #[]), (5, .func (.func 47) #[] #[]), (6, .func (.func 48) #[] #[]), (7, .func (.func 49) #[] #[]), (8, .func (.func 50) #[] #[]), (9, .func (.func 51) #[] #[]), (10, .func (.func 52) #[] #[]), (11, .func (.func 53) #[] #[]), (12, .func (.func 54) #[] #[]), (13, .func (.func 55) #[] #[]), (14, .func (.func 56) #[] #[]), (15, .func (.func 57) #[] #[]), (16, .func (.func 58) #[] #[]), (17, .func (.func 59) #[] #[])] hO rfl rfl rfl rfl rfl (fun w hO => ?_)
  refine s_insertV [(0, .func (.func 42) #[] #[]), (1, .func (.func 43) #[] #[]), (2, .func (.func 44) #[] #[]), (3, .func (.func 45) #[] #[]), (4, .func (.func 46) #[] #[]), (5, .func (.func 47) #[] #[]), (6, .func (.func 48) #[] #[]), (7, .func (.func 49) #[] #[]), (8, .func (.func 50) #[] #[]), (9, .func (.func 51) #[] #[]), (10, .func (.func 52) #[] #[]), (11, .func (.func 53) #[] #[]), (12, .func (.func 54) #[] #[]), (13, .func (.func 55) #[] #[]), (14, .func (.func 56) #[] #[]), (15, .func (.func 57) #[] #[]), (16, .func (.func 58) #[] #[]), (17, .func (.func 59) #[] #[]), (18, .func (.func 60) #[] #[])] hO rfl rfl rfl rfl rfl (fun w hO => ?_)
  refine s_insertV [(0, .func (.func 42) #[] #[]), (1, .func (.func 43) #[] #[]), (2, .func (.func 44) #[] #[]), (3, .func (.func 45) #[] #[]), (4, .func (.func 46) #[] #[]), (5, .func (.func 47) #[] #[]), (6, .func (.func 48) #[] #[]), (7, .func (.func 49) #[] #[]), (8, .func (.func 50) #[] #[]), (9, .func (.func 51) #[] #[]), (10, .func (.func 52) #[] #[]), (11, .func (.func 53) #[] #[]), (12, .func (.func 54) #[] #[]), (13, .func (.func 55) #[] #[]), (14, .func (.func 56) #[] #[]), (15, .func (.func 57) #[] #[]), (16, .func (.func 58) #[] #[]), (17, .func (.func 59) #[] #[]), (18, .func (.func 60) #[] #[]), (19, .func (.func 61) #[] #[])] hO rfl rfl rfl rfl rfl (fun w hO => ?_)
  refine s_insertV [(0, .func (.func 42) #[] #[]), (1, .func (.func 43) #[] #[]), (2, .func (.func 44) #[] #[]), (3, .func (.func 45) #[] #[]), (4, .func (.func 46) #[] #[]), (5, .func (.func 47) #[] #[]), (6, .func (.func 48) #[] #[]), (7, .func (.func 49) #[] #[]), (8, .func (.func 50) #[] #[]), (9, .func (.func 51) #[] #[]), (10, .func (.func 52) #[] #[]), (11, .func (.func 53) #[] #[]), (12, .func (.func 54) #[] #[]), (13, .func (.func 55) #[] #[]), (14, .func (.func 56) #[] #[]), (15, .func (.func 57) #[] #[]), (16, .func (.func 58) #[] #[]), (17, .func (.func 59) #[] #[]), (18, .func (.func 60) #[] #[]), (19, .func (.func 61) #[] #[]), (20, .func (.func 62) #[] #[])] hO rfl rfl rfl rfl rfl (fun w hO => ?_)
  refine s_insertV [(0, .func (.func 42) #[] #[]), (1, .func (.func 43) #[] #[]), (2, .func (.func 44) #[] #[]), (3, .func (.func 45) #[] #[]), (4, .func (.func 46) #[] #[]), (5, .func (.func 47) #[] #[]), (6, .func (.func 48) #[] #[]), (7, .func (.func 49) #[] #[]), (8, .func (.func 50) #[] #[]), (9, .func (.func 51) #[] #[]), (10, .func (.func 52) #[] #[]), (11, .func (.func 53) #[] #[]), (12, .func (.func 54) #[] #[]), (13, .func (.func 55) #[] #[]), (14, .func (.func 56) #[] #[]), (15, .func (.func 57) #[] #[]), (16, .func (.func 58) #[] #[]), (17, .func (.func 59) #[] #[]), (18, .func (.func 60) #[] #[]), (19, .func (.func 61) #[] #[]), (20, .func (.func 62) #[] #[]), (21, .func (.func 63) #[] #[])] hO rfl rfl rfl rfl rfl (fun w hO => ?_)
  refine s_insertV [(0, .func (.func 42) #[] #[]), (1, .func (.func 43) #[] #[]), (2, .func (.func 44) #[] #[]), (3, .func (.func 45) #[] #[]), (4, .func (.func 46) #[] #[]), (5, .func (.func 47) #[] #[]), (6, .func (.func 48) #[] #[]), (7, .func (.func 49) #[] #[]), (8, .func (.func 50) #[] #[]), (9, .func (.func 51) #[] #[]), (10, .func (.func 52) #[] #[]), (11, .func (.func 53) #[] #[]), (12, .func (.func 54) #[] #[]), (13, .func (.func 55) #[] #[]), (14, .func (.func 56) #[] #[]), (15, .func (.func 57) #[] #[]), (16, .func (.func 58) #[] #[]), (17, .func (.func 59) #[] #[]), (18, .func (.func 60) #[] #[]), (19, .func (.func 61) #[] #[]), (20, .func (.func 62) #[] #[]), (21, .func (.func 63) #[] #[]), (22, .func (.func 64) #[] #[])] hO rfl rfl rfl rfl rfl (fun w hO => ?_)
  refine l_y rfl rfl (y_move rfl) ?_
  refine l_y rfl rfl (y_assign rfl) ?_
  refine K2 (K3 (K6 ?_))
  exact fin1 rfl rfl ⟨_, ⟨_, rfl, rfl⟩, hO⟩
end
end Go.Proofs.YtpejdlfkaaiehaaGreatDoor
end
section
set_option linter.unusedVariables false
set_option linter.unusedSimpArgs false
set_option maxRecDepth 100000
namespace Go.Proofs.YtpejdlfkaaiehaaGreatDoor
open Go Go.Hb Go.RowKit
section
variable {is bd : Int → Bool}
theorem scopeG_no : ∀ {l : List Int}, (∀ x ∈ l, is x = false) → scopeG is bd l = false := by
  intro l
  have key : ∀ r : List Int, (∀ x ∈ r, is x = false) → scanR is bd r = false := by
    intro r
    induction r with
    | nil => intro _; rfl
    | cons x r ih =>
      intro h
      rw [scanR, h x (by simp), if_neg (by simp)]
      split
      · rfl
      · exact ih fun y hy => h y (by simp [hy])
  exact fun h => key _ fun x hx => h x (List.mem_reverse.1 hx)
theorem scopeG_yes {l : List Int} {x : Int} (hx : is x = true) : ∀ {fs : List Int}, (∀ f ∈ fs, bd f = false) → scopeG is bd (l ++ [x] ++ fs) = true := by
  intro fs
  have key : ∀ r : List Int, (∀ f ∈ r, bd f = false) → scopeG is bd (l ++ [x] ++ r.reverse) = true := by
    intro r
    induction r with
    | nil => intro _; rw [List.reverse_nil, List.append_nil, scopeG_snoc, hx, if_pos rfl]
    | cons y r ih =>
      intro h
      rw [List.reverse_cons, ← List.append_assoc, scopeG_snoc]
      split
      · rfl
      · rw [h y (by simp), if_neg (by simp)]
        exact ih fun z hz => h z (by simp [hz])
  intro h
  have := key fs.reverse fun f hf => h f (List.mem_reverse.1 hf)
  rwa [List.reverse_reverse] at this
theorem popTo_app {l : List Int} {x : Int} (hx : is x = true) : ∀ {fs : List Int}, (∀ f ∈ fs, is f = false) → popTo is (l ++ [x] ++ fs) = (true, l) := by
  intro fs h
  have key : ∀ r : List Int, (∀ f ∈ r, is f = false) → popR is (l ++ [x] ++ r.reverse).reverse = some l.reverse := by
    intro r
    induction r with
    | nil => intro _; rw [List.reverse_nil, List.append_nil, popR_snoc, hx, if_pos rfl]
    | cons y r ih =>
      intro h
      rw [List.reverse_cons, ← List.append_assoc, popR_snoc, h y (by simp), if_neg (by simp)]
      exact ih fun z hz => h z (by simp [hz])
  have := key fs.reverse fun f hf => h f (List.mem_reverse.1 hf)
  rw [List.reverse_reverse] at this
  exact popTo_yes this
end
def faultQ (q : BQ) : BQ := { q with errs := q.errs + 1 }
section
variable {k : Ctx} {w : World} {b a s l r : Nat} {q : BQ} {A : List Node_one} {K : Int → List Int} {st : List Int} {ns : List ByteArray} {kd ch : Int} {nm : ByteArray}
theorem b_shut_spec {name but : ByteArray} {bb : Bool} {st2 : List Int} (h : BI A K st ns) (hl : st.length ≤ 1000000) (hs : name.size < 1000000) (hd : dropL (implA A but) st = st) (hb : nmB A (topI st) name = bb) (hp : (popTo (namA A [name]) st).2 = st2) (h9 : q.errs ≤ 1000000000) (h0 : 0 ≤ q.errs) (hO : Own k w [blk b 65 (bC a s l r q), arenaL a A, stkL s a st]) :
    Tri Tryz.prog 120 #[.pointer (some ⟨b, 0, none⟩), .string name, .string but] k w fun v m => m = [blk b 65 (bC a s l r (if bb = true then q else faultQ q)), arenaL a A, stkL s a st2] := by
  refine enter (args := [.pointer (some ⟨b, 0, none⟩), .string name, .string but]) Tryz.func120 rfl rfl ?_
  subst hp
  refine K0 (K1 ?_)
  refine l_y rfl rfl (y_move rfl) ?_
  refine l_y rfl rfl (y_nilCheck rfl rfl) ?_
  refine l_y rfl rfl (y_fldb (o' := 1) rfl) ?_
  refine l_y rfl rfl (D5 hO rfl) ?_
  refine l_y rfl rfl (y_move rfl) ?_
  refine CK [.o a, .o s] hO rfl (fun k' hx hr hO' => sImplied_spec (but := but) h.pos h.tree.attrs h.stk.el hl hO') ?_
  rintro _ _ w ⟨rfl, rfl⟩ hO
  simp only [List.cons_append, List.nil_append] at hO
  rw [hd] at hO
  refine K2 (K3 (K0 (K0 (K1 ?_))))
  refine l_y rfl rfl (y_move rfl) ?_
  refine l_y rfl rfl (y_move rfl) ?_
  refine CK [.b b, .o a, .o s] hO rfl (fun k' hx hr hO' => b_top_spec h.pos h.tree.attrs hl hs hb hO') ?_
  rintro _ _ w ⟨rfl, rfl⟩ hO
  simp only [List.cons_append, List.nil_append] at hO
  refine l_y rfl rfl (y_not rfl rfl) ?_
  refine K2 (K3 ?_)
  refine c_split rfl (fun hc15 => ?_) (fun hc15 => ?_)
  · simp only [Bool.not_eq_true', Bool.not_eq_false'] at hc15
    refine K1 ?_
    refine l_y rfl rfl (y_move rfl) ?_
    refine CK [.b b] hO rfl (fun k' hx hr hO' => b_fault_spec h9 h0 hO') ?_
    rintro _ _ w ⟨rfl, rfl⟩ hO
    simp only [List.cons_append, List.nil_append] at hO
    refine K2 (K3 (K1 ?_))
    refine l_y rfl rfl (y_move rfl) ?_
    refine l_y rfl rfl (y_nilCheck rfl rfl) ?_
    refine l_y rfl rfl (y_fldb (o' := 1) rfl) ?_
    refine l_y rfl rfl (D5 hO rfl) ?_
    refine l_y rfl rfl (y_move rfl) ?_
    refine CK [.o a, .o s] hO rfl (fun k' hx hr hO' => sPopTo_spec (name := name) h.pos h.tree.attrs h.stk.el hl hO') ?_
    rintro _ _ w ⟨rfl, rfl⟩ hO
    simp only [List.cons_append, List.nil_append] at hO
    refine K2 ?_
    cases bb <;> first | exact absurd hc15 (by decide) | exact fin0 rfl ⟨_, rfl, hO.only [.b b, .o a, .o s]⟩
  · simp only [Bool.not_eq_true', Bool.not_eq_false'] at hc15
    refine K5 (K3 (K1 ?_))
    refine l_y rfl rfl (y_move rfl) ?_
    refine l_y rfl rfl (y_nilCheck rfl rfl) ?_
    refine l_y rfl rfl (y_fldb (o' := 1) rfl) ?_
    refine l_y rfl rfl (D5 hO rfl) ?_
    refine l_y rfl rfl (y_move rfl) ?_
    refine CK [.o a, .o s] hO rfl (fun k' hx hr hO' => sPopTo_spec (name := name) h.pos h.tree.attrs h.stk.el hl hO') ?_
    rintro _ _ w ⟨rfl, rfl⟩ hO
    simp only [List.cons_append, List.nil_append] at hO
    refine K2 ?_
    cases bb <;> first | exact absurd hc15 (by decide) | exact fin0 rfl ⟨_, rfl, hO.only [.b b, .o a, .o s]⟩
theorem wordsB_p : wordsB pS = [pS] := by kernel_rfl
theorem b_shutP0_spec (h : BI A K st ns) (hl : st.length ≤ 1000000) (hp : ∀ n ∈ ns, n ≠ pS) (hO : Own k w [blk b 65 (bC a s l r q), arenaL a A, stkL s a st]) :
    Tri Tryz.prog 200 #[.pointer (some ⟨b, 0, none⟩)] k w fun v m => m = [blk b 65 (bC a s l r q), arenaL a A, stkL s a st] := by
  refine enter (args := [.pointer (some ⟨b, 0, none⟩)]) Tryz.func200 rfl rfl ?_
  refine K0 (K1 ?_)
  refine l_y rfl rfl (y_move rfl) ?_
  refine CK [.b b, .o a, .o s] hO rfl (fun k' hx hr hO' => b_in_spec (names := pS) (kind := 2) (bb := false) h.pos h.tree.attrs h.stk.el hl (by decide) (by
      rw [wordsB_p]
      have e : scopeL A (namA A [pS]) 2 st = false := by
        rw [scopeL, if_neg (by decide)]
        refine scopeG_no fun x hx => ?_
        obtain ⟨i, hi, rfl⟩ := mem_at hx
        rw [h.nam hi]
        have := hp _ (at_mem (xs := ns) (i := i) (by rw [h.len]; exact hi))
        simp [inB, this]
      simp [e]) hO') ?_
  rintro _ _ w ⟨rfl, rfl⟩ hO
  simp only [List.cons_append, List.nil_append] at hO
  refine K2 (K3 (L9 (K5 ?_)))
  exact fin0 rfl ⟨_, rfl, hO.only [.b b, .o a, .o s]⟩
theorem b_shutIn_spec {name but : ByteArray} {kind : Int} {bb : Bool} {st2 : List Int} (h : BI A K st ns) (hl : st.length ≤ 1000000) (hs : name.size < 1000000) (hi : ((wordsB name).any fun x => scopeL A (namA A [x]) kind st) = true) (hd : dropL (implA A but) st = st) (hb : nmB A (topI st) name = bb) (hp : (popTo (namA A [name]) st).2 = st2) (h9 : q.errs ≤ 1000000000) (h0 : 0 ≤ q.errs) (hO : Own k w [blk b 65 (bC a s l r q), arenaL a A, stkL s a st]) :
    Tri Tryz.prog 208 #[.pointer (some ⟨b, 0, none⟩), .string name, .string but, .int .i64 kind] k w fun v m => v = .bool false ∧ m = [blk b 65 (bC a s l r (if bb = true then q else faultQ q)), arenaL a A, stkL s a st2] := by
  refine enter (args := [.pointer (some ⟨b, 0, none⟩), .string name, .string but, .int .i64 kind]) Tryz.func208 rfl rfl ?_
  refine K0 (K1 ?_)
  refine l_y rfl rfl (y_assign rfl) ?_
  refine K2 (K3 (K0 (K0 (K1 ?_))))
  refine l_y rfl rfl (y_move rfl) ?_
  refine l_y rfl rfl (y_move rfl) ?_
  refine l_y rfl rfl (y_move rfl) ?_
  refine CK [.b b, .o a, .o s] hO rfl (fun k' hx hr hO' => b_in_spec (bb := true) h.pos h.tree.attrs h.stk.el hl hs hi hO') ?_
  rintro _ _ w ⟨rfl, rfl⟩ hO
  simp only [List.cons_append, List.nil_append] at hO
  refine l_y rfl rfl (y_not rfl rfl) ?_
  refine K2 (K3 (L9 (K5 (K3 (K0 (K1 ?_))))))
  refine l_y rfl rfl (y_move rfl) ?_
  refine l_y rfl rfl (y_move rfl) ?_
  refine l_y rfl rfl (y_move rfl) ?_
  refine CK [.b b, .o a, .o s] hO rfl (fun k' hx hr hO' => b_shut_spec h hl hs hd hb hp h9 h0 hO') ?_
  rintro _ _ w rfl hO
  simp only [List.cons_append, List.nil_append] at hO
  refine K2 (K3 (K0 (K1 ?_)))
  refine l_y rfl rfl (y_assign rfl) ?_
  refine K2 (K3 (K6 ?_))
  exact fin1 rfl rfl ⟨_, ⟨rfl, rfl⟩, hO.only [.b b, .o a, .o s]⟩
theorem b_unclosed_spec (h : BI A K st ns) (hl : st.length ≤ 1000000) (hO : Own k w [blk b 65 (bC a s l r q), arenaL a A, stkL s a st]) :
    Tri Tryz.prog 109 #[.pointer (some ⟨b, 0, none⟩)] k w fun v m => ∃ bb, v = .bool bb ∧ m = [blk b 65 (bC a s l r q), arenaL a A, stkL s a st] := by
  refine enter (args := [.pointer (some ⟨b, 0, none⟩)]) Tryz.func109 rfl rfl ?_
  refine K0 (K1 ?_)
  refine l_y rfl rfl (y_assign rfl) ?_
  refine K2 (K3 (K0 (K0 (K1 ?_))))
  refine l_y rfl rfl (y_move rfl) ?_
  refine l_y rfl rfl (y_nilCheck rfl rfl) ?_
  refine l_y rfl rfl (y_fldb (o' := 1) rfl) ?_
  refine l_y rfl rfl (D5 hO rfl) ?_
  refine CK [.o s] hO rfl (fun k' hx hr hO' => sLenC_spec hO') ?_
  rintro _ _ w ⟨rfl, rfl⟩ hO
  simp only [List.cons_append, List.nil_append] at hO
  refine l_y rfl rfl (y_move rfl) ?_
  refine K2 (K3 (K4 ?_))
  refine c_rounds (X := Nat) (fun i => [(0, .pointer (some ⟨b, 0, none⟩)), (2, .bool false), (8, .int .i64 ((st.length : Nat) : Int)), (9, .int .i64 (i : Int))]) (fun i w => Own k w [blk b 65 (bC a s l r q), arenaL a A, stkL s a st] ∧ (i ≤ st.length)) (fun i => st.length - i) (0) ⟨rfl, rfl, rfl, rfl, trivial⟩ ⟨hO.only [.b b, .o a, .o s], Nat.zero_le _⟩ ?_
  rintro i w m hm ⟨hO, hi⟩
  refine K0 (K1 ?_)
  refine Z0 (fun h2_0 => ?_) (fun h2_0 => ?_)
  · refine K2 (K3 (K0 (L8 (K5 (K3 (K0 (K4 (K0 (K1 ?_)))))))))
    refine l_y rfl rfl (y_move rfl) ?_
    refine l_y rfl rfl (y_assign rfl) ?_
    refine K2 (K3 (K0 (K1 ?_)))
    refine l_y rfl rfl (y_move rfl) ?_
    refine l_y rfl rfl (y_move rfl) ?_
    refine l_y rfl rfl (y_nilCheck rfl rfl) ?_
    refine l_y rfl rfl (y_fldb (o' := 1) rfl) ?_
    refine l_y rfl rfl (D5 hO rfl) ?_
    refine l_y rfl rfl (y_move rfl) ?_
    refine CK [.o s] hO rfl (fun k' hx hr hO' => sAtC_spec (x := ((i : Nat) : Int)) hl hO') ?_
    rintro _ _ w ⟨rfl, rfl⟩ hO
    simp only [List.cons_append, List.nil_append] at hO
    refine CK [.b b, .o a] hO rfl (fun k' hx hr hO' => b_named_spec (bb := nmB A (atI st ((i : Nat) : Int)) ⟨#[100, 100, 32, 100, 116, 32, 108, 105, 32, 111, 112, 116, 103, 114, 111, 117, 112, 32, 111, 112, 116, 105, 111, 110, 32, 112, 32, 114, 98, 32, 114, 112, 32, 114, 116, 32, 114, 116, 99, 32, 116, 98, 111, 100, 121, 32, 116, 100, 32, 116, 102, 111, 111, 116, 32, 116, 104, 32, 116, 104, 101, 97, 100, 32, 116, 114, 32, 98, 111, 100, 121, 32, 104, 116, 109, 108]⟩) h.pos h.tree.attrs (by decide) rfl hO') ?_
    rintro _ _ w ⟨rfl, rfl⟩ hO
    simp only [List.cons_append, List.nil_append] at hO
    refine l_y rfl rfl (y_not rfl rfl) ?_
    refine K2 (K3 ?_)
    refine c_split rfl (fun hc20 => ?_) (fun hc20 => ?_)
    · simp only [Bool.not_eq_true', Bool.not_eq_false'] at hc20
      refine K0 (K1 ?_)
      refine l_y rfl rfl (y_assign rfl) ?_
      refine K2 (K3 (K6 (L0 (K9 (K9 (L0 (K9 ?_)))))))
      exact fin1 rfl rfl ⟨_, ⟨_, rfl, rfl⟩, hO.only [.b b, .o a, .o s]⟩
    · simp only [Bool.not_eq_true', Bool.not_eq_false'] at hc20
      refine K5 (K8 (K3 (K1 ?_)))
      refine l_y rfl rfl (D4) ?_
      refine l_y rfl rfl (y_move rfl) ?_
      refine K2 ?_
      exact q_next (i + 1) ⟨rfl, rfl, rfl, rfl, trivial⟩ ⟨hO.only [.b b, .o a, .o s], by omega⟩ (by omega)
  · refine K2 (K3 (K0 (L9 (K7 (L1 (L1 (L2 (K3 (K0 (K1 ?_))))))))))
    refine l_y rfl rfl (y_assign rfl) ?_
    refine K2 (K3 (K6 ?_))
    exact fin1 rfl rfl ⟨_, ⟨_, rfl, rfl⟩, hO.only [.b b, .o a, .o s]⟩
theorem b_stop_spec (hl : st.length ≤ 1000000) (hne : ∀ x ∈ st, x ≠ -1) (hO : Own k w [blk b 65 (bC a s l r q), stkL s a st]) :
    Tri Tryz.prog 110 #[.pointer (some ⟨b, 0, none⟩)] k w fun v m => v = .bool false ∧ m = [blk b 65 (bC a s l r { q with over := true }), stkL s a []] := by
  refine enter (args := [.pointer (some ⟨b, 0, none⟩)]) Tryz.func110 rfl rfl ?_
  refine K0 (K1 ?_)
  refine l_y rfl rfl (y_assign rfl) ?_
  refine K2 (K3 (K0 (K4 ?_)))
  refine c_rounds (X := List Int) (fun x => [(0, .pointer (some ⟨b, 0, none⟩)), (2, .bool false)]) (fun x w => Own k w [blk b 65 (bC a s l r q), stkL s a x] ∧ (x.length ≤ 1000000 ∧ ∀ y ∈ x, y ≠ -1)) (fun x => x.length) (st) ⟨rfl, rfl, trivial⟩ ⟨hO.only [.b b, .o s], ⟨hl, hne⟩⟩ ?_
  rintro x w m hm ⟨hO, hx2⟩
  refine K0 (K0 (K1 ?_))
  refine l_y rfl rfl (y_move rfl) ?_
  refine l_y rfl rfl (y_nilCheck rfl rfl) ?_
  refine l_y rfl rfl (y_fldb (o' := 1) rfl) ?_
  refine l_y rfl rfl (D5 hO rfl) ?_
  refine CK [.o s] hO rfl (fun k' hx hr hO' => sLenC_spec hO') ?_
  rintro _ _ w ⟨rfl, rfl⟩ hO
  simp only [List.cons_append, List.nil_append] at hO
  refine Z0 (fun h1_5 => ?_) (fun h1_5 => ?_)
  · refine K2 (K3 (L8 (K5 (K3 (K4 (K1 ?_))))))
    refine l_y rfl rfl (y_move rfl) ?_
    refine l_y rfl rfl (y_nilCheck rfl rfl) ?_
    refine l_y rfl rfl (y_fldb (o' := 1) rfl) ?_
    refine l_y rfl rfl (D5 hO rfl) ?_
    refine CK [.o s] hO rfl (fun k' hx hr hO' => sPop_spec hx2.1 hx2.2 hO') ?_
    rintro _ _ w ⟨rfl, rfl⟩ hO
    simp only [List.cons_append, List.nil_append] at hO
    refine K2 (K8 ?_)
    exact q_next (x.take (x.length - 1)) ⟨rfl, rfl, trivial⟩ ⟨hO.only [.b b, .o s], ⟨by rw [List.length_take]; omega, fun y hy => hx2.2 y (List.mem_of_mem_take hy)⟩⟩ (by rw [List.length_take]; omega)
  · refine K2 (K3 (L9 (K7 (L1 (L1 (L2 (K3 (K0 ?_))))))))
    obtain rfl : x = [] := List.eq_nil_of_length_eq_zero (by omega)
    refine K1 ?_
    refine l_y rfl rfl (y_move rfl) ?_
    refine l_y rfl rfl (y_nilCheck rfl rfl) ?_
    refine l_y rfl rfl (y_fldb (o' := 19) rfl) ?_
    refine Y1 hO rfl rfl (fun w hO => ?_)
    simp only [List.set_cons_zero, List.set_cons_succ] at hO
    refine K2 (K3 (K0 (K1 ?_)))
    refine l_y rfl rfl (y_assign rfl) ?_
    refine K2 (K3 (K6 ?_))
    exact fin1 rfl rfl ⟨_, ⟨rfl, rfl⟩, hO.only [.b b, .o s]⟩
end
end Go.Proofs.YtpejdlfkaaiehaaGreatDoor
end
section
set_option linter.unusedVariables false
set_option linter.unusedSimpArgs false
set_option maxRecDepth 100000
namespace Go.Proofs.YtpejdlfkaaiehaaGreatDoor
open Go Go.Hb Go.RowKit
section
variable {P : Program} {ops : Array Oper} {Q : Exit → Act → World → Prop} {n : Nat} {ds : List Deferred} {E : Env} {w : World} {k : Ctx} {l : List HP}
variable {rest : List Oper} {d : Option Tmp} {ty : TypeId} {pos : String} {aft : Array Edge} {g : Option (Nat × Bool)}
end
section
variable {k : Ctx} {w : World} {s a c : Nat} {p : Option Addr} {L : List Api_entry} {A : List Node_one}
abbrev aB (s a : Nat) (p : Option Addr) (n c : Nat) : HP := blk s 102 [.pointer (some ⟨a, 0, none⟩), .slice p n c]
abbrev aI (p : Option Addr) (c : Nat) (l : List Api_entry) : HP := sls p c 76 10 Api_entry.cells l
def actL (s a : Nat) (l : List Api_entry) : HP := fun h => ∃ x : Option Addr × Nat, sep [aB s a x.1 l.length x.2, aI x.1 x.2 l] h
theorem actL_open {M : List HP} (hO : Own k w (actL s a L :: M)) : ∃ p c, Gs p L.length ∧ L.length ≤ c ∧ Own k w (aB s a p L.length c :: aI p c L :: M) := by
  obtain ⟨⟨p, c⟩, hO⟩ := Own.ex (A := fun (x : Option Addr × Nat) => sep [aB s a x.1 L.length x.2, aI x.1 x.2 L]) hO
  have hO := Own.open hO
  simp only [List.cons_append, List.nil_append] at hO
  exact ⟨p, c, (sls_fct (p := p) hO).2, (sls_fct (p := p) hO).1, hO⟩
theorem actL_shut {M : List HP} {n : Nat} (hO : Own k w (aB s a p n c :: aI p c L :: M)) (hn : n = L.length := by first | rfl | simp) : Own k w (actL s a L :: M) := by
  subst hn
  exact (Own.shut (l := [aB s a p L.length c, aI p c L]) hO).tell fun h hA => ⟨(p, c), hA⟩
instance (priority := high) AtK.hact (s a : Nat) (l : List Api_entry) (M : List HP) : AtK (actL s a l :: M) (.o s) (actL s a l) M := ⟨.hd _ M⟩
theorem aNew_spec {a : Nat} (hn : 0 < A.length) (hO : Own k w [arenaL a A]) :
    Tri Tryz.prog 17 #[.pointer (some ⟨a, 0, none⟩)] k w fun v m => ∃ s, v = .tuple #[.pointer (some ⟨s, 0, none⟩), .int .i64 0] ∧ m = [arenaL a A, actL s a []] := by
  refine enter (args := [.pointer (some ⟨a, 0, none⟩)]) Tryz.func17 rfl rfl ?_
  refine K0 (K1 ?_)
  refine l_y rfl rfl (y_assign rfl) ?_
  refine l_y rfl rfl (y_assign rfl) ?_
  refine K2 (K3 (K0 (K0 (K1 ?_))))
  refine l_y rfl rfl (y_move rfl) ?_
  refine CK [.o a] hO rfl (fun k' hx hr hO' => LenC_spec hn (hO := hO')) ?_
  rintro _ _ w ⟨rfl, rfl⟩ hO
  simp only [List.cons_append, List.nil_append] at hO
  refine N3 ?_
  refine K2 (K3 (L9 (K5 (K3 (K0 (K1 ?_))))))
  refine l_y rfl rfl (y_move rfl) ?_
  refine s_build (parts := [(0, .tmp 7)]) (cs := [.pointer (some ⟨a, 0, none⟩), .slice none 0 0]) rfl rfl (fun a ha => partsOf_sound ha _ _ rfl) (by kernel_rfl) ?_
  refine s_box (vs := [.pointer (some ⟨a, 0, none⟩), .slice none 0 0]) hO rfl rfl rfl (by rfl) fun b9 w hO => ?_
  refine l_y rfl rfl (y_assign rfl) ?_
  refine l_y rfl rfl (y_assign rfl) ?_
  refine K2 (K3 (K6 ?_))
  have hO : Own k w (aI none 0 [] :: _) := sl_nil 76 10 hO
  exact fin2 rfl rfl rfl ⟨_, ⟨_, rfl, rfl⟩, ((actL_shut (L := []) (hO.ks [.b b9, .p none]) rfl).ks [.o a, .o b9]).two⟩
theorem anone_spec {n : Nat} (hO : Own k w [aB s a p n c]) :
    Tri Tryz.prog 65 #[.pointer (some ⟨s, 0, none⟩)] k w fun v m => v = .bool false ∧ m = [aB s a p n c] := by
  refine enter (args := [.pointer (some ⟨s, 0, none⟩)]) Tryz.func65 rfl rfl ?_
  refine K0 (K1 ?_)
  refine l_y rfl rfl (y_assign rfl) ?_
  refine K2 (K3 (K0 (K1 ?_)))
  refine l_y rfl rfl (y_move rfl) ?_
  refine l_y rfl rfl (y_eqPnil rfl rfl rfl) ?_
  refine l_y rfl rfl (y_move rfl) ?_
  refine l_y rfl rfl (y_move rfl) ?_
  refine l_y rfl rfl (y_nilCheck rfl rfl) ?_
  refine l_y rfl rfl (y_fldb (o' := 0) rfl) ?_
  refine l_y rfl rfl (D5 hO rfl) ?_
  refine l_y rfl rfl (y_eqPnil rfl rfl rfl) ?_
  refine l_y rfl rfl (y_pick_f rfl rfl) ?_
  refine l_y rfl rfl (y_assign rfl) ?_
  refine K2 (K3 (K6 ?_))
  exact fin1 rfl rfl ⟨_, ⟨rfl, rfl⟩, hO⟩
theorem aLen_spec (hO : Own k w [actL s a L]) :
    Tri Tryz.prog 22 #[.pointer (some ⟨s, 0, none⟩)] k w fun v m => v = .int .i64 ((L.length : Nat) : Int) ∧ m = [actL s a L] := by
  refine enter (args := [.pointer (some ⟨s, 0, none⟩)]) Tryz.func22 rfl rfl ?_
  obtain ⟨p, c, hg, hlc, hO⟩ := actL_open hO
  refine K0 (K1 ?_)
  refine l_y rfl rfl (y_assign rfl) ?_
  refine K2 (K3 (K0 (K0 (K1 ?_))))
  refine l_y rfl rfl (y_move rfl) ?_
  refine CK [.b s] hO rfl (fun k' hx hr hO' => anone_spec (hO := hO')) ?_
  rintro _ _ w ⟨rfl, rfl⟩ hO
  simp only [List.cons_append, List.nil_append] at hO
  refine K2 (K3 (L9 (K5 (K3 (K0 (K1 ?_))))))
  refine l_y rfl rfl (y_move rfl) ?_
  refine l_y rfl rfl (y_nilCheck rfl rfl) ?_
  refine l_y rfl rfl (y_fldb (o' := 1) rfl) ?_
  refine l_y rfl rfl (D5 hO rfl) ?_
  refine l_y rfl rfl (y_lenL rfl) ?_
  refine l_y rfl rfl (y_assign rfl) ?_
  refine K2 (K3 (K6 ?_))
  exact fin1 rfl rfl ⟨_, ⟨rfl, rfl⟩, (actL_shut (hO.ks [.b s, .p p])).one⟩
theorem aAt_spec {i : Int} (hl : L.length ≤ 2000000) (hO : Own k w [actL s a L]) :
    Tri Tryz.prog 29 #[.pointer (some ⟨s, 0, none⟩), .int .i64 i] k w fun v m => (((i < 0 ∨ (L.length : Int) ≤ i) ∧ v = .tuple #[.agg (Api_entry.cells default).toArray, .int .i64 1]) ∨ ((0 ≤ i ∧ i < L.length) ∧ v = .tuple #[.agg (Api_entry.cells (at_ L i.toNat)).toArray, .int .i64 0])) ∧ m = [actL s a L] := by
  refine enter (args := [.pointer (some ⟨s, 0, none⟩), .int .i64 i]) Tryz.func29 rfl rfl ?_
  obtain ⟨p, c, hg, hlc, hO⟩ := actL_open hO
  refine K0 (K1 ?_)
  refine s_alloc (vs := [.int .i64 0, .int .i64 0, .string ⟨#[]⟩, .string ⟨#[]⟩, .string ⟨#[]⟩, .int .i64 0, .bool false, .int .i32 0, .bool false, .slice none 0 0]) hO rfl rfl rfl fun b4 w hO => ?_
  refine l_y rfl rfl (y_assign rfl) ?_
  refine K2 (K3 (K0 (K4 (K0 (K1 ?_)))))
  refine l_y rfl rfl (y_move rfl) ?_
  refine CK [.b s] hO rfl (fun k' hx hr hO' => anone_spec (hO := hO')) ?_
  rintro _ _ w ⟨rfl, rfl⟩ hO
  simp only [List.cons_append, List.nil_append] at hO
  refine l_y rfl rfl (y_assign rfl) ?_
  refine K2 (K3 (L9 (K0 (K1 ?_))))
  refine l_y rfl rfl (y_move rfl) ?_
  refine Z0 (fun h3_1 => ?_) (fun h3_1 => ?_)
  · refine l_y rfl rfl (y_move rfl) ?_
    repeat refine M2 ?_
    refine l_y rfl rfl (y_pick_t rfl rfl) ?_
    refine l_y rfl rfl (y_assign rfl) ?_
    refine K2 (K3 (L8 (K0 (K1 ?_))))
    refine s_build (parts := []) (cs := [.int .i64 0, .int .i64 0, .string ⟨#[]⟩, .string ⟨#[]⟩, .string ⟨#[]⟩, .int .i64 0, .bool false, .int .i32 0, .bool false, .slice none 0 0]) rfl rfl (fun a ha => partsOf_sound ha _ _ rfl) (by kernel_rfl) ?_
    refine Y3 hO rfl rfl (fun w hO => ?_)
    refine l_y rfl rfl (y_assign rfl) ?_
    refine K2 (K3 (K6 (L0 (K9 ?_))))
    exact finC1 hO rfl rfl rfl ⟨_, ⟨.inl ⟨by omega, rfl⟩, rfl⟩, (actL_shut (hO.ks [.b s, .p p])).one⟩
  · refine l_y rfl rfl (y_move rfl) ?_
    refine l_y rfl rfl (y_move rfl) ?_
    refine l_y rfl rfl (y_move rfl) ?_
    refine l_y rfl rfl (y_nilCheck rfl rfl) ?_
    refine l_y rfl rfl (y_fldb (o' := 1) rfl) ?_
    refine l_y rfl rfl (D5 hO rfl) ?_
    refine l_y rfl rfl (y_lenL rfl) ?_
    refine Z0 (fun h3_9 => ?_) (fun h3_9 => ?_)
    · refine l_y rfl rfl (y_pick_f rfl rfl) ?_
      refine l_y rfl rfl (y_assign rfl) ?_
      refine K2 (K3 (L8 (K0 (K1 ?_))))
      refine s_build (parts := []) (cs := [.int .i64 0, .int .i64 0, .string ⟨#[]⟩, .string ⟨#[]⟩, .string ⟨#[]⟩, .int .i64 0, .bool false, .int .i32 0, .bool false, .slice none 0 0]) rfl rfl (fun a ha => partsOf_sound ha _ _ rfl) (by kernel_rfl) ?_
      refine Y3 hO rfl rfl (fun w hO => ?_)
      refine l_y rfl rfl (y_assign rfl) ?_
      refine K2 (K3 (K6 (L0 (K9 ?_))))
      exact finC1 hO rfl rfl rfl ⟨_, ⟨.inl ⟨by omega, rfl⟩, rfl⟩, (actL_shut (hO.ks [.b s, .p p])).one⟩
    · refine l_y rfl rfl (y_pick_f rfl rfl) ?_
      refine l_y rfl rfl (y_assign rfl) ?_
      refine K2 (K3 (L9 (K5 (K8 (K3 (K0 (K1 ?_)))))))
      refine l_y rfl rfl (y_move rfl) ?_
      refine l_y rfl rfl (y_nilCheck rfl rfl) ?_
      refine l_y rfl rfl (y_fldb (o' := 1) rfl) ?_
      refine l_y rfl rfl (D5 hO rfl) ?_
      refine l_y rfl rfl (y_move rfl) ?_
      refine l_y rfl rfl (y_idx rfl rfl) ?_
      refine l_y rfl rfl (y_eA (x0 := 0) (cs := [.int .i64 (at_ L (i : Int).toNat).Node, .int .i64 (at_ L (i : Int).toNat).Token.Kind, .string (at_ L (i : Int).toNat).Token.Name, .string (at_ L (i : Int).toNat).Token.Data, .string (at_ L (i : Int).toNat).Token.System, .int .i64 (at_ L (i : Int).toNat).Token.Has, .bool (at_ L (i : Int).toNat).Token.Quirks, .int .i32 (at_ L (i : Int).toNat).Token.Char, .bool (at_ L (i : Int).toNat).Token.Self, .slice (at_ L (i : Int).toNat).Token.AttrsP (at_ L (i : Int).toNat).Token.Attrs.length (at_ L (i : Int).toNat).Token.AttrsC]) hO rfl) ?_
      refine Y3 hO rfl rfl (fun w hO => ?_)
      refine l_y rfl rfl (y_assign rfl) ?_
      refine K2 (K3 (K6 ?_))
      exact finC1 hO rfl rfl rfl ⟨_, ⟨.inr ⟨by omega, rfl⟩, rfl⟩, (actL_shut (hO.ks [.b s, .p p])).one⟩
end
end Go.Proofs.YtpejdlfkaaiehaaGreatDoor
end
section
set_option linter.unusedVariables false
set_option linter.unusedSimpArgs false
set_option maxRecDepth 100000
namespace Go.Proofs.YtpejdlfkaaiehaaGreatDoor
open Go Go.Hb Go.RowKit
section
variable {A : List Node_one} {L : List Api_entry}
end
section
variable {A B : List Node_one} {es : List Api_entry} {nm : ByteArray}
end
section
variable {k : Ctx} {w : World} {b a s l r : Nat} {q : BQ} {A : List Node_one} {K : Int → List Int} {st : List Int} {ns : List ByteArray} {nm : ByteArray} {es : List Api_entry}
theorem b_block0_spec (h : BI A K st ns) (hne : st ≠ []) (hp : ∀ n ∈ ns, n ≠ pS) (hnt : inB nm templL = false ∧ inB nm tableL = false) (hns : nm.size ≤ 1000) (hA : A.length ≤ 30000) (hO : Own k w [blk b 65 (bC a s l r q), arenaL a A, stkL s a st]) :
    Tri Tryz.prog 158 #[.pointer (some ⟨b, 0, none⟩), .agg (Api_token.cells (tk 1 nm 0)).toArray] k w fun v m => ∃ p d, v = .bool false ∧ m = [blk b 65 (bC a s l r q), arenaL a (addA A (elementN p d 0 nm []) (topI st)), stkL s a (st ++ [(A.length : Int)])] := by
  refine enter (args := [.pointer (some ⟨b, 0, none⟩), .agg (Api_token.cells (tk 1 nm 0)).toArray]) Tryz.func158 rfl rfl ?_
  have hl : st.length ≤ 1000000 := by have := h.len_st; omega
  refine K0 (K1 ?_)
  refine s_box (vs := [.int .i64 1, .string nm, .string ⟨#[]⟩, .string ⟨#[]⟩, .int .i64 0, .bool false, .int .i32 0, .bool false, .slice none 0 0]) hO rfl rfl rfl (by rfl) fun b3 w hO => ?_
  refine l_y rfl rfl (y_assign rfl) ?_
  refine K2 (K3 (K0 (K1 ?_)))
  refine l_y rfl rfl (y_move rfl) ?_
  refine CK [.b b, .o a, .o s] hO rfl (fun k' hx hr hO' => b_shutP0_spec h hl hp hO') ?_
  rintro _ _ w rfl hO
  simp only [List.cons_append, List.nil_append] at hO
  refine K2 (K3 (K0 (K1 ?_)))
  refine l_y rfl rfl (y_move rfl) ?_
  refine l_y rfl rfl (D8 (cs := [.int .i64 1, .string nm, .string ⟨#[]⟩, .string ⟨#[]⟩, .int .i64 0, .bool false, .int .i32 0, .bool false, .slice none 0 0]) hO rfl) ?_
  refine CK [.b b, .o a, .o s] hO rfl (fun k' hx hr hO' => b_put_spec (kd := 1) (nm := nm) (ch := 0) h hne hnt hns hA hO') ?_
  rintro _ _ w ⟨p1, d1, rfl, rfl⟩ hO
  simp only [List.cons_append, List.nil_append] at hO
  refine K2 (K3 (K0 (K1 ?_)))
  refine l_y rfl rfl (y_assign rfl) ?_
  refine K2 (K3 (K6 ?_))
  exact fin1 rfl rfl ⟨_, ⟨p1, d1, rfl, rfl⟩, hO.only [.b b, .o a, .o s]⟩
theorem b_endBlock_spec {bb : Bool} {st2 : List Int} (h : BI A K st ns) (hl : st.length ≤ 1000000) (hs : nm.size < 1000000) (hi : ((wordsB nm).any fun x => scopeL A (namA A [x]) 0 st) = true) (hd : dropL (implA A ⟨#[]⟩) st = st) (hb : nmB A (topI st) nm = bb) (hp : (popTo (namA A [nm]) st).2 = st2) (h9 : q.errs ≤ 1000000000) (h0 : 0 ≤ q.errs) (hO : Own k w [blk b 65 (bC a s l r q), arenaL a A, stkL s a st]) :
    Tri Tryz.prog 170 #[.pointer (some ⟨b, 0, none⟩), .agg (Api_token.cells (tk 2 nm 0)).toArray] k w fun v m => v = .bool false ∧ m = [blk b 65 (bC a s l r (if bb = true then q else faultQ q)), arenaL a A, stkL s a st2] := by
  refine enter (args := [.pointer (some ⟨b, 0, none⟩), .agg (Api_token.cells (tk 2 nm 0)).toArray]) Tryz.func170 rfl rfl ?_
  refine K0 (K1 ?_)
  refine s_box (vs := [.int .i64 2, .string nm, .string ⟨#[]⟩, .string ⟨#[]⟩, .int .i64 0, .bool false, .int .i32 0, .bool false, .slice none 0 0]) hO rfl rfl rfl (by rfl) fun b3 w hO => ?_
  refine l_y rfl rfl (y_assign rfl) ?_
  refine K2 (K3 (K0 (K1 ?_)))
  refine l_y rfl rfl (y_move rfl) ?_
  refine l_y rfl rfl (y_fldb (o' := 0) rfl) ?_
  refine l_y rfl rfl (y_fldb (o' := 1) rfl) ?_
  refine l_y rfl rfl (D5 hO rfl) ?_
  refine CK [.b b, .o a, .o s] hO rfl (fun k' hx hr hO' => b_shutIn_spec h hl hs hi hd hb hp h9 h0 hO') ?_
  rintro _ _ w ⟨rfl, rfl⟩ hO
  simp only [List.cons_append, List.nil_append] at hO
  refine l_y rfl rfl (y_assign rfl) ?_
  refine K2 (K3 (K6 ?_))
  exact fin1 rfl rfl ⟨_, ⟨rfl, rfl⟩, hO.only [.b b, .o a, .o s]⟩
/-- nothing to open again: the last entry's node is open -/
theorem b_rebuild0_spec (hl : st.length ≤ 1000000) (hel : es.length ≤ 2000000) (hL : es = [] ∨ 0 ≤ findI st (at_ es (es.length - 1)).Node) (hO : Own k w [blk b 65 (bC a s l r q), stkL s a st, actL l a es]) :
    Tri Tryz.prog 108 #[.pointer (some ⟨b, 0, none⟩)] k w fun v m => m = [blk b 65 (bC a s l r q), stkL s a st, actL l a es] := by
  refine enter (args := [.pointer (some ⟨b, 0, none⟩)]) Tryz.func108 rfl rfl ?_
  refine K0 (K1 ?_)
  refine l_y rfl rfl (y_move rfl) ?_
  refine l_y rfl rfl (y_nilCheck rfl rfl) ?_
  refine l_y rfl rfl (y_fldb (o' := 2) rfl) ?_
  refine l_y rfl rfl (D5 hO rfl) ?_
  refine CK [.o l] hO rfl (fun k' hx hr hO' => aLen_spec (hO := hO')) ?_
  rintro _ _ w ⟨rfl, rfl⟩ hO
  simp only [List.cons_append, List.nil_append] at hO
  refine l_y rfl rfl (y_assign rfl) ?_
  refine K2 (K3 (K0 (K1 ?_)))
  refine l_y rfl rfl (y_move rfl) ?_
  refine l_y rfl rfl (y_assign rfl) ?_
  refine K2 (K3 (K0 (K4 ?_)))
  refine c_rounds (X := Unit) (fun u => [(0, .pointer (some ⟨b, 0, none⟩)), (2, .int .i64 ((es.length : Nat) : Int)), (3, .int .i64 ((es.length : Nat) : Int))]) (fun u w => Own k w [blk b 65 (bC a s l r q), stkL s a st, actL l a es] ∧ (True)) (fun u => 0) (()) ⟨rfl, rfl, rfl, trivial⟩ ⟨hO.only [.b b, .o s, .o l], trivial⟩ ?_
  rintro u w m hm ⟨hO, hT0⟩
  refine K0 (K0 (K1 ?_))
  refine l_y rfl rfl (y_move rfl) ?_
  refine Z0 (fun h2_1 => ?_) (fun h2_1 => ?_)
  · refine K2 (K3 (L8 (K5 (K3 (K4 (K0 (K1 ?_)))))))
    refine l_y rfl rfl (y_move rfl) ?_
    refine l_y rfl rfl (y_nilCheck rfl rfl) ?_
    refine l_y rfl rfl (y_fldb (o' := 2) rfl) ?_
    refine l_y rfl rfl (D5 hO rfl) ?_
    refine l_y rfl rfl (y_move rfl) ?_
    refine l_y rfl rfl (D4) ?_
    have hL := hL.resolve_left (by rintro rfl; exact absurd h2_1 (by decide))
    refine CK [.o l] hO rfl (fun k' hx hr hO' => aAt_spec (i := ((es.length : Nat) : Int) - 1) hel hO') ?_
    rintro _ _ w ⟨hv, rfl⟩ hO
    simp only [List.cons_append, List.nil_append] at hO
    obtain ⟨_, rfl⟩ := hv.resolve_left (fun hh => by omega)
    obtain ⟨e0, he0⟩ : ∃ e0, e0 = at_ es (((es.length : Nat) : Int) - 1).toNat := ⟨_, rfl⟩
    rw [← he0]
    have he1 : e0 = at_ es (es.length - 1) := by rw [he0]; congr 1; omega
    rw [← he1] at hL
    refine l_y rfl rfl (y_move rfl) ?_
    refine l_y rfl rfl (y_extract rfl rfl) ?_
    refine l_y rfl rfl (y_extract rfl rfl) ?_
    refine s_alloc (vs := [.int .i64 0, .int .i64 0, .string ⟨#[]⟩, .string ⟨#[]⟩, .string ⟨#[]⟩, .int .i64 0, .bool false, .int .i32 0, .bool false, .slice none 0 0]) hO rfl rfl rfl fun b4 w hO => ?_
    refine Y3 hO rfl rfl (fun w hO => ?_)
    refine l_y rfl rfl (y_assign rfl) ?_
    refine K2 (K3 (K0 (K0 ?_)))
    refine da_region (by intro c a d v w h; cases d <;> exact h) ?_
    have hO := hO.drew
    refine da_phase _ [10] (SO.ks [.b b4, .b b] hO) ?_
    refine dx_u 0 (by kernel_rfl) rfl rfl rfl (fun w => y_fldb (o' := 0) rfl) ?_
    refine dx_y 1 (by kernel_rfl) rfl rfl rfl (fun w ⟨m, hw⟩ => D5 hw rfl) ?_
    refine dx_u 2 (by kernel_rfl) rfl rfl rfl (fun w => y_cmpI rfl rfl rfl) ?_
    refine dx_u 3 (by kernel_rfl) rfl rfl rfl (fun w => y_move rfl) ?_
    refine dx_split 30 rfl (fun hg30 => ?_) (fun hg30 => ?_)
    · have h4_2 := of_decide_eq_true hg30
      refine dx_pass 4 (by kernel_rfl) rfl rfl rfl ?_
      refine dx_pass 5 (by kernel_rfl) rfl rfl rfl ?_
      refine dx_pass 6 (by kernel_rfl) rfl rfl rfl ?_
      refine dx_pass 7 (by kernel_rfl) rfl rfl rfl ?_
      refine dx_pass 8 (by kernel_rfl) rfl rfl rfl ?_
      refine dx_pass 9 (by kernel_rfl) rfl rfl rfl ?_
      refine dx_close 10 (by kernel_rfl) rfl rfl ?_
      refine M2 ?_
      refine o_done ?_
      refine da_phase _ [] (SO.ks [] hO) ?_
      refine dx_pass 11 (by kernel_rfl) rfl rfl rfl ?_
      refine dx_u 12 (by kernel_rfl) rfl rfl rfl (fun w => y_pick_t rfl rfl) ?_
      refine dx_end (by kernel_rfl) ?_
      refine K3 (L8 (K7 (L1 (L7 (L1 (L2 (K3 (K0 (K1 ?_)))))))))
      refine l_y rfl rfl (y_move rfl) ?_
      refine l_y rfl rfl (y_assign rfl) ?_
      refine K2 (K3 (K4 ?_))
      refine c_rounds (X := Unit) (fun u => [(0, .pointer (some ⟨b, 0, none⟩)), (2, .int .i64 ((es.length : Nat) : Int)), (6, .int .i64 ((es.length : Nat) : Int))]) (fun u w => Own k w [blk b 65 (bC a s l r q), stkL s a st, actL l a es] ∧ (True)) (fun u => 0) (()) ⟨rfl, rfl, rfl, trivial⟩ ⟨hO.only [.b b, .o s, .o l], trivial⟩ ?_
      rintro u w m hm ⟨hO, hT0⟩
      refine K0 (K0 (K1 ?_))
      refine l_y rfl rfl (y_move rfl) ?_
      refine l_y rfl rfl (y_move rfl) ?_
      refine N3 ?_
      refine K2 (K3 (L9 (K7 (L1 (L1 (L2 ?_))))))
      exact fin0 rfl ⟨_, rfl, hO.only [.b b, .o s, .o l]⟩
    · have h4_2 := of_decide_eq_false hg30
      refine dx_u 4 (by kernel_rfl) rfl rfl rfl (fun w => y_move rfl) ?_
      refine dx_u 5 (by kernel_rfl) rfl rfl rfl (fun w => y_nilCheck rfl rfl) ?_
      refine dx_u 6 (by kernel_rfl) rfl rfl rfl (fun w => y_fldb (o' := 1) rfl) ?_
      refine dx_y 7 (by kernel_rfl) rfl rfl rfl (fun w ⟨m, hw⟩ => D5 hw rfl) ?_
      refine dx_u 8 (by kernel_rfl) rfl rfl rfl (fun w => y_fldb (o' := 0) rfl) ?_
      refine dx_y 9 (by kernel_rfl) rfl rfl rfl (fun w ⟨m, hw⟩ => D5 hw rfl) ?_
      refine dx_close 10 (by kernel_rfl) rfl rfl ?_
      refine CK [.o s] hO rfl (fun k' hx hr hO' => sFindC_spec (x := e0.Node) hl hO') ?_
      rintro _ _ w ⟨rfl, rfl⟩ hO
      simp only [List.cons_append, List.nil_append] at hO
      refine o_done ?_
      refine da_phase _ [] (SO.ks [] hO) ?_
      refine dx_y 11 (by kernel_rfl) rfl rfl rfl (fun w ⟨m, hw⟩ => D0) ?_
      refine dx_u 12 (by kernel_rfl) rfl rfl rfl (fun w => y_pick_f rfl rfl) ?_
      refine dx_end (by kernel_rfl) ?_
      refine K3 (L8 (K7 (L1 (L7 (L1 (L2 (K3 (K0 (K1 ?_)))))))))
      refine l_y rfl rfl (y_move rfl) ?_
      refine l_y rfl rfl (y_assign rfl) ?_
      refine K2 (K3 (K4 ?_))
      refine c_rounds (X := Unit) (fun u => [(0, .pointer (some ⟨b, 0, none⟩)), (2, .int .i64 ((es.length : Nat) : Int)), (6, .int .i64 ((es.length : Nat) : Int))]) (fun u w => Own k w [blk b 65 (bC a s l r q), stkL s a st, actL l a es] ∧ (True)) (fun u => 0) (()) ⟨rfl, rfl, rfl, trivial⟩ ⟨hO.only [.b b, .o s, .o l], trivial⟩ ?_
      rintro u w m hm ⟨hO, hT0⟩
      refine K0 (K0 (K1 ?_))
      refine l_y rfl rfl (y_move rfl) ?_
      refine l_y rfl rfl (y_move rfl) ?_
      refine N3 ?_
      refine K2 (K3 (L9 (K7 (L1 (L1 (L2 ?_))))))
      exact fin0 rfl ⟨_, rfl, hO.only [.b b, .o s, .o l]⟩
  · refine K2 (K3 (L9 (K7 (L1 (L1 (L2 (K3 (K0 (K1 ?_)))))))))
    refine l_y rfl rfl (y_move rfl) ?_
    refine l_y rfl rfl (y_assign rfl) ?_
    refine K2 (K3 (K4 ?_))
    refine c_rounds (X := Unit) (fun u => [(0, .pointer (some ⟨b, 0, none⟩)), (2, .int .i64 ((es.length : Nat) : Int)), (6, .int .i64 ((es.length : Nat) : Int))]) (fun u w => Own k w [blk b 65 (bC a s l r q), stkL s a st, actL l a es] ∧ (True)) (fun u => 0) (()) ⟨rfl, rfl, rfl, trivial⟩ ⟨hO.only [.b b, .o s, .o l], trivial⟩ ?_
    rintro u w m hm ⟨hO, hT0⟩
    refine K0 (K0 (K1 ?_))
    refine l_y rfl rfl (y_move rfl) ?_
    refine l_y rfl rfl (y_move rfl) ?_
    refine N3 ?_
    refine K2 (K3 (L9 (K7 (L1 (L1 (L2 ?_))))))
    exact fin0 rfl ⟨_, rfl, hO.only [.b b, .o s, .o l]⟩
end
end Go.Proofs.YtpejdlfkaaiehaaGreatDoor
end
section
set_option linter.unusedVariables false
set_option linter.unusedSimpArgs false
set_option maxRecDepth 100000
namespace Go.Proofs.YtpejdlfkaaiehaaGreatDoor
open Go Go.Hb Go.RowKit
section
variable {A : List Node_one} {K : Int → List Int} {es : List Api_entry} {nm : ByteArray} {up : Int} {n : Api_node}
theorem addKK_new (hu : InA A up) : addKK A K up (A.length : Int) = [] := by
  rw [addKK, linkK, if_neg (by have := hu.2; omega), addK, if_pos rfl]
end
section
variable {k : Ctx} {w : World} {b a s l r : Nat} {q : BQ} {A : List Node_one} {K : Int → List Int} {st : List Int} {ns : List ByteArray} {nm : ByteArray} {es : List Api_entry}
end
end Go.Proofs.YtpejdlfkaaiehaaGreatDoor
end
section
set_option linter.unusedVariables false
set_option linter.unusedSimpArgs false
set_option maxRecDepth 100000
namespace Go.Proofs.YtpejdlfkaaiehaaGreatDoor
open Go Go.Hb Go.RowKit
section
variable {k : Ctx} {w : World} {b a s l r : Nat} {q : BQ} {A : List Node_one} {K : Int → List Int} {st : List Int} {ns : List ByteArray} {nm : ByteArray} {es : List Api_entry}
theorem startsL_size : ∀ g ∈ startsL, g.names.size < 1000000 := by decide
set_option maxHeartbeats 1000000 in
theorem b_inBody1_spec {j : Nat} {f : FuncId} [hF : Fun Tryz.prog f] {R : Value → List HP → Prop} (hsn : (decide ((1 : Int) = 1) && oneB nm ⟨#[110, 111, 115, 99, 114, 105, 112, 116]⟩) = false) (hj : j < 10) (hno : ∀ i, i < j → oneB nm (at_ startsL i).names = false) (hyes : oneB nm (at_ startsL j).names = true) (hf : (at_ startsL j).f = f)
    (hcall : ∀ k' w', Own k' w' [blk b 65 (bC a s l r q), arenaL a A, stkL s a st, actL l a es] → Tri Tryz.prog f #[.pointer (some ⟨b, 0, none⟩), .agg (Api_token.cells (tk 1 nm 0)).toArray] k' w' R) (hO : Own k w [blk b 65 (bC a s l r q), arenaL a A, stkL s a st, actL l a es]) :
    Tri Tryz.prog 48 #[.pointer (some ⟨b, 0, none⟩), .agg (Api_token.cells (tk 1 nm 0)).toArray] k w R := by
  refine enter (args := [.pointer (some ⟨b, 0, none⟩), .agg (Api_token.cells (tk 1 nm 0)).toArray]) Tryz.func48 rfl rfl ?_
  have hlen : startsL.length = 10 := rfl
  refine K0 (K1 ?_)
  refine s_box (vs := [.int .i64 1, .string nm, .string ⟨#[]⟩, .string ⟨#[]⟩, .int .i64 0, .bool false, .int .i32 0, .bool false, .slice none 0 0]) hO rfl rfl rfl (by rfl) fun b3 w hO => ?_
  refine l_y rfl rfl (y_assign rfl) ?_
  refine K2 (K3 (K0 (K1 ?_)))
  refine CK [] hO rfl (fun k' hx hr hO' => starts_spec hO') ?_
  rintro _ _ w ⟨g1, rfl, rfl⟩ hO
  simp only [List.cons_append, List.nil_append] at hO
  have hO : Own k w (sls (some ⟨g1, 0, none⟩) 10 129 2 Grp.cells startsL :: _) := hO
  refine l_y rfl rfl (y_assign rfl) ?_
  refine l_y rfl rfl (y_assign rfl) ?_
  refine K2 (K3 (K0 (K0 (K1 ?_))))
  refine l_y rfl rfl (y_fldb (o' := 0) rfl) ?_
  refine l_y rfl rfl (y_fldb (o' := 0) rfl) ?_
  refine l_y rfl rfl (D5 hO rfl) ?_
  refine K2 (K3 (K4 (K0 (K1 ?_))))
  refine N3 ?_
  refine l_y rfl rfl (y_assign rfl) ?_
  refine K2 (K3 (L9 (K0 (K1 ?_))))
  refine N3 ?_
  refine l_y rfl rfl (y_assign rfl) ?_
  refine K2 (K3 (L9 (K0 (K1 ?_))))
  refine N3 ?_
  refine l_y rfl rfl (y_assign rfl) ?_
  refine K2 (K3 (L9 (K0 (K1 ?_))))
  refine N3 ?_
  refine l_y rfl rfl (y_assign rfl) ?_
  refine K2 (K3 (L9 (K0 (K1 ?_))))
  refine N3 ?_
  refine l_y rfl rfl (y_assign rfl) ?_
  refine K2 (K3 (L9 (K5 (K8 (K3 (K0 (K0 (K1 ?_))))))))
  refine l_y rfl rfl (D8 (cs := [.int .i64 1, .string nm, .string ⟨#[]⟩, .string ⟨#[]⟩, .int .i64 0, .bool false, .int .i32 0, .bool false, .slice none 0 0]) hO rfl) ?_
  refine CK [] hO rfl (fun k' hx hr hO' => t_start_spec (kd := 1) (nm := nm) (ch := 0) (b := false) (by decide) hsn hO') ?_
  rintro _ _ w ⟨rfl, rfl⟩ hO
  simp only [List.cons_append, List.nil_append] at hO
  refine l_y rfl rfl (y_move rfl) ?_
  repeat refine M2 ?_
  refine l_y rfl rfl (y_pick_f rfl rfl) ?_
  refine K2 (K3 (L9 (K5 (K3 (K0 (K0 (K1 ?_)))))))
  refine l_y rfl rfl (y_move rfl) ?_
  refine l_y rfl rfl (y_lenL rfl) ?_
  refine l_y rfl rfl (y_move rfl) ?_
  refine K2 (K3 (K4 ?_))
  refine c_rounds (X := Nat) (fun i => [(0, .pointer (some ⟨b, 0, none⟩)), (3, .pointer (some ⟨b3, 0, none⟩)), (4, .bool false), (6, .func (.func 107) #[] #[]), (82, .slice (some ⟨g1, 0, none⟩) 10 10), (83, .int .i64 10), (84, .int .i64 (i : Int))]) (fun i w => Own k w [blk b 65 (bC a s l r q), arenaL a A, stkL s a st, actL l a es, blk b3 67 (Api_token.cells (tk 1 nm 0)), sls (some ⟨g1, 0, none⟩) 10 129 2 Grp.cells startsL] ∧ (i ≤ j)) (fun i => j + 1 - i) (0) ⟨rfl, rfl, rfl, rfl, rfl, rfl, rfl, trivial⟩ ⟨hO.only [.b b, .o a, .o s, .o l, .b b3, .p (some ⟨g1, 0, none⟩)], Nat.zero_le _⟩ ?_
  rintro i w m hm ⟨hO, hi⟩
  refine K0 (K1 ?_)
  refine N2 ?_
  refine K2 (K3 (K0 (L8 (K5 (K3 (K0 (K4 (K0 ?_))))))))
  obtain ⟨nm0, f0, hg0⟩ : ∃ nm0 f0, at_ startsL ((i : Nat) : Int).toNat = ⟨nm0, f0⟩ := ⟨_, _, rfl⟩
  have hn0 : (at_ startsL i).names = nm0 := congrArg Grp.names hg0
  have hf0 : (at_ startsL i).f = f0 := congrArg Grp.f hg0
  have hsz : nm0.size < 1000000 := by rw [← hn0]; exact startsL_size _ (at_mem (by omega))
  have hgs : Gs (some ⟨g1, 0, none⟩) 10 := .some _ _ _
  refine K1 ?_
  refine l_y rfl rfl (y_idx rfl rfl) ?_
  refine l_y rfl rfl (y_eA (x0 := 0) (cs := [.string nm0, .func (.func f0) #[] #[]]) hO rfl (hv := by rw [hg0]; rfl)) ?_
  refine s_alloc (vs := [.string ⟨#[]⟩, .nilFunc]) hO rfl rfl rfl fun b8 w hO => ?_
  refine Y3 hO rfl rfl (fun w hO => ?_)
  refine K2 (K3 (K0 (K1 ?_)))
  refine l_y rfl rfl (y_fldb (o' := 0) rfl) ?_
  refine l_y rfl rfl (y_fldb (o' := 1) rfl) ?_
  refine l_y rfl rfl (D5 hO rfl) ?_
  refine l_y rfl rfl (y_fldb (o' := 0) rfl) ?_
  refine l_y rfl rfl (D5 hO rfl) ?_
  refine CK [] hO rfl (fun k' hx hr hO' => one_spec (b := oneB nm nm0) hsz rfl hO') ?_
  rintro _ _ w ⟨rfl, rfl⟩ hO
  simp only [List.cons_append, List.nil_append] at hO
  refine K2 (K3 ?_)
  refine c_split rfl (fun hc93 => ?_) (fun hc93 => ?_)
  · refine K0 ?_
    have hij : i = j := by
      by_cases e : i < j
      · have := hno i e; rw [hn0, hc93] at this; cases this
      · omega
    subst hij
    obtain rfl : f0 = f := hf0.symm.trans hf
    refine K1 ?_
    refine l_y rfl rfl (y_fldb (o' := 1) rfl) ?_
    refine l_y rfl rfl (D5 hO rfl) ?_
    refine l_y rfl rfl (y_move rfl) ?_
    refine l_y rfl rfl (D8 (cs := [.int .i64 1, .string nm, .string ⟨#[]⟩, .string ⟨#[]⟩, .int .i64 0, .bool false, .int .i32 0, .bool false, .slice none 0 0]) hO rfl) ?_
    refine CKv [.b b, .o a, .o s, .o l] hO rfl rfl (fun k' hx hr hO' => hcall k' _ hO') ?_
    rintro v m w hR hO
    refine l_y rfl rfl (y_assign rfl) ?_
    refine K2 (K3 (K6 (L0 (K9 (K9 (L0 (K9 ?_)))))))
    exact fin1 rfl rfl ⟨_, hR, hO.front⟩
  · refine K5 (K8 (K3 (K1 ?_)))
    refine l_y rfl rfl (D4) ?_
    refine l_y rfl rfl (y_move rfl) ?_
    refine K2 ?_
    have hij : i ≠ j := by
      rintro rfl
      rw [hn0, hc93] at hyes; cases hyes
    exact q_next (i + 1) ⟨rfl, rfl, rfl, rfl, rfl, rfl, rfl, trivial⟩ ⟨hO.only [.b b, .o a, .o s, .o l, .b b3, .p (some ⟨g1, 0, none⟩)], by omega⟩ (by omega)
theorem endsL_size : ∀ g ∈ endsL, g.names.size < 1000000 := by decide
set_option maxHeartbeats 1000000 in
theorem b_inBody2_spec {j : Nat} {f : FuncId} [hF : Fun Tryz.prog f] {R : Value → List HP → Prop} (hsn : (decide ((2 : Int) = 1) && oneB nm ⟨#[110, 111, 115, 99, 114, 105, 112, 116]⟩) = false) (hj : j < 6) (hno : ∀ i, i < j → oneB nm (at_ endsL i).names = false) (hyes : oneB nm (at_ endsL j).names = true) (hf : (at_ endsL j).f = f)
    (hcall : ∀ k' w', Own k' w' [blk b 65 (bC a s l r q), arenaL a A, stkL s a st, actL l a es] → Tri Tryz.prog f #[.pointer (some ⟨b, 0, none⟩), .agg (Api_token.cells (tk 2 nm 0)).toArray] k' w' R) (hO : Own k w [blk b 65 (bC a s l r q), arenaL a A, stkL s a st, actL l a es]) :
    Tri Tryz.prog 48 #[.pointer (some ⟨b, 0, none⟩), .agg (Api_token.cells (tk 2 nm 0)).toArray] k w R := by
  refine enter (args := [.pointer (some ⟨b, 0, none⟩), .agg (Api_token.cells (tk 2 nm 0)).toArray]) Tryz.func48 rfl rfl ?_
  have hlen : endsL.length = 6 := rfl
  refine K0 (K1 ?_)
  refine s_box (vs := [.int .i64 2, .string nm, .string ⟨#[]⟩, .string ⟨#[]⟩, .int .i64 0, .bool false, .int .i32 0, .bool false, .slice none 0 0]) hO rfl rfl rfl (by rfl) fun b3 w hO => ?_
  refine l_y rfl rfl (y_assign rfl) ?_
  refine K2 (K3 (K0 (K1 ?_)))
  refine CK [] hO rfl (fun k' hx hr hO' => starts_spec hO') ?_
  rintro _ _ w ⟨g1, rfl, rfl⟩ hO
  simp only [List.cons_append, List.nil_append] at hO
  have hO : Own k w (sls (some ⟨g1, 0, none⟩) 10 129 2 Grp.cells startsL :: _) := hO
  refine l_y rfl rfl (y_assign rfl) ?_
  refine l_y rfl rfl (y_assign rfl) ?_
  refine K2 (K3 (K0 (K0 (K1 ?_))))
  refine l_y rfl rfl (y_fldb (o' := 0) rfl) ?_
  refine l_y rfl rfl (y_fldb (o' := 0) rfl) ?_
  refine l_y rfl rfl (D5 hO rfl) ?_
  refine K2 (K3 (K4 (K0 (K1 ?_))))
  refine N3 ?_
  refine l_y rfl rfl (y_assign rfl) ?_
  refine K2 (K3 (L9 (K0 (K1 ?_))))
  refine N3 ?_
  refine l_y rfl rfl (y_assign rfl) ?_
  refine K2 (K3 (L9 (K0 (K1 ?_))))
  refine N3 ?_
  refine l_y rfl rfl (y_assign rfl) ?_
  refine K2 (K3 (L9 (K0 (K1 ?_))))
  refine N3 ?_
  refine l_y rfl rfl (y_assign rfl) ?_
  refine K2 (K3 (L9 (K0 (K1 ?_))))
  refine N2 ?_
  refine l_y rfl rfl (y_assign rfl) ?_
  refine K2 (K3 (L8 (K1 ?_)))
  refine CK [] hO rfl (fun k' hx hr hO' => ends_spec hO') ?_
  rintro _ _ w ⟨g2, rfl, rfl⟩ hO
  simp only [List.cons_append, List.nil_append] at hO
  have hO : Own k w (sls (some ⟨g2, 0, none⟩) 6 129 2 Grp.cells endsL :: _) := hO
  refine l_y rfl rfl (y_assign rfl) ?_
  refine l_y rfl rfl (y_assign rfl) ?_
  refine K2 (K8 (K3 (K0 (K0 (K1 ?_)))))
  refine l_y rfl rfl (D8 (cs := [.int .i64 2, .string nm, .string ⟨#[]⟩, .string ⟨#[]⟩, .int .i64 0, .bool false, .int .i32 0, .bool false, .slice none 0 0]) hO rfl) ?_
  refine CK [] hO rfl (fun k' hx hr hO' => t_start_spec (kd := 2) (nm := nm) (ch := 0) (b := false) (by decide) hsn hO') ?_
  rintro _ _ w ⟨rfl, rfl⟩ hO
  simp only [List.cons_append, List.nil_append] at hO
  refine l_y rfl rfl (y_move rfl) ?_
  repeat refine M2 ?_
  refine l_y rfl rfl (y_pick_f rfl rfl) ?_
  refine K2 (K3 (L9 (K5 (K3 (K0 (K0 (K1 ?_)))))))
  refine l_y rfl rfl (y_move rfl) ?_
  refine l_y rfl rfl (y_lenL rfl) ?_
  refine l_y rfl rfl (y_move rfl) ?_
  refine K2 (K3 (K4 ?_))
  refine c_rounds (X := Nat) (fun i => [(0, .pointer (some ⟨b, 0, none⟩)), (3, .pointer (some ⟨b3, 0, none⟩)), (4, .bool false), (6, .func (.func 112) #[] #[]), (82, .slice (some ⟨g2, 0, none⟩) 6 6), (83, .int .i64 6), (84, .int .i64 (i : Int))]) (fun i w => Own k w [blk b 65 (bC a s l r q), arenaL a A, stkL s a st, actL l a es, blk b3 67 (Api_token.cells (tk 2 nm 0)), sls (some ⟨g2, 0, none⟩) 6 129 2 Grp.cells endsL] ∧ (i ≤ j)) (fun i => j + 1 - i) (0) ⟨rfl, rfl, rfl, rfl, rfl, rfl, rfl, trivial⟩ ⟨hO.only [.b b, .o a, .o s, .o l, .b b3, .p (some ⟨g2, 0, none⟩)], Nat.zero_le _⟩ ?_
  rintro i w m hm ⟨hO, hi⟩
  refine K0 (K1 ?_)
  refine N2 ?_
  refine K2 (K3 (K0 (L8 (K5 (K3 (K0 (K4 (K0 ?_))))))))
  obtain ⟨nm0, f0, hg0⟩ : ∃ nm0 f0, at_ endsL ((i : Nat) : Int).toNat = ⟨nm0, f0⟩ := ⟨_, _, rfl⟩
  have hn0 : (at_ endsL i).names = nm0 := congrArg Grp.names hg0
  have hf0 : (at_ endsL i).f = f0 := congrArg Grp.f hg0
  have hsz : nm0.size < 1000000 := by rw [← hn0]; exact endsL_size _ (at_mem (by omega))
  have hgs : Gs (some ⟨g2, 0, none⟩) 6 := .some _ _ _
  refine K1 ?_
  refine l_y rfl rfl (y_idx rfl rfl) ?_
  refine l_y rfl rfl (y_eA (x0 := 0) (cs := [.string nm0, .func (.func f0) #[] #[]]) hO rfl (hv := by rw [hg0]; rfl)) ?_
  refine s_alloc (vs := [.string ⟨#[]⟩, .nilFunc]) hO rfl rfl rfl fun b8 w hO => ?_
  refine Y3 hO rfl rfl (fun w hO => ?_)
  refine K2 (K3 (K0 (K1 ?_)))
  refine l_y rfl rfl (y_fldb (o' := 0) rfl) ?_
  refine l_y rfl rfl (y_fldb (o' := 1) rfl) ?_
  refine l_y rfl rfl (D5 hO rfl) ?_
  refine l_y rfl rfl (y_fldb (o' := 0) rfl) ?_
  refine l_y rfl rfl (D5 hO rfl) ?_
  refine CK [] hO rfl (fun k' hx hr hO' => one_spec (b := oneB nm nm0) hsz rfl hO') ?_
  rintro _ _ w ⟨rfl, rfl⟩ hO
  simp only [List.cons_append, List.nil_append] at hO
  refine K2 (K3 ?_)
  refine c_split rfl (fun hc93 => ?_) (fun hc93 => ?_)
  · refine K0 ?_
    have hij : i = j := by
      by_cases e : i < j
      · have := hno i e; rw [hn0, hc93] at this; cases this
      · omega
    subst hij
    obtain rfl : f0 = f := hf0.symm.trans hf
    refine K1 ?_
    refine l_y rfl rfl (y_fldb (o' := 1) rfl) ?_
    refine l_y rfl rfl (D5 hO rfl) ?_
    refine l_y rfl rfl (y_move rfl) ?_
    refine l_y rfl rfl (D8 (cs := [.int .i64 2, .string nm, .string ⟨#[]⟩, .string ⟨#[]⟩, .int .i64 0, .bool false, .int .i32 0, .bool false, .slice none 0 0]) hO rfl) ?_
    refine CKv [.b b, .o a, .o s, .o l] hO rfl rfl (fun k' hx hr hO' => hcall k' _ hO') ?_
    rintro v m w hR hO
    refine l_y rfl rfl (y_assign rfl) ?_
    refine K2 (K3 (K6 (L0 (K9 (K9 (L0 (K9 ?_)))))))
    exact fin1 rfl rfl ⟨_, hR, hO.front⟩
  · refine K5 (K8 (K3 (K1 ?_)))
    refine l_y rfl rfl (D4) ?_
    refine l_y rfl rfl (y_move rfl) ?_
    refine K2 ?_
    have hij : i ≠ j := by
      rintro rfl
      rw [hn0, hc93] at hyes; cases hyes
    exact q_next (i + 1) ⟨rfl, rfl, rfl, rfl, rfl, rfl, rfl, trivial⟩ ⟨hO.only [.b b, .o a, .o s, .o l, .b b3, .p (some ⟨g2, 0, none⟩)], by omega⟩ (by omega)
set_option maxHeartbeats 1000000 in
theorem b_inBodyC_spec {D : List Node_one → (Int → List Int) → List Int → List Api_entry → List ByteArray → Prop}
    (hreb : ∀ k' w', Own k' w' [blk b 65 (bC a s l r q), arenaL a A, stkL s a st, actL l a es] → Tri Tryz.prog 108 #[.pointer (some ⟨b, 0, none⟩)] k' w' fun v m => ∃ A2 KK st2 es2 ns2, D A2 KK st2 es2 ns2 ∧ m = [blk b 65 (bC a s l r q), arenaL a A2, stkL s a st2, actL l a es2])
    (hD : ∀ {A2 KK st2 es2 ns2}, D A2 KK st2 es2 ns2 → BI A2 KK st2 ns2 ∧ st2 ≠ [] ∧ KK (topI st2) = [] ∧ topI st2 ≠ 0 ∧ A2.length ≤ 30000) (hO : Own k w [blk b 65 (bC a s l r q), arenaL a A, stkL s a st, actL l a es]) :
    Tri Tryz.prog 48 #[.pointer (some ⟨b, 0, none⟩), .agg (Api_token.cells (tk 4 ⟨#[]⟩ 120)).toArray] k w fun v m => ∃ A2 KK st2 es2 ns2, D A2 KK st2 es2 ns2 ∧ v = .bool false ∧ m = [blk b 65 (bC a s l r { q with framed := true }), arenaL a (addA A2 (textN (runesBytes [120])) (topI st2)), stkL s a st2, actL l a es2] := by
  refine enter (args := [.pointer (some ⟨b, 0, none⟩), .agg (Api_token.cells (tk 4 ⟨#[]⟩ 120)).toArray]) Tryz.func48 rfl rfl ?_
  refine K0 (K1 ?_)
  refine s_box (vs := [.int .i64 4, .string ⟨#[]⟩, .string ⟨#[]⟩, .string ⟨#[]⟩, .int .i64 0, .bool false, .int .i32 120, .bool false, .slice none 0 0]) hO rfl rfl rfl (by rfl) fun b3 w hO => ?_
  refine l_y rfl rfl (y_assign rfl) ?_
  refine K2 (K3 (K0 (K1 ?_)))
  refine CK [] hO rfl (fun k' hx hr hO' => starts_spec hO') ?_
  rintro _ _ w ⟨g1, rfl, rfl⟩ hO
  simp only [List.cons_append, List.nil_append] at hO
  refine l_y rfl rfl (y_assign rfl) ?_
  refine l_y rfl rfl (y_assign rfl) ?_
  refine K2 (K3 (K0 (K0 (K1 ?_))))
  refine l_y rfl rfl (y_fldb (o' := 0) rfl) ?_
  refine l_y rfl rfl (y_fldb (o' := 0) rfl) ?_
  refine l_y rfl rfl (D5 hO rfl) ?_
  refine K2 (K3 (K4 (K0 (K1 ?_))))
  refine N2 ?_
  refine l_y rfl rfl (y_assign rfl) ?_
  refine K2 (K3 (L8 (K0 (K0 (K1 ?_)))))
  refine l_y rfl rfl (y_fldb (o' := 0) rfl) ?_
  refine l_y rfl rfl (y_fldb (o' := 6) rfl) ?_
  refine l_y rfl rfl (D5 hO rfl) ?_
  refine N3 ?_
  refine K2 (K3 (L9 (K5 (K3 (K0 (K1 ?_))))))
  refine l_y rfl rfl (y_move rfl) ?_
  refine CK [.b b, .o a, .o s, .o l] hO rfl (fun k' hx hr hO' => hreb k' _ hO') ?_
  rintro _ _ w ⟨A2, KK, st2, es2, ns2, hDD, rfl⟩ hO
  simp only [List.cons_append, List.nil_append] at hO
  obtain ⟨h2, hne2, hKK, hz2, hA2⟩ := hD hDD
  refine K2 (K3 (K0 (K1 ?_)))
  refine l_y rfl rfl (y_move rfl) ?_
  refine l_y rfl rfl (y_move rfl) ?_
  refine l_y rfl rfl (y_nilCheck rfl rfl) ?_
  refine l_y rfl rfl (y_fldb (o' := 14) rfl) ?_
  refine l_y rfl rfl (D5 hO rfl) ?_
  refine l_y rfl rfl (y_move rfl) ?_
  refine l_split 28 rfl (fun hg28 => ?_) (fun hg28 => ?_)
  · repeat refine M2 ?_
    refine l_y rfl rfl (y_pick_t rfl rfl) ?_
    refine l_y rfl rfl (y_nilCheck rfl rfl) ?_
    refine l_y rfl rfl (y_fldb (o' := 14) rfl) ?_
    refine Y1 hO rfl rfl (fun w hO => ?_)
    simp only [List.set_cons_zero, List.set_cons_succ] at hO
    refine K2 (K3 (K0 (K1 ?_)))
    refine l_y rfl rfl (y_move rfl) ?_
    refine l_y rfl rfl (y_fldb (o' := 0) rfl) ?_
    refine l_y rfl rfl (y_fldb (o' := 6) rfl) ?_
    refine l_y rfl rfl (D5 hO rfl) ?_
    refine CK [.b b, .o a, .o s] hO rfl (fun k' hx hr hO' => b_char_spec (q := { q with framed := true }) h2 hne2 hKK hz2 (by rw [show runesBytes [120] = ⟨#[120]⟩ from by kernel_rfl]; decide) hA2 hO') ?_
    rintro _ _ w ⟨rfl, rfl⟩ hO
    simp only [List.cons_append, List.nil_append] at hO
    refine l_y rfl rfl (y_assign rfl) ?_
    refine K2 (K3 (K6 (L0 (K9 ?_))))
    exact fin1 rfl rfl ⟨_, ⟨A2, KK, st2, es2, ns2, hDD, rfl, rfl⟩, hO.only [.b b, .o a, .o s, .o l]⟩
  · refine l_y rfl rfl (D8 (cs := [.int .i64 4, .string ⟨#[]⟩, .string ⟨#[]⟩, .string ⟨#[]⟩, .int .i64 0, .bool false, .int .i32 120, .bool false, .slice none 0 0]) hO rfl) ?_
    refine CK [] hO rfl (fun k' hx hr hO' => t_blank_spec (b := false) (by kernel_rfl) (hO := hO')) ?_
    rintro _ _ w ⟨rfl, rfl⟩ hO
    simp only [List.cons_append, List.nil_append] at hO
    refine l_y rfl rfl (y_not rfl rfl) ?_
    refine l_y rfl rfl (y_pick_f rfl rfl) ?_
    refine l_y rfl rfl (y_nilCheck rfl rfl) ?_
    refine l_y rfl rfl (y_fldb (o' := 14) rfl) ?_
    refine Y1 hO rfl rfl (fun w hO => ?_)
    simp only [List.set_cons_zero, List.set_cons_succ] at hO
    refine K2 (K3 (K0 (K1 ?_)))
    refine l_y rfl rfl (y_move rfl) ?_
    refine l_y rfl rfl (y_fldb (o' := 0) rfl) ?_
    refine l_y rfl rfl (y_fldb (o' := 6) rfl) ?_
    refine l_y rfl rfl (D5 hO rfl) ?_
    refine CK [.b b, .o a, .o s] hO rfl (fun k' hx hr hO' => b_char_spec (q := { q with framed := true }) h2 hne2 hKK hz2 (by rw [show runesBytes [120] = ⟨#[120]⟩ from by kernel_rfl]; decide) hA2 hO') ?_
    rintro _ _ w ⟨rfl, rfl⟩ hO
    simp only [List.cons_append, List.nil_append] at hO
    refine l_y rfl rfl (y_assign rfl) ?_
    refine K2 (K3 (K6 (L0 (K9 ?_))))
    exact fin1 rfl rfl ⟨_, ⟨A2, KK, st2, es2, ns2, hDD, rfl, rfl⟩, hO.only [.b b, .o a, .o s, .o l]⟩
set_option maxHeartbeats 1000000 in
theorem b_inBodyE_spec (h : BI A K st ns) (hl : st.length ≤ 1000000) (h9 : q.errs ≤ 1000000000) (h0 : 0 ≤ q.errs) (hO : Own k w [blk b 65 (bC a s l r q), arenaL a A, stkL s a st, actL l a es]) :
    Tri Tryz.prog 48 #[.pointer (some ⟨b, 0, none⟩), .agg (Api_token.cells (tk 5 ⟨#[]⟩ 0)).toArray] k w fun v m => ∃ q2, v = .bool false ∧ m = [blk b 65 (bC a s l r q2), arenaL a A, stkL s a [], actL l a es] := by
  refine enter (args := [.pointer (some ⟨b, 0, none⟩), .agg (Api_token.cells (tk 5 ⟨#[]⟩ 0)).toArray]) Tryz.func48 rfl rfl ?_
  refine K0 (K1 ?_)
  refine s_box (vs := [.int .i64 5, .string ⟨#[]⟩, .string ⟨#[]⟩, .string ⟨#[]⟩, .int .i64 0, .bool false, .int .i32 0, .bool false, .slice none 0 0]) hO rfl rfl rfl (by rfl) fun b3 w hO => ?_
  refine l_y rfl rfl (y_assign rfl) ?_
  refine K2 (K3 (K0 (K1 ?_)))
  refine CK [] hO rfl (fun k' hx hr hO' => starts_spec hO') ?_
  rintro _ _ w ⟨g1, rfl, rfl⟩ hO
  simp only [List.cons_append, List.nil_append] at hO
  refine l_y rfl rfl (y_assign rfl) ?_
  refine l_y rfl rfl (y_assign rfl) ?_
  refine K2 (K3 (K0 (K0 (K1 ?_))))
  refine l_y rfl rfl (y_fldb (o' := 0) rfl) ?_
  refine l_y rfl rfl (y_fldb (o' := 0) rfl) ?_
  refine l_y rfl rfl (D5 hO rfl) ?_
  refine K2 (K3 (K4 (K0 (K1 ?_))))
  refine N3 ?_
  refine l_y rfl rfl (y_assign rfl) ?_
  refine K2 (K3 (L9 (K0 (K1 ?_))))
  refine N3 ?_
  refine l_y rfl rfl (y_assign rfl) ?_
  refine K2 (K3 (L9 (K0 (K1 ?_))))
  refine N3 ?_
  refine l_y rfl rfl (y_assign rfl) ?_
  refine K2 (K3 (L9 (K0 (K1 ?_))))
  refine N2 ?_
  refine l_y rfl rfl (y_assign rfl) ?_
  refine K2 (K3 (L8 (K0 (K4 (K0 (K1 ?_))))))
  refine l_y rfl rfl (y_move rfl) ?_
  refine l_y rfl rfl (y_nilCheck rfl rfl) ?_
  refine l_y rfl rfl (y_fldb (o' := 6) rfl) ?_
  refine l_y rfl rfl (D5 hO rfl) ?_
  refine l_y rfl rfl (y_lenL rfl) ?_
  refine N3 ?_
  refine l_y rfl rfl (y_assign rfl) ?_
  refine K2 (K3 (L9 (K0 (K1 ?_))))
  refine l_y rfl rfl (y_move rfl) ?_
  refine CK [.b b, .o a, .o s] hO rfl (fun k' hx hr hO' => b_unclosed_spec h hl hO') ?_
  rintro _ _ w ⟨bb, rfl, rfl⟩ hO
  simp only [List.cons_append, List.nil_append] at hO
  refine l_y rfl rfl (y_assign rfl) ?_
  refine K2 (K3 ?_)
  refine c_split rfl (fun hc61 => ?_) (fun hc61 => ?_)
  · refine K1 ?_
    refine l_y rfl rfl (y_move rfl) ?_
    refine CK [.b b] hO rfl (fun k' hx hr hO' => b_fault_spec h9 h0 hO') ?_
    rintro _ _ w ⟨rfl, rfl⟩ hO
    simp only [List.cons_append, List.nil_append] at hO
    refine K2 (K8 (K3 (K0 (K1 ?_))))
    refine l_y rfl rfl (y_move rfl) ?_
    refine CK [.b b, .o s] hO rfl (fun k' hx hr hO' => b_stop_spec hl h.ne hO') ?_
    rintro _ _ w ⟨rfl, rfl⟩ hO
    simp only [List.cons_append, List.nil_append] at hO
    refine l_y rfl rfl (y_assign rfl) ?_
    refine K2 (K3 (K6 (L0 (K9 ?_))))
    exact fin1 rfl rfl ⟨_, ⟨_, rfl, rfl⟩, hO.only [.b b, .o a, .o s, .o l]⟩
  · refine K5 (K8 (K3 (K0 (K1 ?_))))
    refine l_y rfl rfl (y_move rfl) ?_
    refine CK [.b b, .o s] hO rfl (fun k' hx hr hO' => b_stop_spec hl h.ne hO') ?_
    rintro _ _ w ⟨rfl, rfl⟩ hO
    simp only [List.cons_append, List.nil_append] at hO
    refine l_y rfl rfl (y_assign rfl) ?_
    refine K2 (K3 (K6 (L0 (K9 ?_))))
    exact fin1 rfl rfl ⟨_, ⟨_, rfl, rfl⟩, hO.only [.b b, .o a, .o s, .o l]⟩
end
end Go.Proofs.YtpejdlfkaaiehaaGreatDoor
end
