/- The walks of the answer's stack beside the program's; no condition. -/
import Derived.Test.YtbhicbpfdbnpfaaStk5
import Derived.Test.YtbhicbpfdbnpfaaPlay1
set_option linter.unusedVariables false
set_option linter.unusedSimpArgs false
set_option maxRecDepth 100000
namespace Go.Proofs.Ytbhicbpfdbnpfaa
open Go Go.Hb Go.RowKit
abbrev tB (t r : Nat) (q : Option Addr) (n d : Nat) : HP := blk t 149 [.pointer (some ⟨r, 0, none⟩), .slice q n d]
def rstkL (t r : Nat) (l : List Int) : HP := fun h => ∃ x : Option Addr × Nat, sep [tB t r x.1 l.length x.2, sI x.1 x.2 l] h
theorem rstkL_open {k : Ctx} {w : World} {L : List HP} {t r : Nat} {l : List Int} (hO : Own k w (rstkL t r l :: L)) : ∃ q d, Gs q l.length ∧ l.length ≤ d ∧ Own k w (tB t r q l.length d :: sI q d l :: L) := by
  obtain ⟨⟨q, d⟩, hO⟩ := Own.ex (A := fun (x : Option Addr × Nat) => sep [tB t r x.1 l.length x.2, sI x.1 x.2 l]) hO
  have hO := Own.open hO
  simp only [List.cons_append, List.nil_append] at hO
  exact ⟨q, d, (sls_fct (p := q) hO).2, (sls_fct (p := q) hO).1, hO⟩
theorem rstkL_shut {k : Ctx} {w : World} {L : List HP} {t r n : Nat} {l : List Int} {q : Option Addr} {d : Nat} (hO : Own k w (tB t r q n d :: sI q d l :: L)) (hn : n = l.length := by first | rfl | simp) : Own k w (rstkL t r l :: L) := by
  subst hn
  exact (Own.shut (l := [tB t r q l.length d, sI q d l]) hO).tell fun h hA => ⟨(q, d), hA⟩
instance (priority := high) AtK.hrstk (t r : Nat) (l : List Int) (L : List HP) : AtK (rstkL t r l :: L) (.o t) (rstkL t r l) L := ⟨.hd _ L⟩
theorem Sim.el {A : List Node_one} {K : Int → List Int} {R : List Ref01_one} (s : Sim A K R) {id : Int} : elB A id = (hasR R id && decide ((at_ R id.toNat).Kind = 1)) := by
  rw [elB, ← s.has]
  cases h : hasR R id with
  | false => rfl
  | true => rw [(s.atB (by rw [← s.has]; exact h)).kind]
section
variable {k : Ctx} {w : World} {r t c : Nat} {p : Option Addr} {A : List Node_one} {K : Int → List Int} {R : List Ref01_one} {l : List Int} {id kind : Int} {name : ByteArray}
theorem tEl_spec (s : Sim A K R) (hg : Gs p R.length) (hO : Own k w [rB r p R.length c, rS p c R]) :
    Tri Try.prog 151 #[.pointer (some ⟨r, 0, none⟩), .int .i64 id] k w fun v m => v = .bool (elB A id) ∧ m = [rB r p R.length c, rS p c R] := by
  refine enter (args := [.pointer (some ⟨r, 0, none⟩), .int .i64 id]) Try.func151 rfl rfl ?_
  refine K0 (K1 ?_)
  refine l_y rfl rfl (y_assign rfl) ?_
  refine K2 (K3 (K0 (K1 ?_)))
  refine l_y rfl rfl (y_move rfl) ?_
  refine l_y rfl rfl (y_move rfl) ?_
  refine CK [.b r, .p p] hO rfl (fun k' hx hr hO' => Is_spec (hO := hO')) ?_
  rintro _ _ w ⟨rfl, rfl⟩ hO
  simp only [List.cons_append, List.nil_append] at hO
  refine l_y rfl rfl (y_move rfl) ?_
  refine l_split 8 rfl (fun hg8 => ?_) (fun hg8 => ?_)
  · have hid := hasR_true hg8
    refine l_y rfl rfl (y_move rfl) ?_
    refine l_y rfl rfl (y_nilCheck rfl rfl) ?_
    refine l_y rfl rfl (y_fldb (o' := 0) rfl) ?_
    refine l_y rfl rfl (D5 hO rfl) ?_
    refine l_y rfl rfl (y_move rfl) ?_
    refine l_y rfl rfl (y_idx rfl rfl) ?_
    refine l_y rfl rfl (y_fld (j' := 0) rfl) ?_
    refine l_y rfl rfl (y_e1 (x0 := 0) hO rfl) ?_
    refine Z0 (fun h1_12 => ?_) (fun h1_12 => ?_)
    · refine l_y rfl rfl (y_pick_t rfl rfl) ?_
      refine l_y rfl rfl (y_assign rfl) ?_
      refine K2 (K3 (K6 ?_))
      exact fin1 rfl rfl ⟨_, ⟨by rw [s.el]; simp [*], rfl⟩, hO.only [.b r, .p p]⟩
    · refine l_y rfl rfl (y_pick_t rfl rfl) ?_
      refine l_y rfl rfl (y_assign rfl) ?_
      refine K2 (K3 (K6 ?_))
      exact fin1 rfl rfl ⟨_, ⟨by rw [s.el]; simp [*], rfl⟩, hO.only [.b r, .p p]⟩
  · repeat refine M2 ?_
    refine l_y rfl rfl (y_pick_f rfl rfl) ?_
    refine l_y rfl rfl (y_assign rfl) ?_
    refine K2 (K3 (K6 ?_))
    exact fin1 rfl rfl ⟨_, ⟨by rw [s.el]; simp [*], rfl⟩, hO.only [.b r, .p p]⟩
theorem tIn_spec {x : ByteArray} {ts : List ByteArray} {tp : Option Addr} {n tc : Nat} (hs : Sli (Ro k) (.slice tp n tc) (ts.map eS)) (hl : ts.length ≤ 1000000) (hO : Own k w []) :
    Tri Try.prog 159 #[.slice tp n tc, .string x] k w fun v m => v = .bool (inB x ts) ∧ m = [] := by
  obtain rfl : n = ts.length := by have := hs.fits.1; simpa using this
  refine enter (args := [.slice tp ts.length tc, .string x]) Try.func159 rfl rfl ?_
  have hgs := sli_gs hs
  refine K0 (K1 ?_)
  refine l_y rfl rfl (y_assign rfl) ?_
  refine K2 (K3 (K0 (K0 (K1 ?_))))
  refine l_y rfl rfl (y_assign rfl) ?_
  refine K2 (K3 (K4 ?_))
  refine c_rounds (X := Nat) (fun i => [(0, .slice tp ts.length tc), (1, .string x), (4, .bool false), (5, .int .i64 (i : Int))]) (fun i w => Own k w [] ∧ (i ≤ ts.length ∧ inB x (ts.take i) = false)) (fun i => ts.length - i) (0) ⟨rfl, rfl, rfl, rfl, trivial⟩ ⟨hO.only [], ⟨Nat.zero_le _, rfl⟩⟩ ?_
  rintro i w m hm ⟨hO, hi⟩
  refine K0 (K0 (K1 ?_))
  refine l_y rfl rfl (y_move rfl) ?_
  refine l_y rfl rfl (y_move rfl) ?_
  refine l_y rfl rfl (y_lenL rfl) ?_
  refine Z0 (fun h2_3 => ?_) (fun h2_3 => ?_)
  · refine K2 (K3 (L8 (K5 (K3 (K0 (K4 (K0 (K1 ?_))))))))
    refine l_y rfl rfl (y_move rfl) ?_
    refine l_y rfl rfl (y_move rfl) ?_
    refine l_y rfl rfl (y_idx rfl rfl) ?_
    refine l_y rfl rfl (y_r1 (x0 := 0) (enc := eS) (xs := ts) hO rfl) ?_
    refine l_y rfl rfl (y_move rfl) ?_
    refine Z2 (fun h4_5 => ?_) (fun h4_5 => ?_)
    · refine K2 (K3 (L8 (K0 (K1 ?_))))
      refine l_y rfl rfl (y_assign rfl) ?_
      refine K2 (K3 (K6 (L0 (K9 (K9 (L0 (K9 ?_)))))))
      have hlt : inB x ts = true := List.any_eq_true.2 ⟨at_ ts i, at_mem (by omega), decide_eq_true h4_5.symm⟩
      exact fin1 rfl rfl ⟨_, ⟨by rw [hlt], rfl⟩, hO⟩
    · refine K2 (K3 (L9 (K5 (K8 (K3 (K1 ?_))))))
      refine l_y rfl rfl (y_move rfl) ?_
      refine l_y rfl rfl (D4) ?_
      refine l_y rfl rfl (y_assign rfl) ?_
      refine K2 ?_
      exact q_next (i + 1) ⟨rfl, rfl, rfl, rfl, trivial⟩ ⟨hO.only [], ⟨by omega, by rw [take_succ_at (by omega), inB, List.any_append]; simp only [List.any_cons, List.any_nil, Bool.or_false, Bool.or_eq_false_iff]; exact ⟨hi.2, decide_eq_false (fun h => h4_5 h.symm)⟩⟩⟩ (by omega)
  · refine K2 (K3 (L9 (K7 (L1 (L1 (L2 (K3 (K0 (K1 ?_)))))))))
    refine l_y rfl rfl (y_assign rfl) ?_
    refine K2 (K3 (K6 ?_))
    have hlf : inB x ts = false := by rw [show ts = ts.take i by rw [List.take_of_length_le (by omega)]]; exact hi.2
    exact fin1 rfl rfl ⟨_, ⟨by rw [hlf], rfl⟩, hO⟩
theorem tNamed_spec {q : Option Addr} {n d : Nat} (s : Sim A K R) (hg : Gs p R.length) (hO : Own k w [rB r p R.length c, rS p c R, tB t r q n d]) :
    Tri Try.prog 153 #[.pointer (some ⟨t, 0, none⟩), .int .i64 id, .string name] k w fun v m => v = .bool (elB A id && namA A [name] id) ∧ m = [rB r p R.length c, rS p c R, tB t r q n d] := by
  refine enter (args := [.pointer (some ⟨t, 0, none⟩), .int .i64 id, .string name]) Try.func153 rfl rfl ?_
  refine K0 (K1 ?_)
  refine l_y rfl rfl (y_assign rfl) ?_
  refine K2 (K3 (K0 (K1 ?_)))
  refine l_y rfl rfl (y_move rfl) ?_
  refine l_y rfl rfl (y_nilCheck rfl rfl) ?_
  refine l_y rfl rfl (y_fldb (o' := 0) rfl) ?_
  refine l_y rfl rfl (D5 hO rfl) ?_
  refine l_y rfl rfl (y_move rfl) ?_
  refine CK [.b r, .p p] hO rfl (fun k' hx hr hO' => tEl_spec s hg (hO := hO')) ?_
  rintro _ _ w ⟨rfl, rfl⟩ hO
  simp only [List.cons_append, List.nil_append] at hO
  refine l_y rfl rfl (y_move rfl) ?_
  refine l_split 13 rfl (fun hg13 => ?_) (fun hg13 => ?_)
  · have hb := elB_has hg13
    have hid := hasR_true (by rw [s.has]; exact hb)
    have e1 := (s.atB hb).space
    have e2 := (s.atB hb).name
    refine l_y rfl rfl (y_move rfl) ?_
    refine l_y rfl rfl (y_nilCheck rfl rfl) ?_
    refine l_y rfl rfl (y_fldb (o' := 0) rfl) ?_
    refine l_y rfl rfl (D5 hO rfl) ?_
    refine l_y rfl rfl (y_nilCheck rfl rfl) ?_
    refine l_y rfl rfl (y_fldb (o' := 0) rfl) ?_
    refine l_y rfl rfl (D5 hO rfl) ?_
    refine l_y rfl rfl (y_move rfl) ?_
    refine l_y rfl rfl (y_idx rfl rfl) ?_
    refine l_y rfl rfl (y_fld (j' := 1) rfl) ?_
    refine l_y rfl rfl (y_e1 (x0 := 1) hO rfl) ?_
    refine Z0 (fun h1_18 => ?_) (fun h1_18 => ?_)
    · rw [e1] at h1_18
      refine l_y rfl rfl (y_pick_t rfl rfl) ?_
      refine l_y rfl rfl (y_move rfl) ?_
      refine l_y rfl rfl (y_move rfl) ?_
      refine l_y rfl rfl (y_nilCheck rfl rfl) ?_
      refine l_y rfl rfl (y_fldb (o' := 0) rfl) ?_
      refine l_y rfl rfl (D5 hO rfl) ?_
      refine l_y rfl rfl (y_nilCheck rfl rfl) ?_
      refine l_y rfl rfl (y_fldb (o' := 0) rfl) ?_
      refine l_y rfl rfl (D5 hO rfl) ?_
      refine l_y rfl rfl (y_move rfl) ?_
      refine l_y rfl rfl (y_idx rfl rfl) ?_
      refine l_y rfl rfl (y_fld (j' := 2) rfl) ?_
      refine l_y rfl rfl (y_e1 (x0 := 2) hO rfl) ?_
      refine l_y rfl rfl (y_move rfl) ?_
      refine Z2 (fun h1_33 => ?_) (fun h1_33 => ?_)
      · rw [e2] at h1_33
        refine l_y rfl rfl (y_pick_t rfl rfl) ?_
        refine l_y rfl rfl (y_assign rfl) ?_
        refine K2 (K3 (K6 ?_))
        exact fin1 rfl rfl ⟨_, ⟨by simp [namA, namB, inB, *], rfl⟩, hO.only [.b r, .p p, .b t]⟩
      · rw [e2] at h1_33
        refine l_y rfl rfl (y_pick_t rfl rfl) ?_
        refine l_y rfl rfl (y_assign rfl) ?_
        refine K2 (K3 (K6 ?_))
        exact fin1 rfl rfl ⟨_, ⟨by simp [namA, namB, inB, *], rfl⟩, hO.only [.b r, .p p, .b t]⟩
    · rw [e1] at h1_18
      refine l_y rfl rfl (y_pick_t rfl rfl) ?_
      refine l_y rfl rfl (y_move rfl) ?_
      repeat refine M2 ?_
      refine l_y rfl rfl (y_pick_f rfl rfl) ?_
      refine l_y rfl rfl (y_assign rfl) ?_
      refine K2 (K3 (K6 ?_))
      exact fin1 rfl rfl ⟨_, ⟨by simp [namA, namB, inB, *], rfl⟩, hO.only [.b r, .p p, .b t]⟩
  · repeat refine M2 ?_
    refine l_y rfl rfl (y_pick_f rfl rfl) ?_
    refine l_y rfl rfl (y_move rfl) ?_
    repeat refine M2 ?_
    refine l_y rfl rfl (y_pick_f rfl rfl) ?_
    refine l_y rfl rfl (y_assign rfl) ?_
    refine K2 (K3 (K6 ?_))
    exact fin1 rfl rfl ⟨_, ⟨by simp [namA, namB, inB, *], rfl⟩, hO.only [.b r, .p p, .b t]⟩
theorem tOf_spec {q tp : Option Addr} {n d tn tc : Nat} {ts : List ByteArray} (hs : Sli (Ro k) (.slice tp tn tc) (ts.map eS)) (hl : ts.length ≤ 1000000) (s : Sim A K R) (hg : Gs p R.length) (hO : Own k w [rB r p R.length c, rS p c R, tB t r q n d]) :
    Tri Try.prog 131 #[.pointer (some ⟨t, 0, none⟩), .int .i64 id, .slice tp tn tc] k w fun v m => v = .bool (elB A id && namA A ts id) ∧ m = [rB r p R.length c, rS p c R, tB t r q n d] := by
  refine enter (args := [.pointer (some ⟨t, 0, none⟩), .int .i64 id, .slice tp tn tc]) Try.func131 rfl rfl ?_
  refine K0 (K1 ?_)
  refine l_y rfl rfl (y_assign rfl) ?_
  refine K2 (K3 (K0 (K1 ?_)))
  refine l_y rfl rfl (y_move rfl) ?_
  refine l_y rfl rfl (y_nilCheck rfl rfl) ?_
  refine l_y rfl rfl (y_fldb (o' := 0) rfl) ?_
  refine l_y rfl rfl (D5 hO rfl) ?_
  refine l_y rfl rfl (y_move rfl) ?_
  refine CK [.b r, .p p] hO rfl (fun k' hx hr hO' => tEl_spec s hg (hO := hO')) ?_
  rintro _ _ w ⟨rfl, rfl⟩ hO
  simp only [List.cons_append, List.nil_append] at hO
  refine l_y rfl rfl (y_move rfl) ?_
  refine l_split 13 rfl (fun hg13 => ?_) (fun hg13 => ?_)
  · have hb := elB_has hg13
    have hid := hasR_true (by rw [s.has]; exact hb)
    have e1 := (s.atB hb).space
    have e2 := (s.atB hb).name
    refine l_y rfl rfl (y_move rfl) ?_
    refine l_y rfl rfl (y_nilCheck rfl rfl) ?_
    refine l_y rfl rfl (y_fldb (o' := 0) rfl) ?_
    refine l_y rfl rfl (D5 hO rfl) ?_
    refine l_y rfl rfl (y_nilCheck rfl rfl) ?_
    refine l_y rfl rfl (y_fldb (o' := 0) rfl) ?_
    refine l_y rfl rfl (D5 hO rfl) ?_
    refine l_y rfl rfl (y_move rfl) ?_
    refine l_y rfl rfl (y_idx rfl rfl) ?_
    refine l_y rfl rfl (y_fld (j' := 1) rfl) ?_
    refine l_y rfl rfl (y_e1 (x0 := 1) hO rfl) ?_
    refine Z0 (fun h1_18 => ?_) (fun h1_18 => ?_)
    · rw [e1] at h1_18
      refine l_y rfl rfl (y_pick_t rfl rfl) ?_
      refine l_y rfl rfl (y_move rfl) ?_
      refine l_y rfl rfl (y_move rfl) ?_
      refine l_y rfl rfl (y_move rfl) ?_
      refine l_y rfl rfl (y_nilCheck rfl rfl) ?_
      refine l_y rfl rfl (y_fldb (o' := 0) rfl) ?_
      refine l_y rfl rfl (D5 hO rfl) ?_
      refine l_y rfl rfl (y_nilCheck rfl rfl) ?_
      refine l_y rfl rfl (y_fldb (o' := 0) rfl) ?_
      refine l_y rfl rfl (D5 hO rfl) ?_
      refine l_y rfl rfl (y_move rfl) ?_
      refine l_y rfl rfl (y_idx rfl rfl) ?_
      refine l_y rfl rfl (y_fld (j' := 2) rfl) ?_
      refine l_y rfl rfl (y_e1 (x0 := 2) hO rfl) ?_
      refine CK [] hO rfl (fun k' hx hr hO' => tIn_spec (hs.ext hO hx) hl (hO := hO')) ?_
      rintro _ _ w ⟨rfl, rfl⟩ hO
      simp only [List.nil_append] at hO
      rw [e2]
      refine l_y rfl rfl (y_pick_t rfl rfl) ?_
      refine l_y rfl rfl (y_assign rfl) ?_
      refine K2 (K3 (K6 ?_))
      exact fin1 rfl rfl ⟨_, ⟨by simp [namA, namB, *], rfl⟩, hO.only [.b r, .p p, .b t]⟩
    · rw [e1] at h1_18
      refine l_y rfl rfl (y_pick_t rfl rfl) ?_
      refine l_y rfl rfl (y_move rfl) ?_
      repeat refine M2 ?_
      refine l_y rfl rfl (y_pick_f rfl rfl) ?_
      refine l_y rfl rfl (y_assign rfl) ?_
      refine K2 (K3 (K6 ?_))
      exact fin1 rfl rfl ⟨_, ⟨by simp [namA, namB, *], rfl⟩, hO.only [.b r, .p p, .b t]⟩
  · repeat refine M2 ?_
    refine l_y rfl rfl (y_pick_f rfl rfl) ?_
    refine l_y rfl rfl (y_move rfl) ?_
    repeat refine M2 ?_
    refine l_y rfl rfl (y_pick_f rfl rfl) ?_
    refine l_y rfl rfl (y_assign rfl) ?_
    refine K2 (K3 (K6 ?_))
    exact fin1 rfl rfl ⟨_, ⟨by simp [namA, namB, *], rfl⟩, hO.only [.b r, .p p, .b t]⟩
theorem tmath_spec (hO : Own k w []) : Tri Try.prog 160 #[] k w fun v m => ∃ b, v = .slice (some ⟨b, 0, none⟩) mathL.length mathL.length ∧ m = [sls (some ⟨b, 0, none⟩) mathL.length 9 1 eS mathL] := by
  refine enter (args := []) Try.func160 rfl rfl ?_
  refine K0 (K1 ?_)
  refine l_y rfl rfl (y_assign rfl) ?_
  refine K2 (K3 (K0 (K1 ?_)))
  refine s_lit (parts := [(0, .const (.string ⟨#[109, 105]⟩)), (1, .const (.string ⟨#[109, 111]⟩)), (2, .const (.string ⟨#[109, 110]⟩)), (3, .const (.string ⟨#[109, 115]⟩)), (4, .const (.string ⟨#[109, 116, 101, 120, 116]⟩)), (5, .const (.string ⟨#[97, 110, 110, 111, 116, 97, 116, 105, 111, 110, 45, 120, 109, 108]⟩))]) (enc := eS) [⟨#[109, 105]⟩, ⟨#[109, 111]⟩, ⟨#[109, 110]⟩, ⟨#[109, 115]⟩, ⟨#[109, 116, 101, 120, 116]⟩, ⟨#[97, 110, 110, 111, 116, 97, 116, 105, 111, 110, 45, 120, 109, 108]⟩] [.string ⟨#[109, 105]⟩, .string ⟨#[109, 111]⟩, .string ⟨#[109, 110]⟩, .string ⟨#[109, 115]⟩, .string ⟨#[109, 116, 101, 120, 116]⟩, .string ⟨#[97, 110, 110, 111, 116, 97, 116, 105, 111, 110, 45, 120, 109, 108]⟩] hO rfl (fun b1 w hO => ?_)
  refine l_y rfl rfl (y_assign rfl) ?_
  refine K2 (K3 (K6 ?_))
  exact fin1 rfl rfl ⟨_, ⟨_, rfl, rfl⟩, hO.one⟩
theorem tdrawn_spec (hO : Own k w []) : Tri Try.prog 161 #[] k w fun v m => ∃ b, v = .slice (some ⟨b, 0, none⟩) drawL.length drawL.length ∧ m = [sls (some ⟨b, 0, none⟩) drawL.length 9 1 eS drawL] := by
  refine enter (args := []) Try.func161 rfl rfl ?_
  refine K0 (K1 ?_)
  refine l_y rfl rfl (y_assign rfl) ?_
  refine K2 (K3 (K0 (K1 ?_)))
  refine s_lit (parts := [(0, .const (.string ⟨#[102, 111, 114, 101, 105, 103, 110, 79, 98, 106, 101, 99, 116]⟩)), (1, .const (.string ⟨#[100, 101, 115, 99]⟩)), (2, .const (.string ⟨#[116, 105, 116, 108, 101]⟩))]) (enc := eS) [⟨#[102, 111, 114, 101, 105, 103, 110, 79, 98, 106, 101, 99, 116]⟩, ⟨#[100, 101, 115, 99]⟩, ⟨#[116, 105, 116, 108, 101]⟩] [.string ⟨#[102, 111, 114, 101, 105, 103, 110, 79, 98, 106, 101, 99, 116]⟩, .string ⟨#[100, 101, 115, 99]⟩, .string ⟨#[116, 105, 116, 108, 101]⟩] hO rfl (fun b1 w hO => ?_)
  refine l_y rfl rfl (y_assign rfl) ?_
  refine K2 (K3 (K6 ?_))
  exact fin1 rfl rfl ⟨_, ⟨_, rfl, rfl⟩, hO.one⟩
theorem tspecial_spec (hO : Own k w []) : Tri Try.prog 162 #[] k w fun v m => ∃ b, v = .slice (some ⟨b, 0, none⟩) specL.length specL.length ∧ m = [sls (some ⟨b, 0, none⟩) specL.length 9 1 eS specL] := by
  refine enter (args := []) Try.func162 rfl rfl ?_
  refine K0 (K1 ?_)
  refine l_y rfl rfl (y_assign rfl) ?_
  refine K2 (K3 (K0 (K1 ?_)))
  refine s_litE (enc := eS) (specL.zipIdx.map fun x => (x.2, Operand.const (.string x.1))) specL (specL.map Value.string) hO (fun b w hO => ?_) (by kernel_rfl) (by kernel_rfl) (by kernel_rfl) (hn := by decide)
  refine l_y rfl rfl (y_assign rfl) ?_
  refine K2 (K3 (K6 ?_))
  exact fin1 rfl rfl ⟨_, ⟨_, rfl, rfl⟩, hO.one⟩
end
end Go.Proofs.Ytbhicbpfdbnpfaa
