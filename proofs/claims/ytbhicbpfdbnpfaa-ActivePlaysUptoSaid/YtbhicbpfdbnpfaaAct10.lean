/- The walks of the answer's list: Push, Remove, Last. -/
import Derived.Test.YtbhicbpfdbnpfaaAct9
set_option linter.unusedVariables false
set_option linter.unusedSimpArgs false
set_option maxRecDepth 100000
namespace Go.Proofs.Ytbhicbpfdbnpfaa
open Go Go.Hb Go.RowKit
theorem Sim.el13 {A : List Node_one} {K : Int → List Int} {R : List Ref01_one} (s : Sim A K R) {id : Int} : elB A id = (hasR R id && decide ((at_ R id.toNat).Kind = 1)) := by
  rw [elB, ← s.has]
  cases h : hasR R id with
  | false => rfl
  | true => rw [(s.atB (by rw [← s.has]; exact h)).kind]
section
variable {k : Ctx} {w : World} {z r c d : Nat} {p q : Option Addr} {L : List Api_entry} {A : List Node_one} {K : Int → List Int} {R : List Ref01_one} {id : Int}
theorem zEl_spec (s : Sim A K R) (hg : Gs p R.length) (hO : Own k w [rB r p R.length c, rS p c R]) :
    Tri Try.prog 151 #[.pointer (some ⟨r, 0, none⟩), .int .i64 id] k w fun v m => v = .bool (elB A id) ∧ m = [rB r p R.length c, rS p c R] := by
  refine enter (args := [.pointer (some ⟨r, 0, none⟩), .int .i64 id]) Try.func151 rfl rfl ?_
  refine K0 (K1 ?_)
  refine l_y rfl rfl (y_assign rfl) ?_
  refine K2 (K3 (K0 (K1 ?_)))
  refine l_y rfl rfl (y_move rfl) ?_
  refine l_y rfl rfl (y_move rfl) ?_
  refine CK [.b r, .p p] hO rfl (fun k' hx hr hO' => Is_spec (hO := hO')) ?_
  rintro _ _ w ⟨rfl, rfl⟩ hO
  simp only [List.cons_append, List.nil_append] at hO
  refine l_y rfl rfl (y_move rfl) ?_
  refine l_split 8 rfl (fun hg8 => ?_) (fun hg8 => ?_)
  · have hid := hasR_true hg8
    refine l_y rfl rfl (y_move rfl) ?_
    refine l_y rfl rfl (y_nilCheck rfl rfl) ?_
    refine l_y rfl rfl (y_fldb (o' := 0) rfl) ?_
    refine l_y rfl rfl (D5 hO rfl) ?_
    refine l_y rfl rfl (y_move rfl) ?_
    refine l_y rfl rfl (y_idx rfl rfl) ?_
    refine l_y rfl rfl (y_fld (j' := 0) rfl) ?_
    refine l_y rfl rfl (y_e1 (x0 := 0) hO rfl) ?_
    refine Z0 (fun h1_12 => ?_) (fun h1_12 => ?_)
    · refine l_y rfl rfl (y_pick_t rfl rfl) ?_
      refine l_y rfl rfl (y_assign rfl) ?_
      refine K2 (K3 (K6 ?_))
      exact fin1 rfl rfl ⟨_, ⟨by rw [s.el13]; simp [*], rfl⟩, hO.only [.b r, .p p]⟩
    · refine l_y rfl rfl (y_pick_t rfl rfl) ?_
      refine l_y rfl rfl (y_assign rfl) ?_
      refine K2 (K3 (K6 ?_))
      exact fin1 rfl rfl ⟨_, ⟨by rw [s.el13]; simp [*], rfl⟩, hO.only [.b r, .p p]⟩
  · repeat refine M2 ?_
    refine l_y rfl rfl (y_pick_f rfl rfl) ?_
    refine l_y rfl rfl (y_assign rfl) ?_
    refine K2 (K3 (K6 ?_))
    exact fin1 rfl rfl ⟨_, ⟨by rw [s.el13]; simp [*], rfl⟩, hO.only [.b r, .p p]⟩
theorem zremove_spec {i : Nat} (hi : i < L.length) (hg : Gs q L.length) (hlc : L.length ≤ d) (hl : L.length ≤ 2000000) (hO : Own k w [zB z r q L.length d, aI q d L]) :
    Tri Try.prog 166 #[.pointer (some ⟨z, 0, none⟩), .int .i64 ((i : Nat) : Int)] k w fun v m => v = .tuple #[] ∧ m = [ralL z r (cutE L i)] := by
  refine enter (args := [.pointer (some ⟨z, 0, none⟩), .int .i64 ((i : Nat) : Int)]) Try.func166 rfl rfl ?_
  refine K0 (K1 ?_)
  refine s_lit0 Api_entry.cells hO (fun b5 w hO => ?_)
  refine l_y rfl rfl (y_move rfl) ?_
  refine l_y rfl rfl (y_nilCheck rfl rfl) ?_
  refine l_y rfl rfl (y_fldb (o' := 1) rfl) ?_
  refine l_y rfl rfl (D5 hO rfl) ?_
  refine l_y rfl rfl (y_move rfl) ?_
  have hv0 := sls_sli (p := q) hO
  refine l_y rfl rfl (y_hd i rfl rfl) ?_
  have hv := sli_hd (cuts_holds w) hv0 i d (by omega) (by omega)
  have hti : (L.take i).length = i := by simp; omega
  refine s_app0 (ys := L.take i) hO rfl rfl (src_sli hv) (fun p12 c12 w hO gs12 => ?_)
  refine l_y rfl rfl (y_assign rfl) ?_
  refine K2 (K3 (K1 ?_))
  refine l_y rfl rfl (y_move rfl) ?_
  refine l_y rfl rfl (y_move rfl) ?_
  refine l_y rfl rfl (y_move rfl) ?_
  refine l_y rfl rfl (y_nilCheck rfl rfl) ?_
  refine l_y rfl rfl (y_fldb (o' := 1) rfl) ?_
  refine l_y rfl rfl (D5 hO rfl) ?_
  refine l_y rfl rfl (y_move rfl) ?_
  refine l_y rfl rfl (D4) ?_
  refine l_y rfl rfl (y_tl (i + 1) rfl rfl) ?_
  have hv1 := sls_sli (p := q) hO
  have hv2 := sli_tl (cuts_holds w) hv1 (i + 1) (by omega)
  have htd : (L.drop (i + 1)).length = L.length - (i + 1) := by simp
  refine s_app (xs := L.take i) (ys := L.drop (i + 1)) hO rfl rfl (src_sli hv2) (fun p22 c22 w hO gs22 => ?_) rfl (by omega) (by omega)
  refine l_y rfl rfl (y_nilCheck rfl rfl) ?_
  refine l_y rfl rfl (y_fldb (o' := 1) rfl) ?_
  refine Y1 hO rfl rfl (fun w hO => ?_)
  simp only [List.set_cons_zero, List.set_cons_succ] at hO
  refine K2 ?_
  exact fin0 rfl ⟨_, ⟨rfl, rfl⟩, (ralL_shut (hO.ks [.b z, .p p22]) rfl).one⟩
set_option maxHeartbeats 4000000 in
theorem zPush_spec {tk : Api_token} (t : Two A K R) (hD : DistN L) (hl : L.length ≤ 2000000) (hb : ∀ e ∈ L, e.Node ≠ -1 → hasB A e.Node = true) (hE : ∀ e ∈ L, EOk k e) (ht : EOk k ⟨id, tk⟩) (hO : Own k w [rarL r R, ralL z r L]) :
    Tri Try.prog 111 #[.pointer (some ⟨z, 0, none⟩), .int .i64 id, .agg (Api_token.cells tk).toArray] k w fun v m => v = .int .i64 (freshF A L id) ∧ m = [rarL r R, ralL z r (if freshF A L id = 0 then pushE A L ⟨id, tk⟩ else L)] := by
  refine enter (args := [.pointer (some ⟨z, 0, none⟩), .int .i64 id, .agg (Api_token.cells tk).toArray]) Try.func111 rfl rfl ?_
  obtain ⟨p, c, F, hg, hF, hO⟩ := rarL_open hO
  obtain ⟨q, d, hgq, hlq, hO⟩ := ralL_open (hO.ks [.o z])
  refine K0 (K1 ?_)
  refine s_box (vs := [.int .i64 tk.Kind, .string tk.Name, .string tk.Data, .string tk.System, .int .i64 tk.Has, .bool tk.Quirks, .int .i32 tk.Char, .bool tk.Self, .slice tk.AttrsP tk.Attrs.length tk.AttrsC]) hO rfl rfl rfl (by rfl) fun b5 w hO => ?_
  refine l_y rfl rfl (y_assign rfl) ?_
  refine K2 (K3 (K0 (K0 (K1 ?_))))
  refine l_y rfl rfl (y_move rfl) ?_
  refine l_y rfl rfl (y_nilCheck rfl rfl) ?_
  refine l_y rfl rfl (y_fldb (o' := 0) rfl) ?_
  refine l_y rfl rfl (D5 hO rfl) ?_
  refine l_y rfl rfl (y_move rfl) ?_
  refine CK [.b r, .p p] hO rfl (fun k' hx hr hO' => zEl_spec t.sim hg (hO := hO')) ?_
  rintro _ _ w ⟨rfl, rfl⟩ hO
  simp only [List.cons_append, List.nil_append] at hO
  refine l_y rfl rfl (y_not rfl rfl) ?_
  refine K2 (K3 ?_)
  refine c_split rfl (fun hc17 => ?_) (fun hc17 => ?_)
  · simp only [Bool.not_eq_true', Bool.not_eq_false'] at hc17
    refine K0 (K1 ?_)
    refine l_y rfl rfl (y_assign rfl) ?_
    refine K2 (K3 (K6 (K9 ?_)))
    have hel : elB A id = false := by simpa using hc17
    have e : freshF A L id = 6 := by rw [freshF, if_pos hel]
    rw [e, if_neg (by decide)]
    exact fin1 rfl rfl ⟨_, ⟨rfl, rfl⟩, ((rarL_shut hF ((ralL_shut (hO.ks [.b z, .p q])).ks [.b r, .p p, .f])).ks [.o r, .o z]).two⟩
  · simp only [Bool.not_eq_true', Bool.not_eq_false'] at hc17
    refine K5 (K3 (K0 (K0 (K1 ?_))))
    refine l_y rfl rfl (y_move rfl) ?_
    refine l_y rfl rfl (y_move rfl) ?_
    refine CK [.b z, .p q] hO rfl (fun k' hx hr hO' => zFindB_spec hD hgq hl (hO := hO')) ?_
    rintro _ _ w ⟨rfl, rfl⟩ hO
    simp only [List.cons_append, List.nil_append] at hO
    refine Z0 (fun h3_3 => ?_) (fun h3_3 => ?_)
    · refine K2 (K3 (L8 (K0 (K1 ?_))))
      refine l_y rfl rfl (y_assign rfl) ?_
      refine K2 (K3 (K6 (K9 ?_)))
      have hel : elB A id = true := by simpa using hc17
      have e : freshF A L id = 1 := by rw [freshF, if_neg (by rw [hel]; simp), if_pos h3_3]
      rw [e, if_neg (by decide)]
      exact fin1 rfl rfl ⟨_, ⟨rfl, rfl⟩, ((rarL_shut hF ((ralL_shut (hO.ks [.b z, .p q])).ks [.b r, .p p, .f])).ks [.o r, .o z]).two⟩
    · refine K2 (K3 (L9 (K5 (K3 (K0 ?_)))))
      have hel : elB A id = true := by simpa using hc17
      have e0 : freshF A L id = 0 := by rw [freshF, if_neg (by rw [hel]; simp), if_neg h3_3]
      have hid := elB_has hel
      refine K1 ?_
      refine l_y rfl rfl (y_move rfl) ?_
      refine l_y rfl rfl (D8 (cs := [.int .i64 tk.Kind, .string tk.Name, .string tk.Data, .string tk.System, .int .i64 tk.Has, .bool tk.Quirks, .int .i32 tk.Char, .bool tk.Self, .slice tk.AttrsP tk.Attrs.length tk.AttrsC]) hO rfl) ?_
      refine s_build (parts := [(0, .tmp 22), (1, .tmp 23)]) (cs := [.int .i64 id, .int .i64 tk.Kind, .string tk.Name, .string tk.Data, .string tk.System, .int .i64 tk.Has, .bool tk.Quirks, .int .i32 tk.Char, .bool tk.Self, .slice tk.AttrsP tk.Attrs.length tk.AttrsC]) rfl rfl (fun a ha => partsOf_sound ha _ _ rfl) (by kernel_rfl) ?_
      refine s_alloc (vs := [.int .i64 0, .int .i64 0, .string ⟨#[]⟩, .string ⟨#[]⟩, .string ⟨#[]⟩, .int .i64 0, .bool false, .int .i32 0, .bool false, .slice none 0 0]) hO rfl rfl rfl fun b7 w hO => ?_
      refine Y3 hO rfl rfl (fun w hO => ?_)
      refine K2 (K3 (K0 (K1 ?_)))
      refine l_y rfl rfl (y_assign rfl) ?_
      refine K2 (K3 (K0 (K1 ?_)))
      refine l_y rfl rfl (y_assign rfl) ?_
      refine K2 (K3 (K0 (K0 (K1 ?_))))
      refine l_y rfl rfl (y_move rfl) ?_
      refine l_y rfl rfl (y_nilCheck rfl rfl) ?_
      refine l_y rfl rfl (y_fldb (o' := 1) rfl) ?_
      refine l_y rfl rfl (D5 hO rfl) ?_
      refine l_y rfl rfl (y_lenL rfl) ?_
      refine l_y rfl rfl (D4) ?_
      refine l_y rfl rfl (y_assign rfl) ?_
      refine K2 (K3 (K4 ?_))
      refine c_rounds (X := Nat × List Nat × Int) (fun x => [(0, .pointer (some ⟨z, 0, none⟩)), (6, .int .i64 0), (7, .pointer (some ⟨b7, 0, none⟩)), (8, .int .i64 ((pk A L ⟨id, tk⟩ x.2.1).1 : Int)), (9, .int .i64 x.2.2), (10, .int .i64 ((x.1 : Int) - 1))]) (fun x w => Own k w [rB r p R.length c, rS p c R, zB z r q L.length d, aI q d L, blk b7 70 (Api_entry.cells ⟨id, tk⟩), pool F] ∧ (bk L L.length = x.2.1 ++ bk L x.1) ∧ (x.1 ≤ L.length) ∧ (0 < (pk A L ⟨id, tk⟩ x.2.1).1 → x.2.2 = ((pk A L ⟨id, tk⟩ x.2.1).2 : Int))) (fun x => x.1) ((L.length, [], -1)) ⟨rfl, rfl, rfl, rfl, rfl, rfl, trivial⟩ ⟨hO.only [.b r, .p p, .b z, .p q, .b b7, .f], rfl, Nat.le_refl _, (fun h => absurd h (Nat.lt_irrefl 0))⟩ ?_
      rintro x w m hm ⟨hO, hx, hle, hf⟩
      refine K0 (K0 (K1 ?_))
      refine l_y rfl rfl (y_move rfl) ?_
      refine Z0 (fun h9_1 => ?_) (fun h9_1 => ?_)
      · obtain ⟨y, hy⟩ : ∃ y, x.1 = y + 1 := ⟨x.1 - 1, by omega⟩
        have ey : (x.1 : Int) - 1 = (y : Int) := by omega
        rw [ey]
        refine l_y rfl rfl (y_move rfl) ?_
        refine l_y rfl rfl (y_move rfl) ?_
        refine l_y rfl rfl (y_nilCheck rfl rfl) ?_
        refine l_y rfl rfl (y_fldb (o' := 1) rfl) ?_
        refine l_y rfl rfl (D5 hO rfl) ?_
        refine l_y rfl rfl (y_move rfl) ?_
        refine l_y rfl rfl (y_idx rfl rfl) ?_
        refine l_y rfl rfl (y_fld (j' := 0) rfl) ?_
        refine l_y rfl rfl (y_e1 (x0 := 0) hO rfl) ?_
        refine Z1 (fun h9_11 => ?_) (fun h9_11 => ?_)
        · refine l_y rfl rfl (y_pick_t rfl rfl) ?_
          refine K2 (K3 (L8 (K5 (K3 (K0 (K4 (K0 ?_)))))))
          have hs : bk L x.1 = y :: bk L y := by rw [hy, bk, if_neg (show ¬ (at_ L y).Node = -1 from h9_11)]
          have hEy := hE _ (at_mem (xs := L) (i := y) (by omega))
          have hby := hb _ (at_mem (xs := L) (i := y) (by omega)) h9_11
          refine da_region (by intro c a d v w h; cases d <;> exact h) ?_
          have hO := hO.drew
          refine da_phase _ [9] (SO.ks [.b z, .p q, .b b7] hO) ?_
          refine dx_u 0 (by kernel_rfl) rfl rfl rfl (fun w => y_move rfl) ?_
          refine dx_u 1 (by kernel_rfl) rfl rfl rfl (fun w => y_move rfl) ?_
          refine dx_u 2 (by kernel_rfl) rfl rfl rfl (fun w => y_nilCheck rfl rfl) ?_
          refine dx_u 3 (by kernel_rfl) rfl rfl rfl (fun w => y_fldb (o' := 1) rfl) ?_
          refine dx_y 4 (by kernel_rfl) rfl rfl rfl (fun w ⟨m, hw⟩ => D5 hw rfl) ?_
          refine dx_u 5 (by kernel_rfl) rfl rfl rfl (fun w => y_move rfl) ?_
          refine dx_u 6 (by kernel_rfl) rfl rfl rfl (fun w => y_idx rfl rfl) ?_
          refine dx_y 7 (by kernel_rfl) rfl rfl rfl (fun w ⟨m, hw⟩ => y_eA (x0 := 0) (cs := [.int .i64 (at_ L ((y : Int) : Int).toNat).Node, .int .i64 (at_ L ((y : Int) : Int).toNat).Token.Kind, .string (at_ L ((y : Int) : Int).toNat).Token.Name, .string (at_ L ((y : Int) : Int).toNat).Token.Data, .string (at_ L ((y : Int) : Int).toNat).Token.System, .int .i64 (at_ L ((y : Int) : Int).toNat).Token.Has, .bool (at_ L ((y : Int) : Int).toNat).Token.Quirks, .int .i32 (at_ L ((y : Int) : Int).toNat).Token.Char, .bool (at_ L ((y : Int) : Int).toNat).Token.Self, .slice (at_ L ((y : Int) : Int).toNat).Token.AttrsP (at_ L ((y : Int) : Int).toNat).Token.Attrs.length (at_ L ((y : Int) : Int).toNat).Token.AttrsC]) hw rfl) ?_
          refine dx_y 8 (by kernel_rfl) rfl rfl rfl (fun w ⟨m, hw⟩ => D8 (cs := [.int .i64 id, .int .i64 tk.Kind, .string tk.Name, .string tk.Data, .string tk.System, .int .i64 tk.Has, .bool tk.Quirks, .int .i32 tk.Char, .bool tk.Self, .slice tk.AttrsP tk.Attrs.length tk.AttrsC]) hw rfl) ?_
          refine dx_close 9 (by kernel_rfl) rfl rfl ?_
          refine CK [.b r, .p p, .b z] hO rfl (fun k' hx hr hO' => alike_spec (x := at_ L y) (y := ⟨id, tk⟩) t.sim hg hby hid ⟨hEy.1.ext hO hx, hEy.2⟩ ⟨ht.1.ext hO hx, ht.2⟩ (hO := hO')) ?_
          rintro _ _ w ⟨rfl, rfl⟩ hO
          simp only [List.cons_append, List.nil_append] at hO
          refine o_done ?_
          refine da_end (by kernel_rfl) ?_
          refine K3 ?_
          refine c_split rfl (fun hc55 => ?_) (fun hc55 => ?_)
          · refine K0 ?_
            have hpl2 : (pk A L ⟨id, tk⟩ x.2.1).1 ≤ 2000000 := by
              have h1 := pk_le (A := A) (L := L) (e := ⟨id, tk⟩) (xs := x.2.1)
              have h2 := bk_len (L := L) (n := L.length)
              rw [hx, List.length_append] at h2
              omega
            refine K1 ?_
            refine l_y rfl rfl (y_move rfl) ?_
            refine l_y rfl rfl (v := .int .i64 ((pk A L ⟨id, tk⟩ (x.2.1 ++ [y])).1 : Int)) (by rw [pk_snoc, if_pos hc55]; exact D4) ?_
            refine l_y rfl rfl (y_assign rfl) ?_
            refine K2 (K3 (K1 ?_))
            refine l_y rfl rfl (y_move rfl) ?_
            refine l_y rfl rfl (y_assign rfl) ?_
            refine K2 (K8 (K3 (K1 ?_)))
            refine l_y rfl rfl (y_move rfl) ?_
            refine l_y rfl rfl (D4) ?_
            refine l_y rfl rfl (y_assign rfl) ?_
            refine K2 ?_
            first
              | exact q_next (y, x.2.1 ++ [y], (y : Int)) (by (repeat (first | exact trivial | refine ⟨rfl, ?_⟩))) ⟨hO.only [.b r, .p p, .b z, .p q, .b b7, .f], by dsimp only; rw [hx, hs]; simp, by dsimp only; omega, fun _ => by dsimp only; rw [pk_snoc, if_pos hc55]⟩ (by dsimp only; omega)
              | (have hpkF : pk A L ⟨id, tk⟩ x.2.1 = pk A L ⟨id, tk⟩ (x.2.1 ++ [y]) := by rw [pk_snoc, if_neg (by rw [hc55]; simp)]
                 rw [hpkF] at hf ⊢
                 exact q_next (y, x.2.1 ++ [y], x.2.2) (by (repeat (first | exact trivial | refine ⟨rfl, ?_⟩))) ⟨hO.only [.b r, .p p, .b z, .p q, .b b7, .f], by dsimp only; rw [hx, hs]; simp, by dsimp only; omega, hf⟩ (by dsimp only; omega))
          · refine K5 (K8 (K3 (K1 ?_)))
            refine l_y rfl rfl (y_move rfl) ?_
            refine l_y rfl rfl (D4) ?_
            refine l_y rfl rfl (y_assign rfl) ?_
            refine K2 ?_
            first
              | exact q_next (y, x.2.1 ++ [y], (y : Int)) (by (repeat (first | exact trivial | refine ⟨rfl, ?_⟩))) ⟨hO.only [.b r, .p p, .b z, .p q, .b b7, .f], by dsimp only; rw [hx, hs]; simp, by dsimp only; omega, fun _ => by dsimp only; rw [pk_snoc, if_pos hc55]⟩ (by dsimp only; omega)
              | (have hpkF : pk A L ⟨id, tk⟩ x.2.1 = pk A L ⟨id, tk⟩ (x.2.1 ++ [y]) := by rw [pk_snoc, if_neg (by rw [hc55]; simp)]
                 rw [hpkF] at hf ⊢
                 exact q_next (y, x.2.1 ++ [y], x.2.2) (by (repeat (first | exact trivial | refine ⟨rfl, ?_⟩))) ⟨hO.only [.b r, .p p, .b z, .p q, .b b7, .f], by dsimp only; rw [hx, hs]; simp, by dsimp only; omega, hf⟩ (by dsimp only; omega))
        · refine l_y rfl rfl (y_pick_t rfl rfl) ?_
          refine K2 (K3 (L9 (K7 (L1 (L1 (L2 (K3 ?_)))))))
          refine c_cut (X := Option Addr × Nat × List Api_entry) (fun y9 => [(0, .pointer (some ⟨z, 0, none⟩)), (6, .int .i64 0), (7, .pointer (some ⟨b7, 0, none⟩))]) (fun y9 w => Own k w [rB r p R.length c, rS p c R, zB z r y9.1 y9.2.2.length y9.2.1, aI y9.1 y9.2.1 y9.2.2, blk b7 70 (Api_entry.cells ⟨id, tk⟩), pool F] ∧ (pushE A L ⟨id, tk⟩ = y9.2.2 ++ [⟨id, tk⟩]) ∧ (y9.2.2.length ≤ 2000000)) ?_ ?_
          · refine K0 ?_
            have he : bk L x.1 = [] := by
              first
                | rw [hy, bk, if_pos (show (at_ L y).Node = -1 from h9_11)]
                | rw [show x.1 = 0 by omega, bk]
            rw [he, List.append_nil] at hx
            have hpl : (pk A L ⟨id, tk⟩ (bk L L.length)).1 ≤ L.length := Nat.le_trans pk_le bk_len
            rw [← hx] at hf ⊢
            refine K1 ?_
            refine l_y rfl rfl (y_move rfl) ?_
            refine Z0 (fun h14_1 => ?_) (fun h14_1 => ?_)
            · refine K2 (K3 (L8 (K1 ?_)))
              refine l_y rfl rfl (y_move rfl) ?_
              refine l_y rfl rfl (y_move rfl) ?_
              have hlt : (pk A L ⟨id, tk⟩ (bk L L.length)).2 < L.length := bk_lt (pk_mem (by omega))
              refine CK [.b z, .p q] hO (by rw [hf (by omega)]; rfl) (fun k' hx hr hO' => zremove_spec hlt hgq hlq hl (hO := hO')) ?_
              rintro _ _ w ⟨rfl, rfl⟩ hO
              simp only [List.cons_append, List.nil_append] at hO
              obtain ⟨q2, d2, L2, hO, hpu, hl2⟩ : ∃ (q2 : Option Addr) (d2 : Nat) (L2 : List Api_entry), Own k w [rB r p R.length c, rS p c R, zB z r q2 L2.length d2, aI q2 d2 L2, blk b7 70 (Api_entry.cells ⟨id, tk⟩), pool F] ∧ pushE A L ⟨id, tk⟩ = L2 ++ [⟨id, tk⟩] ∧ L2.length ≤ 2000000 := by
                obtain ⟨q2, d2, hg2, hlc2, hO⟩ := ralL_open (hO.ks [.o z])
                exact ⟨q2, d2, _, hO.only [.b r, .p p, .b z, .p q2, .b b7, .f], by rw [pushE, if_pos (by omega)], by simp [cutE]; omega⟩
              refine K2 ?_
              exact q_cut ((q2, d2, L2)) ⟨rfl, rfl, rfl, trivial⟩ ⟨hO.only [.b r, .p p, .b z, .p q2, .b b7, .f], hpu, hl2⟩
            · obtain ⟨q2, d2, L2, hO, hpu, hl2⟩ : ∃ (q2 : Option Addr) (d2 : Nat) (L2 : List Api_entry), Own k w [rB r p R.length c, rS p c R, zB z r q2 L2.length d2, aI q2 d2 L2, blk b7 70 (Api_entry.cells ⟨id, tk⟩), pool F] ∧ pushE A L ⟨id, tk⟩ = L2 ++ [⟨id, tk⟩] ∧ L2.length ≤ 2000000 := ⟨q, d, L, hO.only [.b r, .p p, .b z, .p q, .b b7, .f], by rw [pushE, if_neg (by omega)], hl⟩
              refine K2 (K3 (L9 (K5 ?_)))
              exact q_cut ((q2, d2, L2)) ⟨rfl, rfl, rfl, trivial⟩ ⟨hO.only [.b r, .p p, .b z, .p q2, .b b7, .f], hpu, hl2⟩
          · rintro y9 w ⟨hO, hz, hzl⟩
            refine K0 ?_
            refine da_region (by intro c a d v w h; cases d <;> exact h) ?_
            have hO := hO.drew
            refine da_phase _ [7] (SO.ks [.b z, .b b7] hO) ?_
            refine dx_u 0 (by kernel_rfl) rfl rfl rfl (fun w => y_move rfl) ?_
            refine dx_u 1 (by kernel_rfl) rfl rfl rfl (fun w => y_move rfl) ?_
            refine dx_u 2 (by kernel_rfl) rfl rfl rfl (fun w => y_nilCheck rfl rfl) ?_
            refine dx_u 3 (by kernel_rfl) rfl rfl rfl (fun w => y_fldb (o' := 1) rfl) ?_
            refine dx_y 4 (by kernel_rfl) rfl rfl rfl (fun w ⟨m, hw⟩ => D5 hw rfl) ?_
            refine dx_y 5 (by kernel_rfl) rfl rfl rfl (fun w ⟨m, hw⟩ => D8 (cs := [.int .i64 id, .int .i64 tk.Kind, .string tk.Name, .string tk.Data, .string tk.System, .int .i64 tk.Has, .bool tk.Quirks, .int .i32 tk.Char, .bool tk.Self, .slice tk.AttrsP tk.Attrs.length tk.AttrsC]) hw rfl) ?_
            refine dx_only 6 (by kernel_rfl) rfl rfl ?_
            refine s_lit (parts := [(0, .tmp 69)]) (enc := Api_entry.cells) [⟨id, ⟨tk.Kind, tk.Name, tk.Data, tk.System, tk.Has, tk.Quirks, tk.Char, tk.Self, tk.AttrsP, tk.Attrs, tk.AttrsC⟩⟩] [.agg [.int .i64 id, .int .i64 tk.Kind, .string tk.Name, .string tk.Data, .string tk.System, .int .i64 tk.Has, .bool tk.Quirks, .int .i32 tk.Char, .bool tk.Self, .slice tk.AttrsP tk.Attrs.length tk.AttrsC].toArray] hO rfl (fun b70 w hO => ?_)
            refine o_done ?_
            refine ⟨SO.ks [.b z, .b b7] hO, ?_⟩
            refine dx_close 7 (by kernel_rfl) rfl rfl ?_
            refine s_app hO rfl rfl (src_own hO) (fun p71 c71 w hO gs71 => ?_)
            refine o_done ?_
            refine da_phase _ [10] (SO.ks [] hO) ?_
            refine dx_u 8 (by kernel_rfl) rfl rfl rfl (fun w => y_nilCheck rfl rfl) ?_
            refine dx_u 9 (by kernel_rfl) rfl rfl rfl (fun w => y_fldb (o' := 1) rfl) ?_
            refine dx_close 10 (by kernel_rfl) rfl rfl ?_
            refine Y1 hO rfl rfl (fun w hO => ?_)
            simp only [List.set_cons_zero, List.set_cons_succ] at hO
            refine o_done ?_
            refine da_end (by kernel_rfl) ?_
            refine K3 (K0 (K1 ?_))
            refine l_y rfl rfl (y_assign rfl) ?_
            refine K2 (K3 (K6 ?_))
            rw [e0, if_pos rfl, hz]
            exact fin1 rfl rfl ⟨_, ⟨rfl, rfl⟩, ((rarL_shut hF ((ralL_shut (hO.ks [.b z, .p p71]) rfl).ks [.b r, .p p, .f])).ks [.o r, .o z]).two⟩
      · refine l_y rfl rfl (y_move rfl) ?_
        repeat refine M2 ?_
        refine l_y rfl rfl (y_pick_f rfl rfl) ?_
        refine K2 (K3 (L9 (K7 (L1 (L1 (L2 (K3 ?_)))))))
        refine c_cut (X := Option Addr × Nat × List Api_entry) (fun y9 => [(0, .pointer (some ⟨z, 0, none⟩)), (6, .int .i64 0), (7, .pointer (some ⟨b7, 0, none⟩))]) (fun y9 w => Own k w [rB r p R.length c, rS p c R, zB z r y9.1 y9.2.2.length y9.2.1, aI y9.1 y9.2.1 y9.2.2, blk b7 70 (Api_entry.cells ⟨id, tk⟩), pool F] ∧ (pushE A L ⟨id, tk⟩ = y9.2.2 ++ [⟨id, tk⟩]) ∧ (y9.2.2.length ≤ 2000000)) ?_ ?_
        · refine K0 ?_
          have he : bk L x.1 = [] := by
            first
              | rw [hy, bk, if_pos (show (at_ L y).Node = -1 from h9_11)]
              | rw [show x.1 = 0 by omega, bk]
          rw [he, List.append_nil] at hx
          have hpl : (pk A L ⟨id, tk⟩ (bk L L.length)).1 ≤ L.length := Nat.le_trans pk_le bk_len
          rw [← hx] at hf ⊢
          refine K1 ?_
          refine l_y rfl rfl (y_move rfl) ?_
          refine Z0 (fun h14_1 => ?_) (fun h14_1 => ?_)
          · refine K2 (K3 (L8 (K1 ?_)))
            refine l_y rfl rfl (y_move rfl) ?_
            refine l_y rfl rfl (y_move rfl) ?_
            have hlt : (pk A L ⟨id, tk⟩ (bk L L.length)).2 < L.length := bk_lt (pk_mem (by omega))
            refine CK [.b z, .p q] hO (by rw [hf (by omega)]; rfl) (fun k' hx hr hO' => zremove_spec hlt hgq hlq hl (hO := hO')) ?_
            rintro _ _ w ⟨rfl, rfl⟩ hO
            simp only [List.cons_append, List.nil_append] at hO
            obtain ⟨q2, d2, L2, hO, hpu, hl2⟩ : ∃ (q2 : Option Addr) (d2 : Nat) (L2 : List Api_entry), Own k w [rB r p R.length c, rS p c R, zB z r q2 L2.length d2, aI q2 d2 L2, blk b7 70 (Api_entry.cells ⟨id, tk⟩), pool F] ∧ pushE A L ⟨id, tk⟩ = L2 ++ [⟨id, tk⟩] ∧ L2.length ≤ 2000000 := by
              obtain ⟨q2, d2, hg2, hlc2, hO⟩ := ralL_open (hO.ks [.o z])
              exact ⟨q2, d2, _, hO.only [.b r, .p p, .b z, .p q2, .b b7, .f], by rw [pushE, if_pos (by omega)], by simp [cutE]; omega⟩
            refine K2 ?_
            exact q_cut ((q2, d2, L2)) ⟨rfl, rfl, rfl, trivial⟩ ⟨hO.only [.b r, .p p, .b z, .p q2, .b b7, .f], hpu, hl2⟩
          · obtain ⟨q2, d2, L2, hO, hpu, hl2⟩ : ∃ (q2 : Option Addr) (d2 : Nat) (L2 : List Api_entry), Own k w [rB r p R.length c, rS p c R, zB z r q2 L2.length d2, aI q2 d2 L2, blk b7 70 (Api_entry.cells ⟨id, tk⟩), pool F] ∧ pushE A L ⟨id, tk⟩ = L2 ++ [⟨id, tk⟩] ∧ L2.length ≤ 2000000 := ⟨q, d, L, hO.only [.b r, .p p, .b z, .p q, .b b7, .f], by rw [pushE, if_neg (by omega)], hl⟩
            refine K2 (K3 (L9 (K5 ?_)))
            exact q_cut ((q2, d2, L2)) ⟨rfl, rfl, rfl, trivial⟩ ⟨hO.only [.b r, .p p, .b z, .p q2, .b b7, .f], hpu, hl2⟩
        · rintro y9 w ⟨hO, hz, hzl⟩
          refine K0 ?_
          refine da_region (by intro c a d v w h; cases d <;> exact h) ?_
          have hO := hO.drew
          refine da_phase _ [7] (SO.ks [.b z, .b b7] hO) ?_
          refine dx_u 0 (by kernel_rfl) rfl rfl rfl (fun w => y_move rfl) ?_
          refine dx_u 1 (by kernel_rfl) rfl rfl rfl (fun w => y_move rfl) ?_
          refine dx_u 2 (by kernel_rfl) rfl rfl rfl (fun w => y_nilCheck rfl rfl) ?_
          refine dx_u 3 (by kernel_rfl) rfl rfl rfl (fun w => y_fldb (o' := 1) rfl) ?_
          refine dx_y 4 (by kernel_rfl) rfl rfl rfl (fun w ⟨m, hw⟩ => D5 hw rfl) ?_
          refine dx_y 5 (by kernel_rfl) rfl rfl rfl (fun w ⟨m, hw⟩ => D8 (cs := [.int .i64 id, .int .i64 tk.Kind, .string tk.Name, .string tk.Data, .string tk.System, .int .i64 tk.Has, .bool tk.Quirks, .int .i32 tk.Char, .bool tk.Self, .slice tk.AttrsP tk.Attrs.length tk.AttrsC]) hw rfl) ?_
          refine dx_only 6 (by kernel_rfl) rfl rfl ?_
          refine s_lit (parts := [(0, .tmp 69)]) (enc := Api_entry.cells) [⟨id, ⟨tk.Kind, tk.Name, tk.Data, tk.System, tk.Has, tk.Quirks, tk.Char, tk.Self, tk.AttrsP, tk.Attrs, tk.AttrsC⟩⟩] [.agg [.int .i64 id, .int .i64 tk.Kind, .string tk.Name, .string tk.Data, .string tk.System, .int .i64 tk.Has, .bool tk.Quirks, .int .i32 tk.Char, .bool tk.Self, .slice tk.AttrsP tk.Attrs.length tk.AttrsC].toArray] hO rfl (fun b70 w hO => ?_)
          refine o_done ?_
          refine ⟨SO.ks [.b z, .b b7] hO, ?_⟩
          refine dx_close 7 (by kernel_rfl) rfl rfl ?_
          refine s_app hO rfl rfl (src_own hO) (fun p71 c71 w hO gs71 => ?_)
          refine o_done ?_
          refine da_phase _ [10] (SO.ks [] hO) ?_
          refine dx_u 8 (by kernel_rfl) rfl rfl rfl (fun w => y_nilCheck rfl rfl) ?_
          refine dx_u 9 (by kernel_rfl) rfl rfl rfl (fun w => y_fldb (o' := 1) rfl) ?_
          refine dx_close 10 (by kernel_rfl) rfl rfl ?_
          refine Y1 hO rfl rfl (fun w hO => ?_)
          simp only [List.set_cons_zero, List.set_cons_succ] at hO
          refine o_done ?_
          refine da_end (by kernel_rfl) ?_
          refine K3 (K0 (K1 ?_))
          refine l_y rfl rfl (y_assign rfl) ?_
          refine K2 (K3 (K6 ?_))
          rw [e0, if_pos rfl, hz]
          exact fin1 rfl rfl ⟨_, ⟨rfl, rfl⟩, ((rarL_shut hF ((ralL_shut (hO.ks [.b z, .p p71]) rfl).ks [.b r, .p p, .f])).ks [.o r, .o z]).two⟩
end
end Go.Proofs.Ytbhicbpfdbnpfaa
