/- The walks of the answer's stack beside the program's: the rest; no condition. -/
import Derived.Test.YtbhicbpfdbnpfaaStk6
set_option linter.unusedVariables false
set_option linter.unusedSimpArgs false
set_option maxRecDepth 100000
namespace Go.Proofs.Ytbhicbpfdbnpfaa
open Go Go.Hb Go.RowKit
/-- the namespaces of all nodes -/
def SpOk (A : List Node_one) : Prop := ∀ i, i < A.length → 0 ≤ (at_ A i).Node.Space ∧ (at_ A i).Node.Space ≤ 2
def bord2 (kind sp : Int) (nm : ByteArray) : Bool := if kind = 3 then namB sp nm tblL else if kind = 4 then !namB sp nm optL else (decide (kind = 1) && namB sp nm listL || decide (kind = 2) && namB sp nm btnL) || (namB sp nm bordL || decide (sp = 1) && inB nm mathL || decide (sp = 2) && inB nm drawL)
theorem bord_eq {kind sp : Int} {nm : ByteArray} (h : 0 ≤ sp ∧ sp ≤ 2) : borderB kind sp nm = bord2 kind sp nm := by
  unfold borderB bord2
  have hs : sp = 0 ∨ sp = 1 ∨ sp = 2 := by omega
  by_cases h3 : kind = 3
  · simp [h3]
  by_cases h4 : kind = 4
  · simp [h4]
  rw [if_neg h3, if_neg h4, if_neg h3, if_neg h4]
  rcases hs with rfl | rfl | rfl
  · simp [namB]
    by_cases h1 : kind = 1
    · by_cases h5 : inB nm listL = true <;> simp [h1, h5]
    · by_cases h2 : kind = 2
      · by_cases h5 : inB nm btnL = true <;> simp [h2, h5]
      · simp [h1, h2]
  · simp [namB]
  · simp [namB]
section
variable {k : Ctx} {w : World} {r t c : Nat} {p : Option Addr} {A : List Node_one} {K : Int → List Int} {R : List Ref01_one} {l : List Int} {id kind : Int} {name : ByteArray}
set_option maxHeartbeats 4000000 in
theorem tborder_spec {q : Option Addr} {n d : Nat} (s : Sim A K R) (hsp : SpOk A) (hel : elB A id = true) (hg : Gs p R.length) (hO : Own k w [rB r p R.length c, rS p c R, tB t r q n d]) :
    Tri Try.prog 154 #[.pointer (some ⟨t, 0, none⟩), .int .i64 id, .int .i64 kind] k w fun v m => v = .bool (bdA A kind id) ∧ m = [rB r p R.length c, rS p c R, tB t r q n d] := by
  refine enter (args := [.pointer (some ⟨t, 0, none⟩), .int .i64 id, .int .i64 kind]) Try.func154 rfl rfl ?_
  have hb := elB_has hel
  have hidA := hasB_true hb
  have hid := hasR_true (R := R) (id := id) (by rw [s.has]; exact hb)
  have e1 := (s.atB hb).space
  have e2 := (s.atB hb).name
  have e0 : bdA A kind id = bord2 kind (at_ R id.toNat).Space (at_ R id.toNat).Name := by rw [bdA, bord_eq (hsp _ (by omega)), e1, e2]
  have en : ∀ ts, (elB A id && namA A ts id) = namB (at_ R id.toNat).Space (at_ R id.toNat).Name ts := fun ts => by rw [hel, Bool.true_and, namA, e1, e2]
  refine K0 (K1 ?_)
  refine l_y rfl rfl (y_assign rfl) ?_
  refine K2 (K3 (K0 (K1 ?_)))
  refine l_y rfl rfl (y_move rfl) ?_
  refine l_y rfl rfl (y_nilCheck rfl rfl) ?_
  refine l_y rfl rfl (y_fldb (o' := 0) rfl) ?_
  refine l_y rfl rfl (D5 hO rfl) ?_
  refine l_y rfl rfl (y_nilCheck rfl rfl) ?_
  refine l_y rfl rfl (y_fldb (o' := 0) rfl) ?_
  refine l_y rfl rfl (D5 hO rfl) ?_
  refine l_y rfl rfl (y_move rfl) ?_
  refine l_y rfl rfl (y_idx rfl rfl) ?_
  refine l_y rfl rfl (y_eA (x0 := 0) (cs := [.int .i64 (at_ R (id : Int).toNat).Kind, .int .i64 (at_ R (id : Int).toNat).Space, .string (at_ R (id : Int).toNat).Name, .slice (at_ R (id : Int).toNat).AttrsP (at_ R (id : Int).toNat).Attrs.length (at_ R (id : Int).toNat).AttrsC, .string (at_ R (id : Int).toNat).Data, .string (at_ R (id : Int).toNat).System, .int .i64 (at_ R (id : Int).toNat).Inner, .int .i64 (at_ R (id : Int).toNat).Host, .int .i64 (at_ R (id : Int).toNat).Up, .slice (at_ R (id : Int).toNat).KidsP (at_ R (id : Int).toNat).Kids.length (at_ R (id : Int).toNat).KidsC]) hO rfl) ?_
  refine s_alloc (vs := [.int .i64 0, .int .i64 0, .string ⟨#[]⟩, .slice none 0 0, .string ⟨#[]⟩, .string ⟨#[]⟩, .int .i64 0, .int .i64 0, .int .i64 0, .slice none 0 0]) hO rfl rfl rfl fun b7 w hO => ?_
  refine Y3 hO rfl rfl (fun w hO => ?_)
  refine K2 (K3 (K0 (K1 ?_)))
  refine s_lit (parts := [(0, .const (.string ⟨#[104, 116, 109, 108]⟩)), (1, .const (.string ⟨#[116, 97, 98, 108, 101]⟩)), (2, .const (.string ⟨#[116, 101, 109, 112, 108, 97, 116, 101]⟩))]) (enc := eS) [⟨#[104, 116, 109, 108]⟩, ⟨#[116, 97, 98, 108, 101]⟩, ⟨#[116, 101, 109, 112, 108, 97, 116, 101]⟩] [.string ⟨#[104, 116, 109, 108]⟩, .string ⟨#[116, 97, 98, 108, 101]⟩, .string ⟨#[116, 101, 109, 112, 108, 97, 116, 101]⟩] hO rfl (fun b20 w hO => ?_)
  refine l_y rfl rfl (y_assign rfl) ?_
  refine K2 (K3 (K0 (K1 ?_)))
  refine s_lit (parts := [(0, .const (.string ⟨#[97, 112, 112, 108, 101, 116]⟩)), (1, .const (.string ⟨#[99, 97, 112, 116, 105, 111, 110]⟩)), (2, .const (.string ⟨#[104, 116, 109, 108]⟩)), (3, .const (.string ⟨#[116, 97, 98, 108, 101]⟩)), (4, .const (.string ⟨#[116, 100]⟩)), (5, .const (.string ⟨#[116, 104]⟩)), (6, .const (.string ⟨#[109, 97, 114, 113, 117, 101, 101]⟩)), (7, .const (.string ⟨#[111, 98, 106, 101, 99, 116]⟩)), (8, .const (.string ⟨#[116, 101, 109, 112, 108, 97, 116, 101]⟩))]) (enc := eS) [⟨#[97, 112, 112, 108, 101, 116]⟩, ⟨#[99, 97, 112, 116, 105, 111, 110]⟩, ⟨#[104, 116, 109, 108]⟩, ⟨#[116, 97, 98, 108, 101]⟩, ⟨#[116, 100]⟩, ⟨#[116, 104]⟩, ⟨#[109, 97, 114, 113, 117, 101, 101]⟩, ⟨#[111, 98, 106, 101, 99, 116]⟩, ⟨#[116, 101, 109, 112, 108, 97, 116, 101]⟩] [.string ⟨#[97, 112, 112, 108, 101, 116]⟩, .string ⟨#[99, 97, 112, 116, 105, 111, 110]⟩, .string ⟨#[104, 116, 109, 108]⟩, .string ⟨#[116, 97, 98, 108, 101]⟩, .string ⟨#[116, 100]⟩, .string ⟨#[116, 104]⟩, .string ⟨#[109, 97, 114, 113, 117, 101, 101]⟩, .string ⟨#[111, 98, 106, 101, 99, 116]⟩, .string ⟨#[116, 101, 109, 112, 108, 97, 116, 101]⟩] hO rfl (fun b21 w hO => ?_)
  refine l_y rfl rfl (y_assign rfl) ?_
  refine K2 (K3 (K0 (K0 (K1 ?_))))
  refine l_y rfl rfl (y_move rfl) ?_
  refine Z0 (fun h4_1 => ?_) (fun h4_1 => ?_)
  · refine K2 (K3 (L8 (K0 (K1 ?_))))
    refine l_y rfl rfl (y_move rfl) ?_
    refine l_y rfl rfl (y_move rfl) ?_
    refine l_y rfl rfl (y_move rfl) ?_
    refine CK [.b r, .p p, .b t] hO rfl (fun k' hx hr hO' => tOf_spec (ts := tblL) (sls_roK (p := (some ⟨b20, 0, none⟩)) hr (sls_fct (p := (some ⟨b20, 0, none⟩)) hO)) (by decide) s hg (hO := hO')) ?_
    rintro _ _ w ⟨rfl, rfl⟩ hO
    simp only [List.cons_append, List.nil_append] at hO
    rw [en]
    refine l_y rfl rfl (y_assign rfl) ?_
    refine K2 (K3 (K6 (K9 ?_)))
    exact fin1 rfl rfl ⟨_, ⟨by rw [e0]; clear e1 e2 en e0; first | (exfalso; omega) | (simp [bord2, btnL, *]; done) | (simp [bord2, btnL, namB, *]; done), rfl⟩, hO.only [.b r, .p p, .b t]⟩
  · refine K2 (K3 (L9 (K5 (K3 (K0 (K0 (K1 ?_)))))))
    refine l_y rfl rfl (y_move rfl) ?_
    refine Z0 (fun h6_1 => ?_) (fun h6_1 => ?_)
    · refine K2 (K3 (L8 (K0 (K1 ?_))))
      refine l_y rfl rfl (y_move rfl) ?_
      refine l_y rfl rfl (y_move rfl) ?_
      refine s_lit (parts := [(0, .const (.string ⟨#[111, 112, 116, 103, 114, 111, 117, 112]⟩)), (1, .const (.string ⟨#[111, 112, 116, 105, 111, 110]⟩))]) (enc := eS) [⟨#[111, 112, 116, 103, 114, 111, 117, 112]⟩, ⟨#[111, 112, 116, 105, 111, 110]⟩] [.string ⟨#[111, 112, 116, 103, 114, 111, 117, 112]⟩, .string ⟨#[111, 112, 116, 105, 111, 110]⟩] hO rfl (fun b32 w hO => ?_)
      refine CK [.b r, .p p, .b t] hO rfl (fun k' hx hr hO' => tOf_spec (ts := optL) (sls_roK (p := (some ⟨b32, 0, none⟩)) hr (sls_fct (p := (some ⟨b32, 0, none⟩)) hO)) (by decide) s hg (hO := hO')) ?_
      rintro _ _ w ⟨rfl, rfl⟩ hO
      simp only [List.cons_append, List.nil_append] at hO
      rw [en]
      refine l_y rfl rfl (y_not rfl rfl) ?_
      refine l_y rfl rfl (y_assign rfl) ?_
      refine K2 (K3 (K6 (K9 ?_)))
      exact fin1 rfl rfl ⟨_, ⟨by rw [e0]; clear e1 e2 en e0; first | (exfalso; omega) | (simp [bord2, btnL, *]; done) | (simp [bord2, btnL, namB, *]; done), rfl⟩, hO.only [.b r, .p p, .b t]⟩
    · refine K2 (K3 (L9 (K5 (K3 (K0 (K0 (K1 ?_)))))))
      refine l_y rfl rfl (y_move rfl) ?_
      refine Z0 (fun h8_1 => ?_) (fun h8_1 => ?_)
      · refine l_y rfl rfl (y_move rfl) ?_
        refine l_y rfl rfl (y_move rfl) ?_
        refine l_y rfl rfl (y_move rfl) ?_
        refine s_lit (parts := [(0, .const (.string ⟨#[111, 108]⟩)), (1, .const (.string ⟨#[117, 108]⟩))]) (enc := eS) [⟨#[111, 108]⟩, ⟨#[117, 108]⟩] [.string ⟨#[111, 108]⟩, .string ⟨#[117, 108]⟩] hO rfl (fun b40 w hO => ?_)
        refine CK [.b r, .p p, .b t] hO rfl (fun k' hx hr hO' => tOf_spec (ts := listL) (sls_roK (p := (some ⟨b40, 0, none⟩)) hr (sls_fct (p := (some ⟨b40, 0, none⟩)) hO)) (by decide) s hg (hO := hO')) ?_
        rintro _ _ w ⟨rfl, rfl⟩ hO
        simp only [List.cons_append, List.nil_append] at hO
        rw [en]
        refine l_y rfl rfl (y_pick_t rfl rfl) ?_
        refine l_y rfl rfl (y_move rfl) ?_
        refine l_split 43 rfl (fun hg43 => ?_) (fun hg43 => ?_)
        · repeat refine M2 ?_
          refine l_y rfl rfl (y_pick_t rfl rfl) ?_
          refine K2 (K3 (L8 (K0 (K1 ?_))))
          refine l_y rfl rfl (y_assign rfl) ?_
          refine K2 (K3 (K6 (K9 ?_)))
          exact fin1 rfl rfl ⟨_, ⟨by rw [e0]; clear e1 e2 en e0; first | (exfalso; omega) | (simp [bord2, btnL, *]; done) | (simp [bord2, btnL, namB, *]; done), rfl⟩, hO.only [.b r, .p p, .b t]⟩
        · refine l_y rfl rfl (y_move rfl) ?_
          refine Z0 (fun h8_10 => ?_) (fun h8_10 => ?_)
          · refine l_y rfl rfl (y_move rfl) ?_
            refine l_y rfl rfl (y_move rfl) ?_
            refine l_y rfl rfl (y_move rfl) ?_
            refine CK [.b r, .p p, .b t] hO rfl (fun k' hx hr hO' => tNamed_spec s hg (hO := hO')) ?_
            rintro _ _ w ⟨rfl, rfl⟩ hO
            simp only [List.cons_append, List.nil_append] at hO
            rw [en]
            refine l_y rfl rfl (y_pick_t rfl rfl) ?_
            refine l_y rfl rfl (y_pick_f rfl rfl) ?_
            refine K2 (K3 ?_)
            refine c_split rfl (fun hc51 => ?_) (fun hc51 => ?_)
            · refine K0 (K1 ?_)
              refine l_y rfl rfl (y_assign rfl) ?_
              refine K2 (K3 (K6 (K9 ?_)))
              exact fin1 rfl rfl ⟨_, ⟨by rw [e0]; clear e1 e2 en e0; first | (exfalso; omega) | (simp [bord2, btnL, *]; done) | (simp [bord2, btnL, namB, *]; done), rfl⟩, hO.only [.b r, .p p, .b t]⟩
            · refine K5 (K3 (K0 ?_))
              refine da_region (by intro c a d v w h; cases d <;> exact h) ?_
              have hO := hO.drew
              refine da_phase _ [3] (SO.ks [] hO) ?_
              refine dx_u 0 (by kernel_rfl) rfl rfl rfl (fun w => y_move rfl) ?_
              refine dx_u 1 (by kernel_rfl) rfl rfl rfl (fun w => y_move rfl) ?_
              refine dx_u 2 (by kernel_rfl) rfl rfl rfl (fun w => y_move rfl) ?_
              refine dx_close 3 (by kernel_rfl) rfl rfl ?_
              refine CK [.b r, .p p, .b t] hO rfl (fun k' hx hr hO' => tOf_spec (ts := bordL) (sls_roK (p := (some ⟨b21, 0, none⟩)) hr (sls_fct (p := (some ⟨b21, 0, none⟩)) hO)) (by decide) s hg (hO := hO')) ?_
              rintro _ _ w ⟨rfl, rfl⟩ hO
              simp only [List.cons_append, List.nil_append] at hO
              rw [en]
              refine o_done ?_
              refine da_phase _ [12] (SO.ks [.b b7] hO) ?_
              refine dx_u 4 (by kernel_rfl) rfl rfl rfl (fun w => y_move rfl) ?_
              refine dx_split 56 rfl (fun hg56 => ?_) (fun hg56 => ?_)
              · refine dx_pass 5 (by kernel_rfl) rfl rfl rfl ?_
                refine dx_pass 6 (by kernel_rfl) rfl rfl rfl ?_
                refine dx_pass 7 (by kernel_rfl) rfl rfl rfl ?_
                refine dx_pass 8 (by kernel_rfl) rfl rfl rfl ?_
                refine dx_pass 9 (by kernel_rfl) rfl rfl rfl ?_
                refine dx_pass 10 (by kernel_rfl) rfl rfl rfl ?_
                refine dx_pass 11 (by kernel_rfl) rfl rfl rfl ?_
                refine dx_close 12 (by kernel_rfl) rfl rfl ?_
                refine M2 ?_
                refine o_done ?_
                refine da_phase _ [23] (SO.ks [] hO) ?_
                refine dx_pass 13 (by kernel_rfl) rfl rfl rfl ?_
                refine dx_u 14 (by kernel_rfl) rfl rfl rfl (fun w => y_pick_t rfl rfl) ?_
                refine dx_u 15 (by kernel_rfl) rfl rfl rfl (fun w => y_move rfl) ?_
                refine dx_pass 16 (by kernel_rfl) rfl rfl rfl ?_
                refine dx_pass 17 (by kernel_rfl) rfl rfl rfl ?_
                refine dx_pass 18 (by kernel_rfl) rfl rfl rfl ?_
                refine dx_pass 19 (by kernel_rfl) rfl rfl rfl ?_
                refine dx_pass 20 (by kernel_rfl) rfl rfl rfl ?_
                refine dx_pass 21 (by kernel_rfl) rfl rfl rfl ?_
                refine dx_pass 22 (by kernel_rfl) rfl rfl rfl ?_
                refine dx_close 23 (by kernel_rfl) rfl rfl ?_
                refine M2 ?_
                refine o_done ?_
                refine da_phase _ [] (SO.ks [] hO) ?_
                refine dx_pass 24 (by kernel_rfl) rfl rfl rfl ?_
                refine dx_u 25 (by kernel_rfl) rfl rfl rfl (fun w => y_pick_t rfl rfl) ?_
                refine dx_u 26 (by kernel_rfl) rfl rfl rfl (fun w => y_assign rfl) ?_
                refine dx_end (by kernel_rfl) ?_
                refine K3 (K6 ?_)
                exact fin1 rfl rfl ⟨_, ⟨by rw [e0]; clear e1 e2 en e0; first | (exfalso; omega) | (simp [bord2, btnL, *]; done) | (simp [bord2, btnL, namB, *]; done), rfl⟩, hO.only [.b r, .p p, .b t]⟩
              · refine dx_u 5 (by kernel_rfl) rfl rfl rfl (fun w => y_fldb (o' := 1) rfl) ?_
                refine dx_y 6 (by kernel_rfl) rfl rfl rfl (fun w ⟨m, hw⟩ => D5 hw rfl) ?_
                refine dx_u 7 (by kernel_rfl) rfl rfl rfl (fun w => y_cmpI rfl rfl rfl) ?_
                refine dx_u 8 (by kernel_rfl) rfl rfl rfl (fun w => y_move rfl) ?_
                refine dx_split 60 rfl (fun hg60 => ?_) (fun hg60 => ?_)
                · have h10_7 := of_decide_eq_true hg60
                  refine dx_u 10 (by kernel_rfl) rfl rfl rfl (fun w => y_fldb (o' := 2) rfl) ?_
                  refine dx_y 11 (by kernel_rfl) rfl rfl rfl (fun w ⟨m, hw⟩ => D5 hw rfl) ?_
                  refine dx_only 9 (by kernel_rfl) rfl rfl ?_
                  refine CK [] hO rfl (fun k' hx hr hO' => tmath_spec (hO := hO')) ?_
                  rintro _ _ w ⟨b61, rfl, rfl⟩ hO
                  simp only [List.cons_append, List.nil_append] at hO
                  refine o_done ?_
                  refine ⟨SO.ks [.b b7] hO, ?_⟩
                  refine dx_close 12 (by kernel_rfl) rfl rfl ?_
                  refine CK [] hO rfl (fun k' hx hr hO' => tIn_spec (ts := mathL) (sls_roK (p := (some ⟨b61, 0, none⟩)) hr (sls_fct (p := (some ⟨b61, 0, none⟩)) hO)) (by decide) (hO := hO')) ?_
                  rintro _ _ w ⟨rfl, rfl⟩ hO
                  simp only [List.cons_append, List.nil_append] at hO
                  refine o_done ?_
                  refine da_phase _ [23] (SO.ks [.b b7] hO) ?_
                  refine dx_u 13 (by kernel_rfl) rfl rfl rfl (fun w => y_pick_t rfl rfl) ?_
                  refine dx_u 14 (by kernel_rfl) rfl rfl rfl (fun w => y_pick_f rfl rfl) ?_
                  refine dx_u 15 (by kernel_rfl) rfl rfl rfl (fun w => y_move rfl) ?_
                  refine dx_split 67 rfl (fun hg67 => ?_) (fun hg67 => ?_)
                  · refine dx_pass 16 (by kernel_rfl) rfl rfl rfl ?_
                    refine dx_pass 17 (by kernel_rfl) rfl rfl rfl ?_
                    refine dx_pass 18 (by kernel_rfl) rfl rfl rfl ?_
                    refine dx_pass 19 (by kernel_rfl) rfl rfl rfl ?_
                    refine dx_pass 20 (by kernel_rfl) rfl rfl rfl ?_
                    refine dx_pass 21 (by kernel_rfl) rfl rfl rfl ?_
                    refine dx_pass 22 (by kernel_rfl) rfl rfl rfl ?_
                    refine dx_close 23 (by kernel_rfl) rfl rfl ?_
                    refine M2 ?_
                    refine o_done ?_
                    refine da_phase _ [] (SO.ks [] hO) ?_
                    refine dx_pass 24 (by kernel_rfl) rfl rfl rfl ?_
                    refine dx_u 25 (by kernel_rfl) rfl rfl rfl (fun w => y_pick_t rfl rfl) ?_
                    refine dx_u 26 (by kernel_rfl) rfl rfl rfl (fun w => y_assign rfl) ?_
                    refine dx_end (by kernel_rfl) ?_
                    refine K3 (K6 ?_)
                    exact fin1 rfl rfl ⟨_, ⟨by rw [e0]; clear e1 e2 en e0; first | (exfalso; omega) | (simp [bord2, btnL, *]; done) | (simp [bord2, btnL, namB, *]; done), rfl⟩, hO.only [.b r, .p p, .b t]⟩
                  · refine dx_u 16 (by kernel_rfl) rfl rfl rfl (fun w => y_fldb (o' := 1) rfl) ?_
                    refine dx_y 17 (by kernel_rfl) rfl rfl rfl (fun w ⟨m, hw⟩ => D5 hw rfl) ?_
                    refine dx_u 18 (by kernel_rfl) rfl rfl rfl (fun w => y_cmpI rfl rfl rfl) ?_
                    refine dx_u 19 (by kernel_rfl) rfl rfl rfl (fun w => y_move rfl) ?_
                    refine dx_split 71 rfl (fun hg71 => ?_) (fun hg71 => ?_)
                    · have h10_18 := of_decide_eq_true hg71
                      refine dx_u 21 (by kernel_rfl) rfl rfl rfl (fun w => y_fldb (o' := 2) rfl) ?_
                      refine dx_y 22 (by kernel_rfl) rfl rfl rfl (fun w ⟨m, hw⟩ => D5 hw rfl) ?_
                      refine dx_only 20 (by kernel_rfl) rfl rfl ?_
                      refine CK [] hO rfl (fun k' hx hr hO' => tdrawn_spec (hO := hO')) ?_
                      rintro _ _ w ⟨b72, rfl, rfl⟩ hO
                      simp only [List.cons_append, List.nil_append] at hO
                      refine o_done ?_
                      refine ⟨SO.ks [.b b7] hO, ?_⟩
                      refine dx_close 23 (by kernel_rfl) rfl rfl ?_
                      refine CK [] hO rfl (fun k' hx hr hO' => tIn_spec (ts := drawL) (sls_roK (p := (some ⟨b72, 0, none⟩)) hr (sls_fct (p := (some ⟨b72, 0, none⟩)) hO)) (by decide) (hO := hO')) ?_
                      rintro _ _ w ⟨rfl, rfl⟩ hO
                      simp only [List.cons_append, List.nil_append] at hO
                      refine o_done ?_
                      refine da_phase _ [] (SO.ks [] hO) ?_
                      refine dx_u 24 (by kernel_rfl) rfl rfl rfl (fun w => y_pick_t rfl rfl) ?_
                      refine dx_u 25 (by kernel_rfl) rfl rfl rfl (fun w => y_pick_f rfl rfl) ?_
                      refine dx_u 26 (by kernel_rfl) rfl rfl rfl (fun w => y_assign rfl) ?_
                      refine dx_end (by kernel_rfl) ?_
                      refine K3 (K6 ?_)
                      exact fin1 rfl rfl ⟨_, ⟨by rw [e0]; clear e1 e2 en e0; first | (exfalso; omega) | (simp [bord2, btnL, *]; done) | (simp [bord2, btnL, namB, *]; done), rfl⟩, hO.only [.b r, .p p, .b t]⟩
                    · have h10_18 := of_decide_eq_false hg71
                      refine dx_pass 20 (by kernel_rfl) rfl rfl rfl ?_
                      refine dx_pass 21 (by kernel_rfl) rfl rfl rfl ?_
                      refine dx_pass 22 (by kernel_rfl) rfl rfl rfl ?_
                      refine dx_close 23 (by kernel_rfl) rfl rfl ?_
                      refine M2 ?_
                      refine o_done ?_
                      refine da_phase _ [] (SO.ks [] hO) ?_
                      refine dx_u 24 (by kernel_rfl) rfl rfl rfl (fun w => y_pick_f rfl rfl) ?_
                      refine dx_u 25 (by kernel_rfl) rfl rfl rfl (fun w => y_pick_f rfl rfl) ?_
                      refine dx_u 26 (by kernel_rfl) rfl rfl rfl (fun w => y_assign rfl) ?_
                      refine dx_end (by kernel_rfl) ?_
                      refine K3 (K6 ?_)
                      exact fin1 rfl rfl ⟨_, ⟨by rw [e0]; clear e1 e2 en e0; first | (exfalso; omega) | (simp [bord2, btnL, *]; done) | (simp [bord2, btnL, namB, *]; done), rfl⟩, hO.only [.b r, .p p, .b t]⟩
                · have h10_7 := of_decide_eq_false hg60
                  refine dx_pass 9 (by kernel_rfl) rfl rfl rfl ?_
                  refine dx_pass 10 (by kernel_rfl) rfl rfl rfl ?_
                  refine dx_pass 11 (by kernel_rfl) rfl rfl rfl ?_
                  refine dx_close 12 (by kernel_rfl) rfl rfl ?_
                  refine M2 ?_
                  refine o_done ?_
                  refine da_phase _ [23] (SO.ks [.b b7] hO) ?_
                  refine dx_u 13 (by kernel_rfl) rfl rfl rfl (fun w => y_pick_f rfl rfl) ?_
                  refine dx_u 14 (by kernel_rfl) rfl rfl rfl (fun w => y_pick_f rfl rfl) ?_
                  refine dx_u 15 (by kernel_rfl) rfl rfl rfl (fun w => y_move rfl) ?_
                  refine dx_u 16 (by kernel_rfl) rfl rfl rfl (fun w => y_fldb (o' := 1) rfl) ?_
                  refine dx_y 17 (by kernel_rfl) rfl rfl rfl (fun w ⟨m, hw⟩ => D5 hw rfl) ?_
                  refine dx_u 18 (by kernel_rfl) rfl rfl rfl (fun w => y_cmpI rfl rfl rfl) ?_
                  refine dx_u 19 (by kernel_rfl) rfl rfl rfl (fun w => y_move rfl) ?_
                  refine dx_split 71 rfl (fun hg71 => ?_) (fun hg71 => ?_)
                  · have h10_18 := of_decide_eq_true hg71
                    refine dx_u 21 (by kernel_rfl) rfl rfl rfl (fun w => y_fldb (o' := 2) rfl) ?_
                    refine dx_y 22 (by kernel_rfl) rfl rfl rfl (fun w ⟨m, hw⟩ => D5 hw rfl) ?_
                    refine dx_only 20 (by kernel_rfl) rfl rfl ?_
                    refine CK [] hO rfl (fun k' hx hr hO' => tdrawn_spec (hO := hO')) ?_
                    rintro _ _ w ⟨b72, rfl, rfl⟩ hO
                    simp only [List.cons_append, List.nil_append] at hO
                    refine o_done ?_
                    refine ⟨SO.ks [.b b7] hO, ?_⟩
                    refine dx_close 23 (by kernel_rfl) rfl rfl ?_
                    refine CK [] hO rfl (fun k' hx hr hO' => tIn_spec (ts := drawL) (sls_roK (p := (some ⟨b72, 0, none⟩)) hr (sls_fct (p := (some ⟨b72, 0, none⟩)) hO)) (by decide) (hO := hO')) ?_
                    rintro _ _ w ⟨rfl, rfl⟩ hO
                    simp only [List.cons_append, List.nil_append] at hO
                    refine o_done ?_
                    refine da_phase _ [] (SO.ks [] hO) ?_
                    refine dx_u 24 (by kernel_rfl) rfl rfl rfl (fun w => y_pick_t rfl rfl) ?_
                    refine dx_u 25 (by kernel_rfl) rfl rfl rfl (fun w => y_pick_f rfl rfl) ?_
                    refine dx_u 26 (by kernel_rfl) rfl rfl rfl (fun w => y_assign rfl) ?_
                    refine dx_end (by kernel_rfl) ?_
                    refine K3 (K6 ?_)
                    exact fin1 rfl rfl ⟨_, ⟨by rw [e0]; clear e1 e2 en e0; first | (exfalso; omega) | (simp [bord2, btnL, *]; done) | (simp [bord2, btnL, namB, *]; done), rfl⟩, hO.only [.b r, .p p, .b t]⟩
                  · have h10_18 := of_decide_eq_false hg71
                    refine dx_pass 20 (by kernel_rfl) rfl rfl rfl ?_
                    refine dx_pass 21 (by kernel_rfl) rfl rfl rfl ?_
                    refine dx_pass 22 (by kernel_rfl) rfl rfl rfl ?_
                    refine dx_close 23 (by kernel_rfl) rfl rfl ?_
                    refine M2 ?_
                    refine o_done ?_
                    refine da_phase _ [] (SO.ks [] hO) ?_
                    refine dx_u 24 (by kernel_rfl) rfl rfl rfl (fun w => y_pick_f rfl rfl) ?_
                    refine dx_u 25 (by kernel_rfl) rfl rfl rfl (fun w => y_pick_f rfl rfl) ?_
                    refine dx_u 26 (by kernel_rfl) rfl rfl rfl (fun w => y_assign rfl) ?_
                    refine dx_end (by kernel_rfl) ?_
                    refine K3 (K6 ?_)
                    exact fin1 rfl rfl ⟨_, ⟨by rw [e0]; clear e1 e2 en e0; first | (exfalso; omega) | (simp [bord2, btnL, *]; done) | (simp [bord2, btnL, namB, *]; done), rfl⟩, hO.only [.b r, .p p, .b t]⟩
          · refine l_y rfl rfl (y_move rfl) ?_
            repeat refine M2 ?_
            refine l_y rfl rfl (y_pick_f rfl rfl) ?_
            refine l_y rfl rfl (y_pick_f rfl rfl) ?_
            refine K2 (K3 (L9 (K5 (K3 (K0 ?_)))))
            refine da_region (by intro c a d v w h; cases d <;> exact h) ?_
            have hO := hO.drew
            refine da_phase _ [3] (SO.ks [] hO) ?_
            refine dx_u 0 (by kernel_rfl) rfl rfl rfl (fun w => y_move rfl) ?_
            refine dx_u 1 (by kernel_rfl) rfl rfl rfl (fun w => y_move rfl) ?_
            refine dx_u 2 (by kernel_rfl) rfl rfl rfl (fun w => y_move rfl) ?_
            refine dx_close 3 (by kernel_rfl) rfl rfl ?_
            refine CK [.b r, .p p, .b t] hO rfl (fun k' hx hr hO' => tOf_spec (ts := bordL) (sls_roK (p := (some ⟨b21, 0, none⟩)) hr (sls_fct (p := (some ⟨b21, 0, none⟩)) hO)) (by decide) s hg (hO := hO')) ?_
            rintro _ _ w ⟨rfl, rfl⟩ hO
            simp only [List.cons_append, List.nil_append] at hO
            rw [en]
            refine o_done ?_
            refine da_phase _ [12] (SO.ks [.b b7] hO) ?_
            refine dx_u 4 (by kernel_rfl) rfl rfl rfl (fun w => y_move rfl) ?_
            refine dx_split 56 rfl (fun hg56 => ?_) (fun hg56 => ?_)
            · refine dx_pass 5 (by kernel_rfl) rfl rfl rfl ?_
              refine dx_pass 6 (by kernel_rfl) rfl rfl rfl ?_
              refine dx_pass 7 (by kernel_rfl) rfl rfl rfl ?_
              refine dx_pass 8 (by kernel_rfl) rfl rfl rfl ?_
              refine dx_pass 9 (by kernel_rfl) rfl rfl rfl ?_
              refine dx_pass 10 (by kernel_rfl) rfl rfl rfl ?_
              refine dx_pass 11 (by kernel_rfl) rfl rfl rfl ?_
              refine dx_close 12 (by kernel_rfl) rfl rfl ?_
              refine M2 ?_
              refine o_done ?_
              refine da_phase _ [23] (SO.ks [] hO) ?_
              refine dx_pass 13 (by kernel_rfl) rfl rfl rfl ?_
              refine dx_u 14 (by kernel_rfl) rfl rfl rfl (fun w => y_pick_t rfl rfl) ?_
              refine dx_u 15 (by kernel_rfl) rfl rfl rfl (fun w => y_move rfl) ?_
              refine dx_pass 16 (by kernel_rfl) rfl rfl rfl ?_
              refine dx_pass 17 (by kernel_rfl) rfl rfl rfl ?_
              refine dx_pass 18 (by kernel_rfl) rfl rfl rfl ?_
              refine dx_pass 19 (by kernel_rfl) rfl rfl rfl ?_
              refine dx_pass 20 (by kernel_rfl) rfl rfl rfl ?_
              refine dx_pass 21 (by kernel_rfl) rfl rfl rfl ?_
              refine dx_pass 22 (by kernel_rfl) rfl rfl rfl ?_
              refine dx_close 23 (by kernel_rfl) rfl rfl ?_
              refine M2 ?_
              refine o_done ?_
              refine da_phase _ [] (SO.ks [] hO) ?_
              refine dx_pass 24 (by kernel_rfl) rfl rfl rfl ?_
              refine dx_u 25 (by kernel_rfl) rfl rfl rfl (fun w => y_pick_t rfl rfl) ?_
              refine dx_u 26 (by kernel_rfl) rfl rfl rfl (fun w => y_assign rfl) ?_
              refine dx_end (by kernel_rfl) ?_
              refine K3 (K6 ?_)
              exact fin1 rfl rfl ⟨_, ⟨by rw [e0]; clear e1 e2 en e0; first | (exfalso; omega) | (simp [bord2, btnL, *]; done) | (simp [bord2, btnL, namB, *]; done), rfl⟩, hO.only [.b r, .p p, .b t]⟩
            · refine dx_u 5 (by kernel_rfl) rfl rfl rfl (fun w => y_fldb (o' := 1) rfl) ?_
              refine dx_y 6 (by kernel_rfl) rfl rfl rfl (fun w ⟨m, hw⟩ => D5 hw rfl) ?_
              refine dx_u 7 (by kernel_rfl) rfl rfl rfl (fun w => y_cmpI rfl rfl rfl) ?_
              refine dx_u 8 (by kernel_rfl) rfl rfl rfl (fun w => y_move rfl) ?_
              refine dx_split 60 rfl (fun hg60 => ?_) (fun hg60 => ?_)
              · have h10_7 := of_decide_eq_true hg60
                refine dx_u 10 (by kernel_rfl) rfl rfl rfl (fun w => y_fldb (o' := 2) rfl) ?_
                refine dx_y 11 (by kernel_rfl) rfl rfl rfl (fun w ⟨m, hw⟩ => D5 hw rfl) ?_
                refine dx_only 9 (by kernel_rfl) rfl rfl ?_
                refine CK [] hO rfl (fun k' hx hr hO' => tmath_spec (hO := hO')) ?_
                rintro _ _ w ⟨b61, rfl, rfl⟩ hO
                simp only [List.cons_append, List.nil_append] at hO
                refine o_done ?_
                refine ⟨SO.ks [.b b7] hO, ?_⟩
                refine dx_close 12 (by kernel_rfl) rfl rfl ?_
                refine CK [] hO rfl (fun k' hx hr hO' => tIn_spec (ts := mathL) (sls_roK (p := (some ⟨b61, 0, none⟩)) hr (sls_fct (p := (some ⟨b61, 0, none⟩)) hO)) (by decide) (hO := hO')) ?_
                rintro _ _ w ⟨rfl, rfl⟩ hO
                simp only [List.cons_append, List.nil_append] at hO
                refine o_done ?_
                refine da_phase _ [23] (SO.ks [.b b7] hO) ?_
                refine dx_u 13 (by kernel_rfl) rfl rfl rfl (fun w => y_pick_t rfl rfl) ?_
                refine dx_u 14 (by kernel_rfl) rfl rfl rfl (fun w => y_pick_f rfl rfl) ?_
                refine dx_u 15 (by kernel_rfl) rfl rfl rfl (fun w => y_move rfl) ?_
                refine dx_split 67 rfl (fun hg67 => ?_) (fun hg67 => ?_)
                · refine dx_pass 16 (by kernel_rfl) rfl rfl rfl ?_
                  refine dx_pass 17 (by kernel_rfl) rfl rfl rfl ?_
                  refine dx_pass 18 (by kernel_rfl) rfl rfl rfl ?_
                  refine dx_pass 19 (by kernel_rfl) rfl rfl rfl ?_
                  refine dx_pass 20 (by kernel_rfl) rfl rfl rfl ?_
                  refine dx_pass 21 (by kernel_rfl) rfl rfl rfl ?_
                  refine dx_pass 22 (by kernel_rfl) rfl rfl rfl ?_
                  refine dx_close 23 (by kernel_rfl) rfl rfl ?_
                  refine M2 ?_
                  refine o_done ?_
                  refine da_phase _ [] (SO.ks [] hO) ?_
                  refine dx_pass 24 (by kernel_rfl) rfl rfl rfl ?_
                  refine dx_u 25 (by kernel_rfl) rfl rfl rfl (fun w => y_pick_t rfl rfl) ?_
                  refine dx_u 26 (by kernel_rfl) rfl rfl rfl (fun w => y_assign rfl) ?_
                  refine dx_end (by kernel_rfl) ?_
                  refine K3 (K6 ?_)
                  exact fin1 rfl rfl ⟨_, ⟨by rw [e0]; clear e1 e2 en e0; first | (exfalso; omega) | (simp [bord2, btnL, *]; done) | (simp [bord2, btnL, namB, *]; done), rfl⟩, hO.only [.b r, .p p, .b t]⟩
                · refine dx_u 16 (by kernel_rfl) rfl rfl rfl (fun w => y_fldb (o' := 1) rfl) ?_
                  refine dx_y 17 (by kernel_rfl) rfl rfl rfl (fun w ⟨m, hw⟩ => D5 hw rfl) ?_
                  refine dx_u 18 (by kernel_rfl) rfl rfl rfl (fun w => y_cmpI rfl rfl rfl) ?_
                  refine dx_u 19 (by kernel_rfl) rfl rfl rfl (fun w => y_move rfl) ?_
                  refine dx_split 71 rfl (fun hg71 => ?_) (fun hg71 => ?_)
                  · have h10_18 := of_decide_eq_true hg71
                    refine dx_u 21 (by kernel_rfl) rfl rfl rfl (fun w => y_fldb (o' := 2) rfl) ?_
                    refine dx_y 22 (by kernel_rfl) rfl rfl rfl (fun w ⟨m, hw⟩ => D5 hw rfl) ?_
                    refine dx_only 20 (by kernel_rfl) rfl rfl ?_
                    refine CK [] hO rfl (fun k' hx hr hO' => tdrawn_spec (hO := hO')) ?_
                    rintro _ _ w ⟨b72, rfl, rfl⟩ hO
                    simp only [List.cons_append, List.nil_append] at hO
                    refine o_done ?_
                    refine ⟨SO.ks [.b b7] hO, ?_⟩
                    refine dx_close 23 (by kernel_rfl) rfl rfl ?_
                    refine CK [] hO rfl (fun k' hx hr hO' => tIn_spec (ts := drawL) (sls_roK (p := (some ⟨b72, 0, none⟩)) hr (sls_fct (p := (some ⟨b72, 0, none⟩)) hO)) (by decide) (hO := hO')) ?_
                    rintro _ _ w ⟨rfl, rfl⟩ hO
                    simp only [List.cons_append, List.nil_append] at hO
                    refine o_done ?_
                    refine da_phase _ [] (SO.ks [] hO) ?_
                    refine dx_u 24 (by kernel_rfl) rfl rfl rfl (fun w => y_pick_t rfl rfl) ?_
                    refine dx_u 25 (by kernel_rfl) rfl rfl rfl (fun w => y_pick_f rfl rfl) ?_
                    refine dx_u 26 (by kernel_rfl) rfl rfl rfl (fun w => y_assign rfl) ?_
                    refine dx_end (by kernel_rfl) ?_
                    refine K3 (K6 ?_)
                    exact fin1 rfl rfl ⟨_, ⟨by rw [e0]; clear e1 e2 en e0; first | (exfalso; omega) | (simp [bord2, btnL, *]; done) | (simp [bord2, btnL, namB, *]; done), rfl⟩, hO.only [.b r, .p p, .b t]⟩
                  · have h10_18 := of_decide_eq_false hg71
                    refine dx_pass 20 (by kernel_rfl) rfl rfl rfl ?_
                    refine dx_pass 21 (by kernel_rfl) rfl rfl rfl ?_
                    refine dx_pass 22 (by kernel_rfl) rfl rfl rfl ?_
                    refine dx_close 23 (by kernel_rfl) rfl rfl ?_
                    refine M2 ?_
                    refine o_done ?_
                    refine da_phase _ [] (SO.ks [] hO) ?_
                    refine dx_u 24 (by kernel_rfl) rfl rfl rfl (fun w => y_pick_f rfl rfl) ?_
                    refine dx_u 25 (by kernel_rfl) rfl rfl rfl (fun w => y_pick_f rfl rfl) ?_
                    refine dx_u 26 (by kernel_rfl) rfl rfl rfl (fun w => y_assign rfl) ?_
                    refine dx_end (by kernel_rfl) ?_
                    refine K3 (K6 ?_)
                    exact fin1 rfl rfl ⟨_, ⟨by rw [e0]; clear e1 e2 en e0; first | (exfalso; omega) | (simp [bord2, btnL, *]; done) | (simp [bord2, btnL, namB, *]; done), rfl⟩, hO.only [.b r, .p p, .b t]⟩
              · have h10_7 := of_decide_eq_false hg60
                refine dx_pass 9 (by kernel_rfl) rfl rfl rfl ?_
                refine dx_pass 10 (by kernel_rfl) rfl rfl rfl ?_
                refine dx_pass 11 (by kernel_rfl) rfl rfl rfl ?_
                refine dx_close 12 (by kernel_rfl) rfl rfl ?_
                refine M2 ?_
                refine o_done ?_
                refine da_phase _ [23] (SO.ks [.b b7] hO) ?_
                refine dx_u 13 (by kernel_rfl) rfl rfl rfl (fun w => y_pick_f rfl rfl) ?_
                refine dx_u 14 (by kernel_rfl) rfl rfl rfl (fun w => y_pick_f rfl rfl) ?_
                refine dx_u 15 (by kernel_rfl) rfl rfl rfl (fun w => y_move rfl) ?_
                refine dx_u 16 (by kernel_rfl) rfl rfl rfl (fun w => y_fldb (o' := 1) rfl) ?_
                refine dx_y 17 (by kernel_rfl) rfl rfl rfl (fun w ⟨m, hw⟩ => D5 hw rfl) ?_
                refine dx_u 18 (by kernel_rfl) rfl rfl rfl (fun w => y_cmpI rfl rfl rfl) ?_
                refine dx_u 19 (by kernel_rfl) rfl rfl rfl (fun w => y_move rfl) ?_
                refine dx_split 71 rfl (fun hg71 => ?_) (fun hg71 => ?_)
                · have h10_18 := of_decide_eq_true hg71
                  refine dx_u 21 (by kernel_rfl) rfl rfl rfl (fun w => y_fldb (o' := 2) rfl) ?_
                  refine dx_y 22 (by kernel_rfl) rfl rfl rfl (fun w ⟨m, hw⟩ => D5 hw rfl) ?_
                  refine dx_only 20 (by kernel_rfl) rfl rfl ?_
                  refine CK [] hO rfl (fun k' hx hr hO' => tdrawn_spec (hO := hO')) ?_
                  rintro _ _ w ⟨b72, rfl, rfl⟩ hO
                  simp only [List.cons_append, List.nil_append] at hO
                  refine o_done ?_
                  refine ⟨SO.ks [.b b7] hO, ?_⟩
                  refine dx_close 23 (by kernel_rfl) rfl rfl ?_
                  refine CK [] hO rfl (fun k' hx hr hO' => tIn_spec (ts := drawL) (sls_roK (p := (some ⟨b72, 0, none⟩)) hr (sls_fct (p := (some ⟨b72, 0, none⟩)) hO)) (by decide) (hO := hO')) ?_
                  rintro _ _ w ⟨rfl, rfl⟩ hO
                  simp only [List.cons_append, List.nil_append] at hO
                  refine o_done ?_
                  refine da_phase _ [] (SO.ks [] hO) ?_
                  refine dx_u 24 (by kernel_rfl) rfl rfl rfl (fun w => y_pick_t rfl rfl) ?_
                  refine dx_u 25 (by kernel_rfl) rfl rfl rfl (fun w => y_pick_f rfl rfl) ?_
                  refine dx_u 26 (by kernel_rfl) rfl rfl rfl (fun w => y_assign rfl) ?_
                  refine dx_end (by kernel_rfl) ?_
                  refine K3 (K6 ?_)
                  exact fin1 rfl rfl ⟨_, ⟨by rw [e0]; clear e1 e2 en e0; first | (exfalso; omega) | (simp [bord2, btnL, *]; done) | (simp [bord2, btnL, namB, *]; done), rfl⟩, hO.only [.b r, .p p, .b t]⟩
                · have h10_18 := of_decide_eq_false hg71
                  refine dx_pass 20 (by kernel_rfl) rfl rfl rfl ?_
                  refine dx_pass 21 (by kernel_rfl) rfl rfl rfl ?_
                  refine dx_pass 22 (by kernel_rfl) rfl rfl rfl ?_
                  refine dx_close 23 (by kernel_rfl) rfl rfl ?_
                  refine M2 ?_
                  refine o_done ?_
                  refine da_phase _ [] (SO.ks [] hO) ?_
                  refine dx_u 24 (by kernel_rfl) rfl rfl rfl (fun w => y_pick_f rfl rfl) ?_
                  refine dx_u 25 (by kernel_rfl) rfl rfl rfl (fun w => y_pick_f rfl rfl) ?_
                  refine dx_u 26 (by kernel_rfl) rfl rfl rfl (fun w => y_assign rfl) ?_
                  refine dx_end (by kernel_rfl) ?_
                  refine K3 (K6 ?_)
                  exact fin1 rfl rfl ⟨_, ⟨by rw [e0]; clear e1 e2 en e0; first | (exfalso; omega) | (simp [bord2, btnL, *]; done) | (simp [bord2, btnL, namB, *]; done), rfl⟩, hO.only [.b r, .p p, .b t]⟩
      · refine l_y rfl rfl (y_move rfl) ?_
        repeat refine M2 ?_
        refine l_y rfl rfl (y_pick_f rfl rfl) ?_
        refine l_y rfl rfl (y_move rfl) ?_
        refine l_y rfl rfl (y_move rfl) ?_
        refine Z0 (fun h8_10 => ?_) (fun h8_10 => ?_)
        · refine l_y rfl rfl (y_move rfl) ?_
          refine l_y rfl rfl (y_move rfl) ?_
          refine l_y rfl rfl (y_move rfl) ?_
          refine CK [.b r, .p p, .b t] hO rfl (fun k' hx hr hO' => tNamed_spec s hg (hO := hO')) ?_
          rintro _ _ w ⟨rfl, rfl⟩ hO
          simp only [List.cons_append, List.nil_append] at hO
          rw [en]
          refine l_y rfl rfl (y_pick_t rfl rfl) ?_
          refine l_y rfl rfl (y_pick_f rfl rfl) ?_
          refine K2 (K3 ?_)
          refine c_split rfl (fun hc51 => ?_) (fun hc51 => ?_)
          · refine K0 (K1 ?_)
            refine l_y rfl rfl (y_assign rfl) ?_
            refine K2 (K3 (K6 (K9 ?_)))
            exact fin1 rfl rfl ⟨_, ⟨by rw [e0]; clear e1 e2 en e0; first | (exfalso; omega) | (simp [bord2, btnL, *]; done) | (simp [bord2, btnL, namB, *]; done), rfl⟩, hO.only [.b r, .p p, .b t]⟩
          · refine K5 (K3 (K0 ?_))
            refine da_region (by intro c a d v w h; cases d <;> exact h) ?_
            have hO := hO.drew
            refine da_phase _ [3] (SO.ks [] hO) ?_
            refine dx_u 0 (by kernel_rfl) rfl rfl rfl (fun w => y_move rfl) ?_
            refine dx_u 1 (by kernel_rfl) rfl rfl rfl (fun w => y_move rfl) ?_
            refine dx_u 2 (by kernel_rfl) rfl rfl rfl (fun w => y_move rfl) ?_
            refine dx_close 3 (by kernel_rfl) rfl rfl ?_
            refine CK [.b r, .p p, .b t] hO rfl (fun k' hx hr hO' => tOf_spec (ts := bordL) (sls_roK (p := (some ⟨b21, 0, none⟩)) hr (sls_fct (p := (some ⟨b21, 0, none⟩)) hO)) (by decide) s hg (hO := hO')) ?_
            rintro _ _ w ⟨rfl, rfl⟩ hO
            simp only [List.cons_append, List.nil_append] at hO
            rw [en]
            refine o_done ?_
            refine da_phase _ [12] (SO.ks [.b b7] hO) ?_
            refine dx_u 4 (by kernel_rfl) rfl rfl rfl (fun w => y_move rfl) ?_
            refine dx_split 56 rfl (fun hg56 => ?_) (fun hg56 => ?_)
            · refine dx_pass 5 (by kernel_rfl) rfl rfl rfl ?_
              refine dx_pass 6 (by kernel_rfl) rfl rfl rfl ?_
              refine dx_pass 7 (by kernel_rfl) rfl rfl rfl ?_
              refine dx_pass 8 (by kernel_rfl) rfl rfl rfl ?_
              refine dx_pass 9 (by kernel_rfl) rfl rfl rfl ?_
              refine dx_pass 10 (by kernel_rfl) rfl rfl rfl ?_
              refine dx_pass 11 (by kernel_rfl) rfl rfl rfl ?_
              refine dx_close 12 (by kernel_rfl) rfl rfl ?_
              refine M2 ?_
              refine o_done ?_
              refine da_phase _ [23] (SO.ks [] hO) ?_
              refine dx_pass 13 (by kernel_rfl) rfl rfl rfl ?_
              refine dx_u 14 (by kernel_rfl) rfl rfl rfl (fun w => y_pick_t rfl rfl) ?_
              refine dx_u 15 (by kernel_rfl) rfl rfl rfl (fun w => y_move rfl) ?_
              refine dx_pass 16 (by kernel_rfl) rfl rfl rfl ?_
              refine dx_pass 17 (by kernel_rfl) rfl rfl rfl ?_
              refine dx_pass 18 (by kernel_rfl) rfl rfl rfl ?_
              refine dx_pass 19 (by kernel_rfl) rfl rfl rfl ?_
              refine dx_pass 20 (by kernel_rfl) rfl rfl rfl ?_
              refine dx_pass 21 (by kernel_rfl) rfl rfl rfl ?_
              refine dx_pass 22 (by kernel_rfl) rfl rfl rfl ?_
              refine dx_close 23 (by kernel_rfl) rfl rfl ?_
              refine M2 ?_
              refine o_done ?_
              refine da_phase _ [] (SO.ks [] hO) ?_
              refine dx_pass 24 (by kernel_rfl) rfl rfl rfl ?_
              refine dx_u 25 (by kernel_rfl) rfl rfl rfl (fun w => y_pick_t rfl rfl) ?_
              refine dx_u 26 (by kernel_rfl) rfl rfl rfl (fun w => y_assign rfl) ?_
              refine dx_end (by kernel_rfl) ?_
              refine K3 (K6 ?_)
              exact fin1 rfl rfl ⟨_, ⟨by rw [e0]; clear e1 e2 en e0; first | (exfalso; omega) | (simp [bord2, btnL, *]; done) | (simp [bord2, btnL, namB, *]; done), rfl⟩, hO.only [.b r, .p p, .b t]⟩
            · refine dx_u 5 (by kernel_rfl) rfl rfl rfl (fun w => y_fldb (o' := 1) rfl) ?_
              refine dx_y 6 (by kernel_rfl) rfl rfl rfl (fun w ⟨m, hw⟩ => D5 hw rfl) ?_
              refine dx_u 7 (by kernel_rfl) rfl rfl rfl (fun w => y_cmpI rfl rfl rfl) ?_
              refine dx_u 8 (by kernel_rfl) rfl rfl rfl (fun w => y_move rfl) ?_
              refine dx_split 60 rfl (fun hg60 => ?_) (fun hg60 => ?_)
              · have h10_7 := of_decide_eq_true hg60
                refine dx_u 10 (by kernel_rfl) rfl rfl rfl (fun w => y_fldb (o' := 2) rfl) ?_
                refine dx_y 11 (by kernel_rfl) rfl rfl rfl (fun w ⟨m, hw⟩ => D5 hw rfl) ?_
                refine dx_only 9 (by kernel_rfl) rfl rfl ?_
                refine CK [] hO rfl (fun k' hx hr hO' => tmath_spec (hO := hO')) ?_
                rintro _ _ w ⟨b61, rfl, rfl⟩ hO
                simp only [List.cons_append, List.nil_append] at hO
                refine o_done ?_
                refine ⟨SO.ks [.b b7] hO, ?_⟩
                refine dx_close 12 (by kernel_rfl) rfl rfl ?_
                refine CK [] hO rfl (fun k' hx hr hO' => tIn_spec (ts := mathL) (sls_roK (p := (some ⟨b61, 0, none⟩)) hr (sls_fct (p := (some ⟨b61, 0, none⟩)) hO)) (by decide) (hO := hO')) ?_
                rintro _ _ w ⟨rfl, rfl⟩ hO
                simp only [List.cons_append, List.nil_append] at hO
                refine o_done ?_
                refine da_phase _ [23] (SO.ks [.b b7] hO) ?_
                refine dx_u 13 (by kernel_rfl) rfl rfl rfl (fun w => y_pick_t rfl rfl) ?_
                refine dx_u 14 (by kernel_rfl) rfl rfl rfl (fun w => y_pick_f rfl rfl) ?_
                refine dx_u 15 (by kernel_rfl) rfl rfl rfl (fun w => y_move rfl) ?_
                refine dx_split 67 rfl (fun hg67 => ?_) (fun hg67 => ?_)
                · refine dx_pass 16 (by kernel_rfl) rfl rfl rfl ?_
                  refine dx_pass 17 (by kernel_rfl) rfl rfl rfl ?_
                  refine dx_pass 18 (by kernel_rfl) rfl rfl rfl ?_
                  refine dx_pass 19 (by kernel_rfl) rfl rfl rfl ?_
                  refine dx_pass 20 (by kernel_rfl) rfl rfl rfl ?_
                  refine dx_pass 21 (by kernel_rfl) rfl rfl rfl ?_
                  refine dx_pass 22 (by kernel_rfl) rfl rfl rfl ?_
                  refine dx_close 23 (by kernel_rfl) rfl rfl ?_
                  refine M2 ?_
                  refine o_done ?_
                  refine da_phase _ [] (SO.ks [] hO) ?_
                  refine dx_pass 24 (by kernel_rfl) rfl rfl rfl ?_
                  refine dx_u 25 (by kernel_rfl) rfl rfl rfl (fun w => y_pick_t rfl rfl) ?_
                  refine dx_u 26 (by kernel_rfl) rfl rfl rfl (fun w => y_assign rfl) ?_
                  refine dx_end (by kernel_rfl) ?_
                  refine K3 (K6 ?_)
                  exact fin1 rfl rfl ⟨_, ⟨by rw [e0]; clear e1 e2 en e0; first | (exfalso; omega) | (simp [bord2, btnL, *]; done) | (simp [bord2, btnL, namB, *]; done), rfl⟩, hO.only [.b r, .p p, .b t]⟩
                · refine dx_u 16 (by kernel_rfl) rfl rfl rfl (fun w => y_fldb (o' := 1) rfl) ?_
                  refine dx_y 17 (by kernel_rfl) rfl rfl rfl (fun w ⟨m, hw⟩ => D5 hw rfl) ?_
                  refine dx_u 18 (by kernel_rfl) rfl rfl rfl (fun w => y_cmpI rfl rfl rfl) ?_
                  refine dx_u 19 (by kernel_rfl) rfl rfl rfl (fun w => y_move rfl) ?_
                  refine dx_split 71 rfl (fun hg71 => ?_) (fun hg71 => ?_)
                  · have h10_18 := of_decide_eq_true hg71
                    refine dx_u 21 (by kernel_rfl) rfl rfl rfl (fun w => y_fldb (o' := 2) rfl) ?_
                    refine dx_y 22 (by kernel_rfl) rfl rfl rfl (fun w ⟨m, hw⟩ => D5 hw rfl) ?_
                    refine dx_only 20 (by kernel_rfl) rfl rfl ?_
                    refine CK [] hO rfl (fun k' hx hr hO' => tdrawn_spec (hO := hO')) ?_
                    rintro _ _ w ⟨b72, rfl, rfl⟩ hO
                    simp only [List.cons_append, List.nil_append] at hO
                    refine o_done ?_
                    refine ⟨SO.ks [.b b7] hO, ?_⟩
                    refine dx_close 23 (by kernel_rfl) rfl rfl ?_
                    refine CK [] hO rfl (fun k' hx hr hO' => tIn_spec (ts := drawL) (sls_roK (p := (some ⟨b72, 0, none⟩)) hr (sls_fct (p := (some ⟨b72, 0, none⟩)) hO)) (by decide) (hO := hO')) ?_
                    rintro _ _ w ⟨rfl, rfl⟩ hO
                    simp only [List.cons_append, List.nil_append] at hO
                    refine o_done ?_
                    refine da_phase _ [] (SO.ks [] hO) ?_
                    refine dx_u 24 (by kernel_rfl) rfl rfl rfl (fun w => y_pick_t rfl rfl) ?_
                    refine dx_u 25 (by kernel_rfl) rfl rfl rfl (fun w => y_pick_f rfl rfl) ?_
                    refine dx_u 26 (by kernel_rfl) rfl rfl rfl (fun w => y_assign rfl) ?_
                    refine dx_end (by kernel_rfl) ?_
                    refine K3 (K6 ?_)
                    exact fin1 rfl rfl ⟨_, ⟨by rw [e0]; clear e1 e2 en e0; first | (exfalso; omega) | (simp [bord2, btnL, *]; done) | (simp [bord2, btnL, namB, *]; done), rfl⟩, hO.only [.b r, .p p, .b t]⟩
                  · have h10_18 := of_decide_eq_false hg71
                    refine dx_pass 20 (by kernel_rfl) rfl rfl rfl ?_
                    refine dx_pass 21 (by kernel_rfl) rfl rfl rfl ?_
                    refine dx_pass 22 (by kernel_rfl) rfl rfl rfl ?_
                    refine dx_close 23 (by kernel_rfl) rfl rfl ?_
                    refine M2 ?_
                    refine o_done ?_
                    refine da_phase _ [] (SO.ks [] hO) ?_
                    refine dx_u 24 (by kernel_rfl) rfl rfl rfl (fun w => y_pick_f rfl rfl) ?_
                    refine dx_u 25 (by kernel_rfl) rfl rfl rfl (fun w => y_pick_f rfl rfl) ?_
                    refine dx_u 26 (by kernel_rfl) rfl rfl rfl (fun w => y_assign rfl) ?_
                    refine dx_end (by kernel_rfl) ?_
                    refine K3 (K6 ?_)
                    exact fin1 rfl rfl ⟨_, ⟨by rw [e0]; clear e1 e2 en e0; first | (exfalso; omega) | (simp [bord2, btnL, *]; done) | (simp [bord2, btnL, namB, *]; done), rfl⟩, hO.only [.b r, .p p, .b t]⟩
              · have h10_7 := of_decide_eq_false hg60
                refine dx_pass 9 (by kernel_rfl) rfl rfl rfl ?_
                refine dx_pass 10 (by kernel_rfl) rfl rfl rfl ?_
                refine dx_pass 11 (by kernel_rfl) rfl rfl rfl ?_
                refine dx_close 12 (by kernel_rfl) rfl rfl ?_
                refine M2 ?_
                refine o_done ?_
                refine da_phase _ [23] (SO.ks [.b b7] hO) ?_
                refine dx_u 13 (by kernel_rfl) rfl rfl rfl (fun w => y_pick_f rfl rfl) ?_
                refine dx_u 14 (by kernel_rfl) rfl rfl rfl (fun w => y_pick_f rfl rfl) ?_
                refine dx_u 15 (by kernel_rfl) rfl rfl rfl (fun w => y_move rfl) ?_
                refine dx_u 16 (by kernel_rfl) rfl rfl rfl (fun w => y_fldb (o' := 1) rfl) ?_
                refine dx_y 17 (by kernel_rfl) rfl rfl rfl (fun w ⟨m, hw⟩ => D5 hw rfl) ?_
                refine dx_u 18 (by kernel_rfl) rfl rfl rfl (fun w => y_cmpI rfl rfl rfl) ?_
                refine dx_u 19 (by kernel_rfl) rfl rfl rfl (fun w => y_move rfl) ?_
                refine dx_split 71 rfl (fun hg71 => ?_) (fun hg71 => ?_)
                · have h10_18 := of_decide_eq_true hg71
                  refine dx_u 21 (by kernel_rfl) rfl rfl rfl (fun w => y_fldb (o' := 2) rfl) ?_
                  refine dx_y 22 (by kernel_rfl) rfl rfl rfl (fun w ⟨m, hw⟩ => D5 hw rfl) ?_
                  refine dx_only 20 (by kernel_rfl) rfl rfl ?_
                  refine CK [] hO rfl (fun k' hx hr hO' => tdrawn_spec (hO := hO')) ?_
                  rintro _ _ w ⟨b72, rfl, rfl⟩ hO
                  simp only [List.cons_append, List.nil_append] at hO
                  refine o_done ?_
                  refine ⟨SO.ks [.b b7] hO, ?_⟩
                  refine dx_close 23 (by kernel_rfl) rfl rfl ?_
                  refine CK [] hO rfl (fun k' hx hr hO' => tIn_spec (ts := drawL) (sls_roK (p := (some ⟨b72, 0, none⟩)) hr (sls_fct (p := (some ⟨b72, 0, none⟩)) hO)) (by decide) (hO := hO')) ?_
                  rintro _ _ w ⟨rfl, rfl⟩ hO
                  simp only [List.cons_append, List.nil_append] at hO
                  refine o_done ?_
                  refine da_phase _ [] (SO.ks [] hO) ?_
                  refine dx_u 24 (by kernel_rfl) rfl rfl rfl (fun w => y_pick_t rfl rfl) ?_
                  refine dx_u 25 (by kernel_rfl) rfl rfl rfl (fun w => y_pick_f rfl rfl) ?_
                  refine dx_u 26 (by kernel_rfl) rfl rfl rfl (fun w => y_assign rfl) ?_
                  refine dx_end (by kernel_rfl) ?_
                  refine K3 (K6 ?_)
                  exact fin1 rfl rfl ⟨_, ⟨by rw [e0]; clear e1 e2 en e0; first | (exfalso; omega) | (simp [bord2, btnL, *]; done) | (simp [bord2, btnL, namB, *]; done), rfl⟩, hO.only [.b r, .p p, .b t]⟩
                · have h10_18 := of_decide_eq_false hg71
                  refine dx_pass 20 (by kernel_rfl) rfl rfl rfl ?_
                  refine dx_pass 21 (by kernel_rfl) rfl rfl rfl ?_
                  refine dx_pass 22 (by kernel_rfl) rfl rfl rfl ?_
                  refine dx_close 23 (by kernel_rfl) rfl rfl ?_
                  refine M2 ?_
                  refine o_done ?_
                  refine da_phase _ [] (SO.ks [] hO) ?_
                  refine dx_u 24 (by kernel_rfl) rfl rfl rfl (fun w => y_pick_f rfl rfl) ?_
                  refine dx_u 25 (by kernel_rfl) rfl rfl rfl (fun w => y_pick_f rfl rfl) ?_
                  refine dx_u 26 (by kernel_rfl) rfl rfl rfl (fun w => y_assign rfl) ?_
                  refine dx_end (by kernel_rfl) ?_
                  refine K3 (K6 ?_)
                  exact fin1 rfl rfl ⟨_, ⟨by rw [e0]; clear e1 e2 en e0; first | (exfalso; omega) | (simp [bord2, btnL, *]; done) | (simp [bord2, btnL, namB, *]; done), rfl⟩, hO.only [.b r, .p p, .b t]⟩
        · refine l_y rfl rfl (y_move rfl) ?_
          repeat refine M2 ?_
          refine l_y rfl rfl (y_pick_f rfl rfl) ?_
          refine l_y rfl rfl (y_pick_f rfl rfl) ?_
          refine K2 (K3 (L9 (K5 (K3 (K0 ?_)))))
          refine da_region (by intro c a d v w h; cases d <;> exact h) ?_
          have hO := hO.drew
          refine da_phase _ [3] (SO.ks [] hO) ?_
          refine dx_u 0 (by kernel_rfl) rfl rfl rfl (fun w => y_move rfl) ?_
          refine dx_u 1 (by kernel_rfl) rfl rfl rfl (fun w => y_move rfl) ?_
          refine dx_u 2 (by kernel_rfl) rfl rfl rfl (fun w => y_move rfl) ?_
          refine dx_close 3 (by kernel_rfl) rfl rfl ?_
          refine CK [.b r, .p p, .b t] hO rfl (fun k' hx hr hO' => tOf_spec (ts := bordL) (sls_roK (p := (some ⟨b21, 0, none⟩)) hr (sls_fct (p := (some ⟨b21, 0, none⟩)) hO)) (by decide) s hg (hO := hO')) ?_
          rintro _ _ w ⟨rfl, rfl⟩ hO
          simp only [List.cons_append, List.nil_append] at hO
          rw [en]
          refine o_done ?_
          refine da_phase _ [12] (SO.ks [.b b7] hO) ?_
          refine dx_u 4 (by kernel_rfl) rfl rfl rfl (fun w => y_move rfl) ?_
          refine dx_split 56 rfl (fun hg56 => ?_) (fun hg56 => ?_)
          · refine dx_pass 5 (by kernel_rfl) rfl rfl rfl ?_
            refine dx_pass 6 (by kernel_rfl) rfl rfl rfl ?_
            refine dx_pass 7 (by kernel_rfl) rfl rfl rfl ?_
            refine dx_pass 8 (by kernel_rfl) rfl rfl rfl ?_
            refine dx_pass 9 (by kernel_rfl) rfl rfl rfl ?_
            refine dx_pass 10 (by kernel_rfl) rfl rfl rfl ?_
            refine dx_pass 11 (by kernel_rfl) rfl rfl rfl ?_
            refine dx_close 12 (by kernel_rfl) rfl rfl ?_
            refine M2 ?_
            refine o_done ?_
            refine da_phase _ [23] (SO.ks [] hO) ?_
            refine dx_pass 13 (by kernel_rfl) rfl rfl rfl ?_
            refine dx_u 14 (by kernel_rfl) rfl rfl rfl (fun w => y_pick_t rfl rfl) ?_
            refine dx_u 15 (by kernel_rfl) rfl rfl rfl (fun w => y_move rfl) ?_
            refine dx_pass 16 (by kernel_rfl) rfl rfl rfl ?_
            refine dx_pass 17 (by kernel_rfl) rfl rfl rfl ?_
            refine dx_pass 18 (by kernel_rfl) rfl rfl rfl ?_
            refine dx_pass 19 (by kernel_rfl) rfl rfl rfl ?_
            refine dx_pass 20 (by kernel_rfl) rfl rfl rfl ?_
            refine dx_pass 21 (by kernel_rfl) rfl rfl rfl ?_
            refine dx_pass 22 (by kernel_rfl) rfl rfl rfl ?_
            refine dx_close 23 (by kernel_rfl) rfl rfl ?_
            refine M2 ?_
            refine o_done ?_
            refine da_phase _ [] (SO.ks [] hO) ?_
            refine dx_pass 24 (by kernel_rfl) rfl rfl rfl ?_
            refine dx_u 25 (by kernel_rfl) rfl rfl rfl (fun w => y_pick_t rfl rfl) ?_
            refine dx_u 26 (by kernel_rfl) rfl rfl rfl (fun w => y_assign rfl) ?_
            refine dx_end (by kernel_rfl) ?_
            refine K3 (K6 ?_)
            exact fin1 rfl rfl ⟨_, ⟨by rw [e0]; clear e1 e2 en e0; first | (exfalso; omega) | (simp [bord2, btnL, *]; done) | (simp [bord2, btnL, namB, *]; done), rfl⟩, hO.only [.b r, .p p, .b t]⟩
          · refine dx_u 5 (by kernel_rfl) rfl rfl rfl (fun w => y_fldb (o' := 1) rfl) ?_
            refine dx_y 6 (by kernel_rfl) rfl rfl rfl (fun w ⟨m, hw⟩ => D5 hw rfl) ?_
            refine dx_u 7 (by kernel_rfl) rfl rfl rfl (fun w => y_cmpI rfl rfl rfl) ?_
            refine dx_u 8 (by kernel_rfl) rfl rfl rfl (fun w => y_move rfl) ?_
            refine dx_split 60 rfl (fun hg60 => ?_) (fun hg60 => ?_)
            · have h10_7 := of_decide_eq_true hg60
              refine dx_u 10 (by kernel_rfl) rfl rfl rfl (fun w => y_fldb (o' := 2) rfl) ?_
              refine dx_y 11 (by kernel_rfl) rfl rfl rfl (fun w ⟨m, hw⟩ => D5 hw rfl) ?_
              refine dx_only 9 (by kernel_rfl) rfl rfl ?_
              refine CK [] hO rfl (fun k' hx hr hO' => tmath_spec (hO := hO')) ?_
              rintro _ _ w ⟨b61, rfl, rfl⟩ hO
              simp only [List.cons_append, List.nil_append] at hO
              refine o_done ?_
              refine ⟨SO.ks [.b b7] hO, ?_⟩
              refine dx_close 12 (by kernel_rfl) rfl rfl ?_
              refine CK [] hO rfl (fun k' hx hr hO' => tIn_spec (ts := mathL) (sls_roK (p := (some ⟨b61, 0, none⟩)) hr (sls_fct (p := (some ⟨b61, 0, none⟩)) hO)) (by decide) (hO := hO')) ?_
              rintro _ _ w ⟨rfl, rfl⟩ hO
              simp only [List.cons_append, List.nil_append] at hO
              refine o_done ?_
              refine da_phase _ [23] (SO.ks [.b b7] hO) ?_
              refine dx_u 13 (by kernel_rfl) rfl rfl rfl (fun w => y_pick_t rfl rfl) ?_
              refine dx_u 14 (by kernel_rfl) rfl rfl rfl (fun w => y_pick_f rfl rfl) ?_
              refine dx_u 15 (by kernel_rfl) rfl rfl rfl (fun w => y_move rfl) ?_
              refine dx_split 67 rfl (fun hg67 => ?_) (fun hg67 => ?_)
              · refine dx_pass 16 (by kernel_rfl) rfl rfl rfl ?_
                refine dx_pass 17 (by kernel_rfl) rfl rfl rfl ?_
                refine dx_pass 18 (by kernel_rfl) rfl rfl rfl ?_
                refine dx_pass 19 (by kernel_rfl) rfl rfl rfl ?_
                refine dx_pass 20 (by kernel_rfl) rfl rfl rfl ?_
                refine dx_pass 21 (by kernel_rfl) rfl rfl rfl ?_
                refine dx_pass 22 (by kernel_rfl) rfl rfl rfl ?_
                refine dx_close 23 (by kernel_rfl) rfl rfl ?_
                refine M2 ?_
                refine o_done ?_
                refine da_phase _ [] (SO.ks [] hO) ?_
                refine dx_pass 24 (by kernel_rfl) rfl rfl rfl ?_
                refine dx_u 25 (by kernel_rfl) rfl rfl rfl (fun w => y_pick_t rfl rfl) ?_
                refine dx_u 26 (by kernel_rfl) rfl rfl rfl (fun w => y_assign rfl) ?_
                refine dx_end (by kernel_rfl) ?_
                refine K3 (K6 ?_)
                exact fin1 rfl rfl ⟨_, ⟨by rw [e0]; clear e1 e2 en e0; first | (exfalso; omega) | (simp [bord2, btnL, *]; done) | (simp [bord2, btnL, namB, *]; done), rfl⟩, hO.only [.b r, .p p, .b t]⟩
              · refine dx_u 16 (by kernel_rfl) rfl rfl rfl (fun w => y_fldb (o' := 1) rfl) ?_
                refine dx_y 17 (by kernel_rfl) rfl rfl rfl (fun w ⟨m, hw⟩ => D5 hw rfl) ?_
                refine dx_u 18 (by kernel_rfl) rfl rfl rfl (fun w => y_cmpI rfl rfl rfl) ?_
                refine dx_u 19 (by kernel_rfl) rfl rfl rfl (fun w => y_move rfl) ?_
                refine dx_split 71 rfl (fun hg71 => ?_) (fun hg71 => ?_)
                · have h10_18 := of_decide_eq_true hg71
                  refine dx_u 21 (by kernel_rfl) rfl rfl rfl (fun w => y_fldb (o' := 2) rfl) ?_
                  refine dx_y 22 (by kernel_rfl) rfl rfl rfl (fun w ⟨m, hw⟩ => D5 hw rfl) ?_
                  refine dx_only 20 (by kernel_rfl) rfl rfl ?_
                  refine CK [] hO rfl (fun k' hx hr hO' => tdrawn_spec (hO := hO')) ?_
                  rintro _ _ w ⟨b72, rfl, rfl⟩ hO
                  simp only [List.cons_append, List.nil_append] at hO
                  refine o_done ?_
                  refine ⟨SO.ks [.b b7] hO, ?_⟩
                  refine dx_close 23 (by kernel_rfl) rfl rfl ?_
                  refine CK [] hO rfl (fun k' hx hr hO' => tIn_spec (ts := drawL) (sls_roK (p := (some ⟨b72, 0, none⟩)) hr (sls_fct (p := (some ⟨b72, 0, none⟩)) hO)) (by decide) (hO := hO')) ?_
                  rintro _ _ w ⟨rfl, rfl⟩ hO
                  simp only [List.cons_append, List.nil_append] at hO
                  refine o_done ?_
                  refine da_phase _ [] (SO.ks [] hO) ?_
                  refine dx_u 24 (by kernel_rfl) rfl rfl rfl (fun w => y_pick_t rfl rfl) ?_
                  refine dx_u 25 (by kernel_rfl) rfl rfl rfl (fun w => y_pick_f rfl rfl) ?_
                  refine dx_u 26 (by kernel_rfl) rfl rfl rfl (fun w => y_assign rfl) ?_
                  refine dx_end (by kernel_rfl) ?_
                  refine K3 (K6 ?_)
                  exact fin1 rfl rfl ⟨_, ⟨by rw [e0]; clear e1 e2 en e0; first | (exfalso; omega) | (simp [bord2, btnL, *]; done) | (simp [bord2, btnL, namB, *]; done), rfl⟩, hO.only [.b r, .p p, .b t]⟩
                · have h10_18 := of_decide_eq_false hg71
                  refine dx_pass 20 (by kernel_rfl) rfl rfl rfl ?_
                  refine dx_pass 21 (by kernel_rfl) rfl rfl rfl ?_
                  refine dx_pass 22 (by kernel_rfl) rfl rfl rfl ?_
                  refine dx_close 23 (by kernel_rfl) rfl rfl ?_
                  refine M2 ?_
                  refine o_done ?_
                  refine da_phase _ [] (SO.ks [] hO) ?_
                  refine dx_u 24 (by kernel_rfl) rfl rfl rfl (fun w => y_pick_f rfl rfl) ?_
                  refine dx_u 25 (by kernel_rfl) rfl rfl rfl (fun w => y_pick_f rfl rfl) ?_
                  refine dx_u 26 (by kernel_rfl) rfl rfl rfl (fun w => y_assign rfl) ?_
                  refine dx_end (by kernel_rfl) ?_
                  refine K3 (K6 ?_)
                  exact fin1 rfl rfl ⟨_, ⟨by rw [e0]; clear e1 e2 en e0; first | (exfalso; omega) | (simp [bord2, btnL, *]; done) | (simp [bord2, btnL, namB, *]; done), rfl⟩, hO.only [.b r, .p p, .b t]⟩
            · have h10_7 := of_decide_eq_false hg60
              refine dx_pass 9 (by kernel_rfl) rfl rfl rfl ?_
              refine dx_pass 10 (by kernel_rfl) rfl rfl rfl ?_
              refine dx_pass 11 (by kernel_rfl) rfl rfl rfl ?_
              refine dx_close 12 (by kernel_rfl) rfl rfl ?_
              refine M2 ?_
              refine o_done ?_
              refine da_phase _ [23] (SO.ks [.b b7] hO) ?_
              refine dx_u 13 (by kernel_rfl) rfl rfl rfl (fun w => y_pick_f rfl rfl) ?_
              refine dx_u 14 (by kernel_rfl) rfl rfl rfl (fun w => y_pick_f rfl rfl) ?_
              refine dx_u 15 (by kernel_rfl) rfl rfl rfl (fun w => y_move rfl) ?_
              refine dx_u 16 (by kernel_rfl) rfl rfl rfl (fun w => y_fldb (o' := 1) rfl) ?_
              refine dx_y 17 (by kernel_rfl) rfl rfl rfl (fun w ⟨m, hw⟩ => D5 hw rfl) ?_
              refine dx_u 18 (by kernel_rfl) rfl rfl rfl (fun w => y_cmpI rfl rfl rfl) ?_
              refine dx_u 19 (by kernel_rfl) rfl rfl rfl (fun w => y_move rfl) ?_
              refine dx_split 71 rfl (fun hg71 => ?_) (fun hg71 => ?_)
              · have h10_18 := of_decide_eq_true hg71
                refine dx_u 21 (by kernel_rfl) rfl rfl rfl (fun w => y_fldb (o' := 2) rfl) ?_
                refine dx_y 22 (by kernel_rfl) rfl rfl rfl (fun w ⟨m, hw⟩ => D5 hw rfl) ?_
                refine dx_only 20 (by kernel_rfl) rfl rfl ?_
                refine CK [] hO rfl (fun k' hx hr hO' => tdrawn_spec (hO := hO')) ?_
                rintro _ _ w ⟨b72, rfl, rfl⟩ hO
                simp only [List.cons_append, List.nil_append] at hO
                refine o_done ?_
                refine ⟨SO.ks [.b b7] hO, ?_⟩
                refine dx_close 23 (by kernel_rfl) rfl rfl ?_
                refine CK [] hO rfl (fun k' hx hr hO' => tIn_spec (ts := drawL) (sls_roK (p := (some ⟨b72, 0, none⟩)) hr (sls_fct (p := (some ⟨b72, 0, none⟩)) hO)) (by decide) (hO := hO')) ?_
                rintro _ _ w ⟨rfl, rfl⟩ hO
                simp only [List.cons_append, List.nil_append] at hO
                refine o_done ?_
                refine da_phase _ [] (SO.ks [] hO) ?_
                refine dx_u 24 (by kernel_rfl) rfl rfl rfl (fun w => y_pick_t rfl rfl) ?_
                refine dx_u 25 (by kernel_rfl) rfl rfl rfl (fun w => y_pick_f rfl rfl) ?_
                refine dx_u 26 (by kernel_rfl) rfl rfl rfl (fun w => y_assign rfl) ?_
                refine dx_end (by kernel_rfl) ?_
                refine K3 (K6 ?_)
                exact fin1 rfl rfl ⟨_, ⟨by rw [e0]; clear e1 e2 en e0; first | (exfalso; omega) | (simp [bord2, btnL, *]; done) | (simp [bord2, btnL, namB, *]; done), rfl⟩, hO.only [.b r, .p p, .b t]⟩
              · have h10_18 := of_decide_eq_false hg71
                refine dx_pass 20 (by kernel_rfl) rfl rfl rfl ?_
                refine dx_pass 21 (by kernel_rfl) rfl rfl rfl ?_
                refine dx_pass 22 (by kernel_rfl) rfl rfl rfl ?_
                refine dx_close 23 (by kernel_rfl) rfl rfl ?_
                refine M2 ?_
                refine o_done ?_
                refine da_phase _ [] (SO.ks [] hO) ?_
                refine dx_u 24 (by kernel_rfl) rfl rfl rfl (fun w => y_pick_f rfl rfl) ?_
                refine dx_u 25 (by kernel_rfl) rfl rfl rfl (fun w => y_pick_f rfl rfl) ?_
                refine dx_u 26 (by kernel_rfl) rfl rfl rfl (fun w => y_assign rfl) ?_
                refine dx_end (by kernel_rfl) ?_
                refine K3 (K6 ?_)
                exact fin1 rfl rfl ⟨_, ⟨by rw [e0]; clear e1 e2 en e0; first | (exfalso; omega) | (simp [bord2, btnL, *]; done) | (simp [bord2, btnL, namB, *]; done), rfl⟩, hO.only [.b r, .p p, .b t]⟩
end
end Go.Proofs.Ytbhicbpfdbnpfaa
