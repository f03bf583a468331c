/- What the row of this folder leans on, part 3: the walks of the functions and the laws of what they compute; no condition. -/
import Derived.Test.YtoohapbaelmkcaaGreatRns2
set_option linter.unusedVariables false
set_option linter.unusedSimpArgs false
section
set_option maxRecDepth 100000
namespace Go.Proofs.YtoohapbaelmkcaaGreat
open Go Go.Hb Go.RowKit
/-- the namespaces of all nodes -/
def SpOk (A : List Node_one) : Prop := ∀ i, i < A.length → 0 ≤ (at_ A i).Node.Space ∧ (at_ A i).Node.Space ≤ 2
def bord2 (kind sp : Int) (nm : ByteArray) : Bool := if kind = 3 then namB sp nm tblL else if kind = 4 then !namB sp nm optL else (decide (kind = 1) && namB sp nm listL || decide (kind = 2) && namB sp nm btnL) || (namB sp nm bordL || decide (sp = 1) && inB nm mathL || decide (sp = 2) && inB nm drawL)
theorem bord_eq {kind sp : Int} {nm : ByteArray} (h : 0 ≤ sp ∧ sp ≤ 2) : borderB kind sp nm = bord2 kind sp nm := by
 unfold borderB bord2
 have hs : sp = 0 ∨ sp = 1 ∨ sp = 2 := by omega
 by_cases h3 : kind = 3
 ·simp [h3]
 by_cases h4 : kind = 4
 ·simp [h4]
 rw [if_neg h3, if_neg h4, if_neg h3, if_neg h4]
 rcases hs with rfl | rfl | rfl
 ·simp [namB]
  by_cases h1 : kind = 1
  ·by_cases h5 : inB nm listL = true <;> simp [h1, h5]
  ·by_cases h2 : kind = 2
   ·by_cases h5 : inB nm btnL = true <;> simp [h2, h5]
   ·simp [h1, h2]
 ·simp [namB]
 ·simp [namB]
section
variable {k : Ctx} {w : World} {r t c : Nat} {p : Option Addr} {A : List Node_one} {K : Int → List Int} {R : List Ref01_one} {l : List Int} {id kind : Int} {name : ByteArray}
set_option maxHeartbeats 4000000 in
theorem tborder_spec {q : Option Addr} {n d : Nat} (s : Sim A K R) (hsp : SpOk A) (hel : elB A id = true) (hg : Gs p R.length) (hO : Own k w [rB r p R.length c, rS p c R, tB t r q n d]) :
    Tri Tryz.prog 110 #[.pointer (some ⟨t, 0, none⟩), .int .i64 id, .int .i64 kind] k w fun v m => v = .bool (bdA A kind id) ∧ m = [rB r p R.length c, rS p c R, tB t r q n d] := by
  refine enter (args := [.pointer (some ⟨t, 0, none⟩), .int .i64 id, .int .i64 kind]) Tryz.func110 rfl rfl ?_
  have hb := elB_has hel
  have hidA := hasB_true hb
  have hid := hasR_true (R := R) (id := id) (by rw [s.has]; exact hb)
  have e1 := (s.atB hb).space
  have e2 := (s.atB hb).name
  have e0 : bdA A kind id = bord2 kind (at_ R id.toNat).Space (at_ R id.toNat).Name := by rw [bdA, bord_eq (hsp _ (by omega)), e1, e2]
  have en : ∀ ts, (elB A id && namA A ts id) = namB (at_ R id.toNat).Space (at_ R id.toNat).Name ts := fun ts => by rw [hel, Bool.true_and, namA, e1, e2]
  refine K0 (K1 (V2 rfl rfl rfl (K2 (K3 (K0 (K1 (V1 rfl rfl rfl (V3 rfl rfl rfl rfl (l_y rfl rfl (y_fldb (o' := 0) rfl) (l_y rfl rfl (D5 hO rfl) ?_))))))))))
  refine V3 rfl rfl rfl rfl (l_y rfl rfl (y_fldb (o' := 0) rfl) (l_y rfl rfl (D5 hO rfl) ?_))
  refine V1 rfl rfl rfl (l_y rfl rfl (y_idx rfl rfl) ?_)
  refine l_y rfl rfl (y_eA (x0 := 0) (cs := [.int .i64 (at_ R (id : Int).toNat).Kind, .int .i64 (at_ R (id : Int).toNat).Space, .string (at_ R (id : Int).toNat).Name, .slice (at_ R (id : Int).toNat).AttrsP (at_ R (id : Int).toNat).Attrs.length (at_ R (id : Int).toNat).AttrsC, .string (at_ R (id : Int).toNat).Data, .string (at_ R (id : Int).toNat).System, .int .i64 (at_ R (id : Int).toNat).Inner, .int .i64 (at_ R (id : Int).toNat).Host, .int .i64 (at_ R (id : Int).toNat).Up, .slice (at_ R (id : Int).toNat).KidsP (at_ R (id : Int).toNat).Kids.length (at_ R (id : Int).toNat).KidsC]) hO rfl) ?_
  refine s_alloc (vs := [.int .i64 0, .int .i64 0, .string ⟨#[]⟩, .slice none 0 0, .string ⟨#[]⟩, .string ⟨#[]⟩, .int .i64 0, .int .i64 0, .int .i64 0, .slice none 0 0]) hO rfl rfl rfl fun b7 w hO => ?_
  refine Y3 hO rfl rfl (fun w hO => ?_)
  refine K2 (K3 (K0 (K1 (s_lit (parts := [(0, .const (.string ⟨#[104, 116, 109, 108]⟩)), (1, .const (.string ⟨#[116, 97, 98, 108, 101]⟩)), (2, .const (.string ⟨#[116, 101, 109, 112, 108, 97, 116, 101]⟩))]) (enc := eS) [⟨#[104, 116, 109, 108]⟩, ⟨#[116, 97, 98, 108, 101]⟩, ⟨#[116, 101, 109, 112, 108, 97, 116, 101]⟩] [.string ⟨#[104, 116, 109, 108]⟩, .string ⟨#[116, 97, 98, 108, 101]⟩, .string ⟨#[116, 101, 109, 112, 108, 97, 116, 101]⟩] hO rfl (fun b20 w hO => ?_)))))
  refine V2 rfl rfl rfl (K2 (K3 (K0 (K1 (s_lit (parts := [(0, .const (.string ⟨#[97, 112, 112, 108, 101, 116]⟩)), (1, .const (.string ⟨#[99, 97, 112, 116, 105, 111, 110]⟩)), (2, .const (.string ⟨#[104, 116, 109, 108]⟩)), (3, .const (.string ⟨#[116, 97, 98, 108, 101]⟩)), (4, .const (.string ⟨#[116, 100]⟩)), (5, .const (.string ⟨#[116, 104]⟩)), (6, .const (.string ⟨#[109, 97, 114, 113, 117, 101, 101]⟩)), (7, .const (.string ⟨#[111, 98, 106, 101, 99, 116]⟩)), (8, .const (.string ⟨#[116, 101, 109, 112, 108, 97, 116, 101]⟩))]) (enc := eS) [⟨#[97, 112, 112, 108, 101, 116]⟩, ⟨#[99, 97, 112, 116, 105, 111, 110]⟩, ⟨#[104, 116, 109, 108]⟩, ⟨#[116, 97, 98, 108, 101]⟩, ⟨#[116, 100]⟩, ⟨#[116, 104]⟩, ⟨#[109, 97, 114, 113, 117, 101, 101]⟩, ⟨#[111, 98, 106, 101, 99, 116]⟩, ⟨#[116, 101, 109, 112, 108, 97, 116, 101]⟩] [.string ⟨#[97, 112, 112, 108, 101, 116]⟩, .string ⟨#[99, 97, 112, 116, 105, 111, 110]⟩, .string ⟨#[104, 116, 109, 108]⟩, .string ⟨#[116, 97, 98, 108, 101]⟩, .string ⟨#[116, 100]⟩, .string ⟨#[116, 104]⟩, .string ⟨#[109, 97, 114, 113, 117, 101, 101]⟩, .string ⟨#[111, 98, 106, 101, 99, 116]⟩, .string ⟨#[116, 101, 109, 112, 108, 97, 116, 101]⟩] hO rfl (fun b21 w hO => ?_))))))
  refine V2 rfl rfl rfl (K2 (K3 (K0 (K0 (K1 (V1 rfl rfl rfl ?_))))))
  refine Z0 (fun h4_1 => ?_) (fun h4_1 => ?_)
  · refine K2 (K3 (L8 (K0 (K1 (V1 rfl rfl rfl (V1 rfl rfl rfl (V1 rfl rfl rfl (CK [.b r, .p p, .b t] hO rfl (fun k' hx hr hO' => tOf_spec (ts := tblL) (sls_roK (p := (some ⟨b20, 0, none⟩)) hr (sls_fct (p := (some ⟨b20, 0, none⟩)) hO)) (by decide) s hg (hO := hO')) ?_))))))))
    rintro _ _ w ⟨rfl, rfl⟩ hO
    simp only [List.cons_append, List.nil_append] at hO
    rw [en]
    refine V2 rfl rfl rfl (K2 (K3 (K6 (K9 ?_))))
    exact fin1 rfl rfl ⟨_, ⟨by rw [e0]; clear e1 e2 en e0; first | (exfalso; omega) | (simp [bord2, btnL, *]; done) | (simp [bord2, btnL, namB, *]; done), rfl⟩, hO.only [.b r, .p p, .b t]⟩
  · refine K2 (K3 (L9 (K5 (K3 (K0 (K0 (K1 (V1 rfl rfl rfl ?_))))))))
    refine Z0 (fun h6_1 => ?_) (fun h6_1 => ?_)
    · refine K2 (K3 (L8 (K0 (K1 (V1 rfl rfl rfl (V1 rfl rfl rfl (s_lit (parts := [(0, .const (.string ⟨#[111, 112, 116, 103, 114, 111, 117, 112]⟩)), (1, .const (.string ⟨#[111, 112, 116, 105, 111, 110]⟩))]) (enc := eS) [⟨#[111, 112, 116, 103, 114, 111, 117, 112]⟩, ⟨#[111, 112, 116, 105, 111, 110]⟩] [.string ⟨#[111, 112, 116, 103, 114, 111, 117, 112]⟩, .string ⟨#[111, 112, 116, 105, 111, 110]⟩] hO rfl (fun b32 w hO => ?_))))))))
      refine CK [.b r, .p p, .b t] hO rfl (fun k' hx hr hO' => tOf_spec (ts := optL) (sls_roK (p := (some ⟨b32, 0, none⟩)) hr (sls_fct (p := (some ⟨b32, 0, none⟩)) hO)) (by decide) s hg (hO := hO')) ?_
      rintro _ _ w ⟨rfl, rfl⟩ hO
      simp only [List.cons_append, List.nil_append] at hO
      rw [en]
      refine l_y rfl rfl (y_not rfl rfl) (V2 rfl rfl rfl (K2 (K3 (K6 (K9 ?_)))))
      exact fin1 rfl rfl ⟨_, ⟨by rw [e0]; clear e1 e2 en e0; first | (exfalso; omega) | (simp [bord2, btnL, *]; done) | (simp [bord2, btnL, namB, *]; done), rfl⟩, hO.only [.b r, .p p, .b t]⟩
    · refine K2 (K3 (L9 (K5 (K3 (K0 (K0 (K1 (V1 rfl rfl rfl ?_))))))))
      refine Z0 (fun h8_1 => ?_) (fun h8_1 => ?_)
      · refine V1 rfl rfl rfl (V1 rfl rfl rfl (V1 rfl rfl rfl (s_lit (parts := [(0, .const (.string ⟨#[111, 108]⟩)), (1, .const (.string ⟨#[117, 108]⟩))]) (enc := eS) [⟨#[111, 108]⟩, ⟨#[117, 108]⟩] [.string ⟨#[111, 108]⟩, .string ⟨#[117, 108]⟩] hO rfl (fun b40 w hO => ?_))))
        refine CK [.b r, .p p, .b t] hO rfl (fun k' hx hr hO' => tOf_spec (ts := listL) (sls_roK (p := (some ⟨b40, 0, none⟩)) hr (sls_fct (p := (some ⟨b40, 0, none⟩)) hO)) (by decide) s hg (hO := hO')) ?_
        rintro _ _ w ⟨rfl, rfl⟩ hO
        simp only [List.cons_append, List.nil_append] at hO
        rw [en]
        refine l_y rfl rfl (y_pick_t rfl rfl) (V1 rfl rfl rfl ?_)
        refine l_split 43 rfl (fun hg43 => ?_) (fun hg43 => ?_)
        · repeat refine M2 ?_
          refine l_y rfl rfl (y_pick_t rfl rfl) (K2 (K3 (L8 (K0 (K1 (V2 rfl rfl rfl (K2 (K3 (K6 (K9 ?_))))))))))
          exact fin1 rfl rfl ⟨_, ⟨by rw [e0]; clear e1 e2 en e0; first | (exfalso; omega) | (simp [bord2, btnL, *]; done) | (simp [bord2, btnL, namB, *]; done), rfl⟩, hO.only [.b r, .p p, .b t]⟩
        · refine V1 rfl rfl rfl ?_
          refine Z0 (fun h8_10 => ?_) (fun h8_10 => ?_)
          · refine V1 rfl rfl rfl (V1 rfl rfl rfl (V1 rfl rfl rfl (CK [.b r, .p p, .b t] hO rfl (fun k' hx hr hO' => tNamed_spec s hg (hO := hO')) ?_)))
            rintro _ _ w ⟨rfl, rfl⟩ hO
            simp only [List.cons_append, List.nil_append] at hO
            rw [en]
            refine l_y rfl rfl (y_pick_t rfl rfl) (l_y rfl rfl (y_pick_f rfl rfl) (K2 (K3 ?_)))
            refine c_split rfl (fun hc51 => ?_) (fun hc51 => ?_)
            · refine K0 (K1 (V2 rfl rfl rfl (K2 (K3 (K6 (K9 ?_))))))
              exact fin1 rfl rfl ⟨_, ⟨by rw [e0]; clear e1 e2 en e0; first | (exfalso; omega) | (simp [bord2, btnL, *]; done) | (simp [bord2, btnL, namB, *]; done), rfl⟩, hO.only [.b r, .p p, .b t]⟩
            · refine K5 (K3 (K0 (da_region (by intro c a d v w h; cases d <;> exact h) ?_)))
              have hO := hO.drew
              refine da_phase _ [3] (SO.ks [] hO) ?_
              refine dx_u 0 (by kernel_rfl) rfl rfl rfl (fun w => y_move rfl) ?_
              refine dx_u 1 (by kernel_rfl) rfl rfl rfl (fun w => y_move rfl) ?_
              refine dx_u 2 (by kernel_rfl) rfl rfl rfl (fun w => y_move rfl) ?_
              refine dx_close 3 (by kernel_rfl) rfl rfl ?_
              refine CK [.b r, .p p, .b t] hO rfl (fun k' hx hr hO' => tOf_spec (ts := bordL) (sls_roK (p := (some ⟨b21, 0, none⟩)) hr (sls_fct (p := (some ⟨b21, 0, none⟩)) hO)) (by decide) s hg (hO := hO')) ?_
              rintro _ _ w ⟨rfl, rfl⟩ hO
              simp only [List.cons_append, List.nil_append] at hO
              rw [en]
              refine o_done (da_phase _ [12] (SO.ks [.b b7] hO) ?_)
              refine dx_u 4 (by kernel_rfl) rfl rfl rfl (fun w => y_move rfl) ?_
              refine dx_split 56 rfl (fun hg56 => ?_) (fun hg56 => ?_)
              · refine dx_pass 5 (by kernel_rfl) rfl rfl rfl ?_
                refine dx_pass 6 (by kernel_rfl) rfl rfl rfl ?_
                refine dx_pass 7 (by kernel_rfl) rfl rfl rfl ?_
                refine dx_pass 8 (by kernel_rfl) rfl rfl rfl ?_
                refine dx_pass 9 (by kernel_rfl) rfl rfl rfl ?_
                refine dx_pass 10 (by kernel_rfl) rfl rfl rfl ?_
                refine dx_pass 11 (by kernel_rfl) rfl rfl rfl ?_
                refine dx_close 12 (by kernel_rfl) rfl rfl ?_
                refine M2 (o_done (da_phase _ [23] (SO.ks [] hO) ?_))
                refine dx_pass 13 (by kernel_rfl) rfl rfl rfl ?_
                refine dx_u 14 (by kernel_rfl) rfl rfl rfl (fun w => y_pick_t rfl rfl) ?_
                refine dx_u 15 (by kernel_rfl) rfl rfl rfl (fun w => y_move rfl) ?_
                refine dx_pass 16 (by kernel_rfl) rfl rfl rfl ?_
                refine dx_pass 17 (by kernel_rfl) rfl rfl rfl ?_
                refine dx_pass 18 (by kernel_rfl) rfl rfl rfl ?_
                refine dx_pass 19 (by kernel_rfl) rfl rfl rfl ?_
                refine dx_pass 20 (by kernel_rfl) rfl rfl rfl ?_
                refine dx_pass 21 (by kernel_rfl) rfl rfl rfl ?_
                refine dx_pass 22 (by kernel_rfl) rfl rfl rfl ?_
                refine dx_close 23 (by kernel_rfl) rfl rfl ?_
                refine M2 (o_done (da_phase _ [] (SO.ks [] hO) ?_))
                refine dx_pass 24 (by kernel_rfl) rfl rfl rfl ?_
                refine dx_u 25 (by kernel_rfl) rfl rfl rfl (fun w => y_pick_t rfl rfl) ?_
                refine dx_u 26 (by kernel_rfl) rfl rfl rfl (fun w => y_assign rfl) ?_
                refine dx_end (by kernel_rfl) ?_
                refine K3 (K6 ?_)
                exact fin1 rfl rfl ⟨_, ⟨by rw [e0]; clear e1 e2 en e0; first | (exfalso; omega) | (simp [bord2, btnL, *]; done) | (simp [bord2, btnL, namB, *]; done), rfl⟩, hO.only [.b r, .p p, .b t]⟩
              · refine dx_u 5 (by kernel_rfl) rfl rfl rfl (fun w => y_fldb (o' := 1) rfl) ?_
                refine dx_y 6 (by kernel_rfl) rfl rfl rfl (fun w ⟨m, hw⟩ => D5 hw rfl) ?_
                refine dx_u 7 (by kernel_rfl) rfl rfl rfl (fun w => y_cmpI rfl rfl rfl) ?_
                refine dx_u 8 (by kernel_rfl) rfl rfl rfl (fun w => y_move rfl) ?_
                refine dx_split 60 rfl (fun hg60 => ?_) (fun hg60 => ?_)
                · have h10_7 := of_decide_eq_true hg60
                  refine dx_u 10 (by kernel_rfl) rfl rfl rfl (fun w => y_fldb (o' := 2) rfl) ?_
                  refine dx_y 11 (by kernel_rfl) rfl rfl rfl (fun w ⟨m, hw⟩ => D5 hw rfl) ?_
                  refine dx_only 9 (by kernel_rfl) rfl rfl ?_
                  refine CK [] hO rfl (fun k' hx hr hO' => tmath_spec (hO := hO')) ?_
                  rintro _ _ w ⟨b61, rfl, rfl⟩ hO
                  simp only [List.cons_append, List.nil_append] at hO
                  refine o_done (⟨SO.ks [.b b7] hO, ?_⟩)
                  refine dx_close 12 (by kernel_rfl) rfl rfl ?_
                  refine CK [] hO rfl (fun k' hx hr hO' => tIn_spec (ts := mathL) (sls_roK (p := (some ⟨b61, 0, none⟩)) hr (sls_fct (p := (some ⟨b61, 0, none⟩)) hO)) (by decide) (hO := hO')) ?_
                  rintro _ _ w ⟨rfl, rfl⟩ hO
                  simp only [List.cons_append, List.nil_append] at hO
                  refine o_done (da_phase _ [23] (SO.ks [.b b7] hO) ?_)
                  refine dx_u 13 (by kernel_rfl) rfl rfl rfl (fun w => y_pick_t rfl rfl) ?_
                  refine dx_u 14 (by kernel_rfl) rfl rfl rfl (fun w => y_pick_f rfl rfl) ?_
                  refine dx_u 15 (by kernel_rfl) rfl rfl rfl (fun w => y_move rfl) ?_
                  refine dx_split 67 rfl (fun hg67 => ?_) (fun hg67 => ?_)
                  · refine dx_pass 16 (by kernel_rfl) rfl rfl rfl ?_
                    refine dx_pass 17 (by kernel_rfl) rfl rfl rfl ?_
                    refine dx_pass 18 (by kernel_rfl) rfl rfl rfl ?_
                    refine dx_pass 19 (by kernel_rfl) rfl rfl rfl ?_
                    refine dx_pass 20 (by kernel_rfl) rfl rfl rfl ?_
                    refine dx_pass 21 (by kernel_rfl) rfl rfl rfl ?_
                    refine dx_pass 22 (by kernel_rfl) rfl rfl rfl ?_
                    refine dx_close 23 (by kernel_rfl) rfl rfl ?_
                    refine M2 (o_done (da_phase _ [] (SO.ks [] hO) ?_))
                    refine dx_pass 24 (by kernel_rfl) rfl rfl rfl ?_
                    refine dx_u 25 (by kernel_rfl) rfl rfl rfl (fun w => y_pick_t rfl rfl) ?_
                    refine dx_u 26 (by kernel_rfl) rfl rfl rfl (fun w => y_assign rfl) ?_
                    refine dx_end (by kernel_rfl) ?_
                    refine K3 (K6 ?_)
                    exact fin1 rfl rfl ⟨_, ⟨by rw [e0]; clear e1 e2 en e0; first | (exfalso; omega) | (simp [bord2, btnL, *]; done) | (simp [bord2, btnL, namB, *]; done), rfl⟩, hO.only [.b r, .p p, .b t]⟩
                  · refine dx_u 16 (by kernel_rfl) rfl rfl rfl (fun w => y_fldb (o' := 1) rfl) ?_
                    refine dx_y 17 (by kernel_rfl) rfl rfl rfl (fun w ⟨m, hw⟩ => D5 hw rfl) ?_
                    refine dx_u 18 (by kernel_rfl) rfl rfl rfl (fun w => y_cmpI rfl rfl rfl) ?_
                    refine dx_u 19 (by kernel_rfl) rfl rfl rfl (fun w => y_move rfl) ?_
                    refine dx_split 71 rfl (fun hg71 => ?_) (fun hg71 => ?_)
                    · have h10_18 := of_decide_eq_true hg71
                      refine dx_u 21 (by kernel_rfl) rfl rfl rfl (fun w => y_fldb (o' := 2) rfl) ?_
                      refine dx_y 22 (by kernel_rfl) rfl rfl rfl (fun w ⟨m, hw⟩ => D5 hw rfl) ?_
                      refine dx_only 20 (by kernel_rfl) rfl rfl ?_
                      refine CK [] hO rfl (fun k' hx hr hO' => tdrawn_spec (hO := hO')) ?_
                      rintro _ _ w ⟨b72, rfl, rfl⟩ hO
                      simp only [List.cons_append, List.nil_append] at hO
                      refine o_done (⟨SO.ks [.b b7] hO, ?_⟩)
                      refine dx_close 23 (by kernel_rfl) rfl rfl ?_
                      refine CK [] hO rfl (fun k' hx hr hO' => tIn_spec (ts := drawL) (sls_roK (p := (some ⟨b72, 0, none⟩)) hr (sls_fct (p := (some ⟨b72, 0, none⟩)) hO)) (by decide) (hO := hO')) ?_
                      rintro _ _ w ⟨rfl, rfl⟩ hO
                      simp only [List.cons_append, List.nil_append] at hO
                      refine o_done (da_phase _ [] (SO.ks [] hO) ?_)
                      refine dx_u 24 (by kernel_rfl) rfl rfl rfl (fun w => y_pick_t rfl rfl) ?_
                      refine dx_u 25 (by kernel_rfl) rfl rfl rfl (fun w => y_pick_f rfl rfl) ?_
                      refine dx_u 26 (by kernel_rfl) rfl rfl rfl (fun w => y_assign rfl) ?_
                      refine dx_end (by kernel_rfl) ?_
                      refine K3 (K6 ?_)
                      exact fin1 rfl rfl ⟨_, ⟨by rw [e0]; clear e1 e2 en e0; first | (exfalso; omega) | (simp [bord2, btnL, *]; done) | (simp [bord2, btnL, namB, *]; done), rfl⟩, hO.only [.b r, .p p, .b t]⟩
                    · have h10_18 := of_decide_eq_false hg71
                      refine dx_pass 20 (by kernel_rfl) rfl rfl rfl ?_
                      refine dx_pass 21 (by kernel_rfl) rfl rfl rfl ?_
                      refine dx_pass 22 (by kernel_rfl) rfl rfl rfl ?_
                      refine dx_close 23 (by kernel_rfl) rfl rfl ?_
                      refine M2 (o_done (da_phase _ [] (SO.ks [] hO) ?_))
                      refine dx_u 24 (by kernel_rfl) rfl rfl rfl (fun w => y_pick_f rfl rfl) ?_
                      refine dx_u 25 (by kernel_rfl) rfl rfl rfl (fun w => y_pick_f rfl rfl) ?_
                      refine dx_u 26 (by kernel_rfl) rfl rfl rfl (fun w => y_assign rfl) ?_
                      refine dx_end (by kernel_rfl) ?_
                      refine K3 (K6 ?_)
                      exact fin1 rfl rfl ⟨_, ⟨by rw [e0]; clear e1 e2 en e0; first | (exfalso; omega) | (simp [bord2, btnL, *]; done) | (simp [bord2, btnL, namB, *]; done), rfl⟩, hO.only [.b r, .p p, .b t]⟩
                · have h10_7 := of_decide_eq_false hg60
                  refine dx_pass 9 (by kernel_rfl) rfl rfl rfl ?_
                  refine dx_pass 10 (by kernel_rfl) rfl rfl rfl ?_
                  refine dx_pass 11 (by kernel_rfl) rfl rfl rfl ?_
                  refine dx_close 12 (by kernel_rfl) rfl rfl ?_
                  refine M2 (o_done (da_phase _ [23] (SO.ks [.b b7] hO) ?_))
                  refine dx_u 13 (by kernel_rfl) rfl rfl rfl (fun w => y_pick_f rfl rfl) ?_
                  refine dx_u 14 (by kernel_rfl) rfl rfl rfl (fun w => y_pick_f rfl rfl) ?_
                  refine dx_u 15 (by kernel_rfl) rfl rfl rfl (fun w => y_move rfl) ?_
                  refine dx_u 16 (by kernel_rfl) rfl rfl rfl (fun w => y_fldb (o' := 1) rfl) ?_
                  refine dx_y 17 (by kernel_rfl) rfl rfl rfl (fun w ⟨m, hw⟩ => D5 hw rfl) ?_
                  refine dx_u 18 (by kernel_rfl) rfl rfl rfl (fun w => y_cmpI rfl rfl rfl) ?_
                  refine dx_u 19 (by kernel_rfl) rfl rfl rfl (fun w => y_move rfl) ?_
                  refine dx_split 71 rfl (fun hg71 => ?_) (fun hg71 => ?_)
                  · have h10_18 := of_decide_eq_true hg71
                    refine dx_u 21 (by kernel_rfl) rfl rfl rfl (fun w => y_fldb (o' := 2) rfl) ?_
                    refine dx_y 22 (by kernel_rfl) rfl rfl rfl (fun w ⟨m, hw⟩ => D5 hw rfl) ?_
                    refine dx_only 20 (by kernel_rfl) rfl rfl ?_
                    refine CK [] hO rfl (fun k' hx hr hO' => tdrawn_spec (hO := hO')) ?_
                    rintro _ _ w ⟨b72, rfl, rfl⟩ hO
                    simp only [List.cons_append, List.nil_append] at hO
                    refine o_done (⟨SO.ks [.b b7] hO, ?_⟩)
                    refine dx_close 23 (by kernel_rfl) rfl rfl ?_
                    refine CK [] hO rfl (fun k' hx hr hO' => tIn_spec (ts := drawL) (sls_roK (p := (some ⟨b72, 0, none⟩)) hr (sls_fct (p := (some ⟨b72, 0, none⟩)) hO)) (by decide) (hO := hO')) ?_
                    rintro _ _ w ⟨rfl, rfl⟩ hO
                    simp only [List.cons_append, List.nil_append] at hO
                    refine o_done (da_phase _ [] (SO.ks [] hO) ?_)
                    refine dx_u 24 (by kernel_rfl) rfl rfl rfl (fun w => y_pick_t rfl rfl) ?_
                    refine dx_u 25 (by kernel_rfl) rfl rfl rfl (fun w => y_pick_f rfl rfl) ?_
                    refine dx_u 26 (by kernel_rfl) rfl rfl rfl (fun w => y_assign rfl) ?_
                    refine dx_end (by kernel_rfl) ?_
                    refine K3 (K6 ?_)
                    exact fin1 rfl rfl ⟨_, ⟨by rw [e0]; clear e1 e2 en e0; first | (exfalso; omega) | (simp [bord2, btnL, *]; done) | (simp [bord2, btnL, namB, *]; done), rfl⟩, hO.only [.b r, .p p, .b t]⟩
                  · have h10_18 := of_decide_eq_false hg71
                    refine dx_pass 20 (by kernel_rfl) rfl rfl rfl ?_
                    refine dx_pass 21 (by kernel_rfl) rfl rfl rfl ?_
                    refine dx_pass 22 (by kernel_rfl) rfl rfl rfl ?_
                    refine dx_close 23 (by kernel_rfl) rfl rfl ?_
                    refine M2 (o_done (da_phase _ [] (SO.ks [] hO) ?_))
                    refine dx_u 24 (by kernel_rfl) rfl rfl rfl (fun w => y_pick_f rfl rfl) ?_
                    refine dx_u 25 (by kernel_rfl) rfl rfl rfl (fun w => y_pick_f rfl rfl) ?_
                    refine dx_u 26 (by kernel_rfl) rfl rfl rfl (fun w => y_assign rfl) ?_
                    refine dx_end (by kernel_rfl) ?_
                    refine K3 (K6 ?_)
                    exact fin1 rfl rfl ⟨_, ⟨by rw [e0]; clear e1 e2 en e0; first | (exfalso; omega) | (simp [bord2, btnL, *]; done) | (simp [bord2, btnL, namB, *]; done), rfl⟩, hO.only [.b r, .p p, .b t]⟩
          · refine V1 rfl rfl rfl ?_
            repeat refine M2 ?_
            refine l_y rfl rfl (y_pick_f rfl rfl) (l_y rfl rfl (y_pick_f rfl rfl) (K2 (K3 (L9 (K5 (K3 (K0 (da_region (by intro c a d v w h; cases d <;> exact h) ?_))))))))
            have hO := hO.drew
            refine da_phase _ [3] (SO.ks [] hO) ?_
            refine dx_u 0 (by kernel_rfl) rfl rfl rfl (fun w => y_move rfl) ?_
            refine dx_u 1 (by kernel_rfl) rfl rfl rfl (fun w => y_move rfl) ?_
            refine dx_u 2 (by kernel_rfl) rfl rfl rfl (fun w => y_move rfl) ?_
            refine dx_close 3 (by kernel_rfl) rfl rfl ?_
            refine CK [.b r, .p p, .b t] hO rfl (fun k' hx hr hO' => tOf_spec (ts := bordL) (sls_roK (p := (some ⟨b21, 0, none⟩)) hr (sls_fct (p := (some ⟨b21, 0, none⟩)) hO)) (by decide) s hg (hO := hO')) ?_
            rintro _ _ w ⟨rfl, rfl⟩ hO
            simp only [List.cons_append, List.nil_append] at hO
            rw [en]
            refine o_done (da_phase _ [12] (SO.ks [.b b7] hO) ?_)
            refine dx_u 4 (by kernel_rfl) rfl rfl rfl (fun w => y_move rfl) ?_
            refine dx_split 56 rfl (fun hg56 => ?_) (fun hg56 => ?_)
            · refine dx_pass 5 (by kernel_rfl) rfl rfl rfl ?_
              refine dx_pass 6 (by kernel_rfl) rfl rfl rfl ?_
              refine dx_pass 7 (by kernel_rfl) rfl rfl rfl ?_
              refine dx_pass 8 (by kernel_rfl) rfl rfl rfl ?_
              refine dx_pass 9 (by kernel_rfl) rfl rfl rfl ?_
              refine dx_pass 10 (by kernel_rfl) rfl rfl rfl ?_
              refine dx_pass 11 (by kernel_rfl) rfl rfl rfl ?_
              refine dx_close 12 (by kernel_rfl) rfl rfl ?_
              refine M2 (o_done (da_phase _ [23] (SO.ks [] hO) ?_))
              refine dx_pass 13 (by kernel_rfl) rfl rfl rfl ?_
              refine dx_u 14 (by kernel_rfl) rfl rfl rfl (fun w => y_pick_t rfl rfl) ?_
              refine dx_u 15 (by kernel_rfl) rfl rfl rfl (fun w => y_move rfl) ?_
              refine dx_pass 16 (by kernel_rfl) rfl rfl rfl ?_
              refine dx_pass 17 (by kernel_rfl) rfl rfl rfl ?_
              refine dx_pass 18 (by kernel_rfl) rfl rfl rfl ?_
              refine dx_pass 19 (by kernel_rfl) rfl rfl rfl ?_
              refine dx_pass 20 (by kernel_rfl) rfl rfl rfl ?_
              refine dx_pass 21 (by kernel_rfl) rfl rfl rfl ?_
              refine dx_pass 22 (by kernel_rfl) rfl rfl rfl ?_
              refine dx_close 23 (by kernel_rfl) rfl rfl ?_
              refine M2 (o_done (da_phase _ [] (SO.ks [] hO) ?_))
              refine dx_pass 24 (by kernel_rfl) rfl rfl rfl ?_
              refine dx_u 25 (by kernel_rfl) rfl rfl rfl (fun w => y_pick_t rfl rfl) ?_
              refine dx_u 26 (by kernel_rfl) rfl rfl rfl (fun w => y_assign rfl) ?_
              refine dx_end (by kernel_rfl) ?_
              refine K3 (K6 ?_)
              exact fin1 rfl rfl ⟨_, ⟨by rw [e0]; clear e1 e2 en e0; first | (exfalso; omega) | (simp [bord2, btnL, *]; done) | (simp [bord2, btnL, namB, *]; done), rfl⟩, hO.only [.b r, .p p, .b t]⟩
            · refine dx_u 5 (by kernel_rfl) rfl rfl rfl (fun w => y_fldb (o' := 1) rfl) ?_
              refine dx_y 6 (by kernel_rfl) rfl rfl rfl (fun w ⟨m, hw⟩ => D5 hw rfl) ?_
              refine dx_u 7 (by kernel_rfl) rfl rfl rfl (fun w => y_cmpI rfl rfl rfl) ?_
              refine dx_u 8 (by kernel_rfl) rfl rfl rfl (fun w => y_move rfl) ?_
              refine dx_split 60 rfl (fun hg60 => ?_) (fun hg60 => ?_)
              · have h10_7 := of_decide_eq_true hg60
                refine dx_u 10 (by kernel_rfl) rfl rfl rfl (fun w => y_fldb (o' := 2) rfl) ?_
                refine dx_y 11 (by kernel_rfl) rfl rfl rfl (fun w ⟨m, hw⟩ => D5 hw rfl) ?_
                refine dx_only 9 (by kernel_rfl) rfl rfl ?_
                refine CK [] hO rfl (fun k' hx hr hO' => tmath_spec (hO := hO')) ?_
                rintro _ _ w ⟨b61, rfl, rfl⟩ hO
                simp only [List.cons_append, List.nil_append] at hO
                refine o_done (⟨SO.ks [.b b7] hO, ?_⟩)
                refine dx_close 12 (by kernel_rfl) rfl rfl ?_
                refine CK [] hO rfl (fun k' hx hr hO' => tIn_spec (ts := mathL) (sls_roK (p := (some ⟨b61, 0, none⟩)) hr (sls_fct (p := (some ⟨b61, 0, none⟩)) hO)) (by decide) (hO := hO')) ?_
                rintro _ _ w ⟨rfl, rfl⟩ hO
                simp only [List.cons_append, List.nil_append] at hO
                refine o_done (da_phase _ [23] (SO.ks [.b b7] hO) ?_)
                refine dx_u 13 (by kernel_rfl) rfl rfl rfl (fun w => y_pick_t rfl rfl) ?_
                refine dx_u 14 (by kernel_rfl) rfl rfl rfl (fun w => y_pick_f rfl rfl) ?_
                refine dx_u 15 (by kernel_rfl) rfl rfl rfl (fun w => y_move rfl) ?_
                refine dx_split 67 rfl (fun hg67 => ?_) (fun hg67 => ?_)
                · refine dx_pass 16 (by kernel_rfl) rfl rfl rfl ?_
                  refine dx_pass 17 (by kernel_rfl) rfl rfl rfl ?_
                  refine dx_pass 18 (by kernel_rfl) rfl rfl rfl ?_
                  refine dx_pass 19 (by kernel_rfl) rfl rfl rfl ?_
                  refine dx_pass 20 (by kernel_rfl) rfl rfl rfl ?_
                  refine dx_pass 21 (by kernel_rfl) rfl rfl rfl ?_
                  refine dx_pass 22 (by kernel_rfl) rfl rfl rfl ?_
                  refine dx_close 23 (by kernel_rfl) rfl rfl ?_
                  refine M2 (o_done (da_phase _ [] (SO.ks [] hO) ?_))
                  refine dx_pass 24 (by kernel_rfl) rfl rfl rfl ?_
                  refine dx_u 25 (by kernel_rfl) rfl rfl rfl (fun w => y_pick_t rfl rfl) ?_
                  refine dx_u 26 (by kernel_rfl) rfl rfl rfl (fun w => y_assign rfl) ?_
                  refine dx_end (by kernel_rfl) ?_
                  refine K3 (K6 ?_)
                  exact fin1 rfl rfl ⟨_, ⟨by rw [e0]; clear e1 e2 en e0; first | (exfalso; omega) | (simp [bord2, btnL, *]; done) | (simp [bord2, btnL, namB, *]; done), rfl⟩, hO.only [.b r, .p p, .b t]⟩
                · refine dx_u 16 (by kernel_rfl) rfl rfl rfl (fun w => y_fldb (o' := 1) rfl) ?_
                  refine dx_y 17 (by kernel_rfl) rfl rfl rfl (fun w ⟨m, hw⟩ => D5 hw rfl) ?_
                  refine dx_u 18 (by kernel_rfl) rfl rfl rfl (fun w => y_cmpI rfl rfl rfl) ?_
                  refine dx_u 19 (by kernel_rfl) rfl rfl rfl (fun w => y_move rfl) ?_
                  refine dx_split 71 rfl (fun hg71 => ?_) (fun hg71 => ?_)
                  · have h10_18 := of_decide_eq_true hg71
                    refine dx_u 21 (by kernel_rfl) rfl rfl rfl (fun w => y_fldb (o' := 2) rfl) ?_
                    refine dx_y 22 (by kernel_rfl) rfl rfl rfl (fun w ⟨m, hw⟩ => D5 hw rfl) ?_
                    refine dx_only 20 (by kernel_rfl) rfl rfl ?_
                    refine CK [] hO rfl (fun k' hx hr hO' => tdrawn_spec (hO := hO')) ?_
                    rintro _ _ w ⟨b72, rfl, rfl⟩ hO
                    simp only [List.cons_append, List.nil_append] at hO
                    refine o_done (⟨SO.ks [.b b7] hO, ?_⟩)
                    refine dx_close 23 (by kernel_rfl) rfl rfl ?_
                    refine CK [] hO rfl (fun k' hx hr hO' => tIn_spec (ts := drawL) (sls_roK (p := (some ⟨b72, 0, none⟩)) hr (sls_fct (p := (some ⟨b72, 0, none⟩)) hO)) (by decide) (hO := hO')) ?_
                    rintro _ _ w ⟨rfl, rfl⟩ hO
                    simp only [List.cons_append, List.nil_append] at hO
                    refine o_done (da_phase _ [] (SO.ks [] hO) ?_)
                    refine dx_u 24 (by kernel_rfl) rfl rfl rfl (fun w => y_pick_t rfl rfl) ?_
                    refine dx_u 25 (by kernel_rfl) rfl rfl rfl (fun w => y_pick_f rfl rfl) ?_
                    refine dx_u 26 (by kernel_rfl) rfl rfl rfl (fun w => y_assign rfl) ?_
                    refine dx_end (by kernel_rfl) ?_
                    refine K3 (K6 ?_)
                    exact fin1 rfl rfl ⟨_, ⟨by rw [e0]; clear e1 e2 en e0; first | (exfalso; omega) | (simp [bord2, btnL, *]; done) | (simp [bord2, btnL, namB, *]; done), rfl⟩, hO.only [.b r, .p p, .b t]⟩
                  · have h10_18 := of_decide_eq_false hg71
                    refine dx_pass 20 (by kernel_rfl) rfl rfl rfl ?_
                    refine dx_pass 21 (by kernel_rfl) rfl rfl rfl ?_
                    refine dx_pass 22 (by kernel_rfl) rfl rfl rfl ?_
                    refine dx_close 23 (by kernel_rfl) rfl rfl ?_
                    refine M2 (o_done (da_phase _ [] (SO.ks [] hO) ?_))
                    refine dx_u 24 (by kernel_rfl) rfl rfl rfl (fun w => y_pick_f rfl rfl) ?_
                    refine dx_u 25 (by kernel_rfl) rfl rfl rfl (fun w => y_pick_f rfl rfl) ?_
                    refine dx_u 26 (by kernel_rfl) rfl rfl rfl (fun w => y_assign rfl) ?_
                    refine dx_end (by kernel_rfl) ?_
                    refine K3 (K6 ?_)
                    exact fin1 rfl rfl ⟨_, ⟨by rw [e0]; clear e1 e2 en e0; first | (exfalso; omega) | (simp [bord2, btnL, *]; done) | (simp [bord2, btnL, namB, *]; done), rfl⟩, hO.only [.b r, .p p, .b t]⟩
              · have h10_7 := of_decide_eq_false hg60
                refine dx_pass 9 (by kernel_rfl) rfl rfl rfl ?_
                refine dx_pass 10 (by kernel_rfl) rfl rfl rfl ?_
                refine dx_pass 11 (by kernel_rfl) rfl rfl rfl ?_
                refine dx_close 12 (by kernel_rfl) rfl rfl ?_
                refine M2 (o_done (da_phase _ [23] (SO.ks [.b b7] hO) ?_))
                refine dx_u 13 (by kernel_rfl) rfl rfl rfl (fun w => y_pick_f rfl rfl) ?_
                refine dx_u 14 (by kernel_rfl) rfl rfl rfl (fun w => y_pick_f rfl rfl) ?_
                refine dx_u 15 (by kernel_rfl) rfl rfl rfl (fun w => y_move rfl) ?_
                refine dx_u 16 (by kernel_rfl) rfl rfl rfl (fun w => y_fldb (o' := 1) rfl) ?_
                refine dx_y 17 (by kernel_rfl) rfl rfl rfl (fun w ⟨m, hw⟩ => D5 hw rfl) ?_
                refine dx_u 18 (by kernel_rfl) rfl rfl rfl (fun w => y_cmpI rfl rfl rfl) ?_
                refine dx_u 19 (by kernel_rfl) rfl rfl rfl (fun w => y_move rfl) ?_
                refine dx_split 71 rfl (fun hg71 => ?_) (fun hg71 => ?_)
                · have h10_18 := of_decide_eq_true hg71
                  refine dx_u 21 (by kernel_rfl) rfl rfl rfl (fun w => y_fldb (o' := 2) rfl) ?_
                  refine dx_y 22 (by kernel_rfl) rfl rfl rfl (fun w ⟨m, hw⟩ => D5 hw rfl) ?_
                  refine dx_only 20 (by kernel_rfl) rfl rfl ?_
                  refine CK [] hO rfl (fun k' hx hr hO' => tdrawn_spec (hO := hO')) ?_
                  rintro _ _ w ⟨b72, rfl, rfl⟩ hO
                  simp only [List.cons_append, List.nil_append] at hO
                  refine o_done (⟨SO.ks [.b b7] hO, ?_⟩)
                  refine dx_close 23 (by kernel_rfl) rfl rfl ?_
                  refine CK [] hO rfl (fun k' hx hr hO' => tIn_spec (ts := drawL) (sls_roK (p := (some ⟨b72, 0, none⟩)) hr (sls_fct (p := (some ⟨b72, 0, none⟩)) hO)) (by decide) (hO := hO')) ?_
                  rintro _ _ w ⟨rfl, rfl⟩ hO
                  simp only [List.cons_append, List.nil_append] at hO
                  refine o_done (da_phase _ [] (SO.ks [] hO) ?_)
                  refine dx_u 24 (by kernel_rfl) rfl rfl rfl (fun w => y_pick_t rfl rfl) ?_
                  refine dx_u 25 (by kernel_rfl) rfl rfl rfl (fun w => y_pick_f rfl rfl) ?_
                  refine dx_u 26 (by kernel_rfl) rfl rfl rfl (fun w => y_assign rfl) ?_
                  refine dx_end (by kernel_rfl) ?_
                  refine K3 (K6 ?_)
                  exact fin1 rfl rfl ⟨_, ⟨by rw [e0]; clear e1 e2 en e0; first | (exfalso; omega) | (simp [bord2, btnL, *]; done) | (simp [bord2, btnL, namB, *]; done), rfl⟩, hO.only [.b r, .p p, .b t]⟩
                · have h10_18 := of_decide_eq_false hg71
                  refine dx_pass 20 (by kernel_rfl) rfl rfl rfl ?_
                  refine dx_pass 21 (by kernel_rfl) rfl rfl rfl ?_
                  refine dx_pass 22 (by kernel_rfl) rfl rfl rfl ?_
                  refine dx_close 23 (by kernel_rfl) rfl rfl ?_
                  refine M2 (o_done (da_phase _ [] (SO.ks [] hO) ?_))
                  refine dx_u 24 (by kernel_rfl) rfl rfl rfl (fun w => y_pick_f rfl rfl) ?_
                  refine dx_u 25 (by kernel_rfl) rfl rfl rfl (fun w => y_pick_f rfl rfl) ?_
                  refine dx_u 26 (by kernel_rfl) rfl rfl rfl (fun w => y_assign rfl) ?_
                  refine dx_end (by kernel_rfl) ?_
                  refine K3 (K6 ?_)
                  exact fin1 rfl rfl ⟨_, ⟨by rw [e0]; clear e1 e2 en e0; first | (exfalso; omega) | (simp [bord2, btnL, *]; done) | (simp [bord2, btnL, namB, *]; done), rfl⟩, hO.only [.b r, .p p, .b t]⟩
      · refine V1 rfl rfl rfl ?_
        repeat refine M2 ?_
        refine l_y rfl rfl (y_pick_f rfl rfl) (V1 rfl rfl rfl (V1 rfl rfl rfl ?_))
        refine Z0 (fun h8_10 => ?_) (fun h8_10 => ?_)
        · refine V1 rfl rfl rfl (V1 rfl rfl rfl (V1 rfl rfl rfl (CK [.b r, .p p, .b t] hO rfl (fun k' hx hr hO' => tNamed_spec s hg (hO := hO')) ?_)))
          rintro _ _ w ⟨rfl, rfl⟩ hO
          simp only [List.cons_append, List.nil_append] at hO
          rw [en]
          refine l_y rfl rfl (y_pick_t rfl rfl) (l_y rfl rfl (y_pick_f rfl rfl) (K2 (K3 ?_)))
          refine c_split rfl (fun hc51 => ?_) (fun hc51 => ?_)
          · refine K0 (K1 (V2 rfl rfl rfl (K2 (K3 (K6 (K9 ?_))))))
            exact fin1 rfl rfl ⟨_, ⟨by rw [e0]; clear e1 e2 en e0; first | (exfalso; omega) | (simp [bord2, btnL, *]; done) | (simp [bord2, btnL, namB, *]; done), rfl⟩, hO.only [.b r, .p p, .b t]⟩
          · refine K5 (K3 (K0 (da_region (by intro c a d v w h; cases d <;> exact h) ?_)))
            have hO := hO.drew
            refine da_phase _ [3] (SO.ks [] hO) ?_
            refine dx_u 0 (by kernel_rfl) rfl rfl rfl (fun w => y_move rfl) ?_
            refine dx_u 1 (by kernel_rfl) rfl rfl rfl (fun w => y_move rfl) ?_
            refine dx_u 2 (by kernel_rfl) rfl rfl rfl (fun w => y_move rfl) ?_
            refine dx_close 3 (by kernel_rfl) rfl rfl ?_
            refine CK [.b r, .p p, .b t] hO rfl (fun k' hx hr hO' => tOf_spec (ts := bordL) (sls_roK (p := (some ⟨b21, 0, none⟩)) hr (sls_fct (p := (some ⟨b21, 0, none⟩)) hO)) (by decide) s hg (hO := hO')) ?_
            rintro _ _ w ⟨rfl, rfl⟩ hO
            simp only [List.cons_append, List.nil_append] at hO
            rw [en]
            refine o_done (da_phase _ [12] (SO.ks [.b b7] hO) ?_)
            refine dx_u 4 (by kernel_rfl) rfl rfl rfl (fun w => y_move rfl) ?_
            refine dx_split 56 rfl (fun hg56 => ?_) (fun hg56 => ?_)
            · refine dx_pass 5 (by kernel_rfl) rfl rfl rfl ?_
              refine dx_pass 6 (by kernel_rfl) rfl rfl rfl ?_
              refine dx_pass 7 (by kernel_rfl) rfl rfl rfl ?_
              refine dx_pass 8 (by kernel_rfl) rfl rfl rfl ?_
              refine dx_pass 9 (by kernel_rfl) rfl rfl rfl ?_
              refine dx_pass 10 (by kernel_rfl) rfl rfl rfl ?_
              refine dx_pass 11 (by kernel_rfl) rfl rfl rfl ?_
              refine dx_close 12 (by kernel_rfl) rfl rfl ?_
              refine M2 (o_done (da_phase _ [23] (SO.ks [] hO) ?_))
              refine dx_pass 13 (by kernel_rfl) rfl rfl rfl ?_
              refine dx_u 14 (by kernel_rfl) rfl rfl rfl (fun w => y_pick_t rfl rfl) ?_
              refine dx_u 15 (by kernel_rfl) rfl rfl rfl (fun w => y_move rfl) ?_
              refine dx_pass 16 (by kernel_rfl) rfl rfl rfl ?_
              refine dx_pass 17 (by kernel_rfl) rfl rfl rfl ?_
              refine dx_pass 18 (by kernel_rfl) rfl rfl rfl ?_
              refine dx_pass 19 (by kernel_rfl) rfl rfl rfl ?_
              refine dx_pass 20 (by kernel_rfl) rfl rfl rfl ?_
              refine dx_pass 21 (by kernel_rfl) rfl rfl rfl ?_
              refine dx_pass 22 (by kernel_rfl) rfl rfl rfl ?_
              refine dx_close 23 (by kernel_rfl) rfl rfl ?_
              refine M2 (o_done (da_phase _ [] (SO.ks [] hO) ?_))
              refine dx_pass 24 (by kernel_rfl) rfl rfl rfl ?_
              refine dx_u 25 (by kernel_rfl) rfl rfl rfl (fun w => y_pick_t rfl rfl) ?_
              refine dx_u 26 (by kernel_rfl) rfl rfl rfl (fun w => y_assign rfl) ?_
              refine dx_end (by kernel_rfl) ?_
              refine K3 (K6 ?_)
              exact fin1 rfl rfl ⟨_, ⟨by rw [e0]; clear e1 e2 en e0; first | (exfalso; omega) | (simp [bord2, btnL, *]; done) | (simp [bord2, btnL, namB, *]; done), rfl⟩, hO.only [.b r, .p p, .b t]⟩
            · refine dx_u 5 (by kernel_rfl) rfl rfl rfl (fun w => y_fldb (o' := 1) rfl) ?_
              refine dx_y 6 (by kernel_rfl) rfl rfl rfl (fun w ⟨m, hw⟩ => D5 hw rfl) ?_
              refine dx_u 7 (by kernel_rfl) rfl rfl rfl (fun w => y_cmpI rfl rfl rfl) ?_
              refine dx_u 8 (by kernel_rfl) rfl rfl rfl (fun w => y_move rfl) ?_
              refine dx_split 60 rfl (fun hg60 => ?_) (fun hg60 => ?_)
              · have h10_7 := of_decide_eq_true hg60
                refine dx_u 10 (by kernel_rfl) rfl rfl rfl (fun w => y_fldb (o' := 2) rfl) ?_
                refine dx_y 11 (by kernel_rfl) rfl rfl rfl (fun w ⟨m, hw⟩ => D5 hw rfl) ?_
                refine dx_only 9 (by kernel_rfl) rfl rfl ?_
                refine CK [] hO rfl (fun k' hx hr hO' => tmath_spec (hO := hO')) ?_
                rintro _ _ w ⟨b61, rfl, rfl⟩ hO
                simp only [List.cons_append, List.nil_append] at hO
                refine o_done (⟨SO.ks [.b b7] hO, ?_⟩)
                refine dx_close 12 (by kernel_rfl) rfl rfl ?_
                refine CK [] hO rfl (fun k' hx hr hO' => tIn_spec (ts := mathL) (sls_roK (p := (some ⟨b61, 0, none⟩)) hr (sls_fct (p := (some ⟨b61, 0, none⟩)) hO)) (by decide) (hO := hO')) ?_
                rintro _ _ w ⟨rfl, rfl⟩ hO
                simp only [List.cons_append, List.nil_append] at hO
                refine o_done (da_phase _ [23] (SO.ks [.b b7] hO) ?_)
                refine dx_u 13 (by kernel_rfl) rfl rfl rfl (fun w => y_pick_t rfl rfl) ?_
                refine dx_u 14 (by kernel_rfl) rfl rfl rfl (fun w => y_pick_f rfl rfl) ?_
                refine dx_u 15 (by kernel_rfl) rfl rfl rfl (fun w => y_move rfl) ?_
                refine dx_split 67 rfl (fun hg67 => ?_) (fun hg67 => ?_)
                · refine dx_pass 16 (by kernel_rfl) rfl rfl rfl ?_
                  refine dx_pass 17 (by kernel_rfl) rfl rfl rfl ?_
                  refine dx_pass 18 (by kernel_rfl) rfl rfl rfl ?_
                  refine dx_pass 19 (by kernel_rfl) rfl rfl rfl ?_
                  refine dx_pass 20 (by kernel_rfl) rfl rfl rfl ?_
                  refine dx_pass 21 (by kernel_rfl) rfl rfl rfl ?_
                  refine dx_pass 22 (by kernel_rfl) rfl rfl rfl ?_
                  refine dx_close 23 (by kernel_rfl) rfl rfl ?_
                  refine M2 (o_done (da_phase _ [] (SO.ks [] hO) ?_))
                  refine dx_pass 24 (by kernel_rfl) rfl rfl rfl ?_
                  refine dx_u 25 (by kernel_rfl) rfl rfl rfl (fun w => y_pick_t rfl rfl) ?_
                  refine dx_u 26 (by kernel_rfl) rfl rfl rfl (fun w => y_assign rfl) ?_
                  refine dx_end (by kernel_rfl) ?_
                  refine K3 (K6 ?_)
                  exact fin1 rfl rfl ⟨_, ⟨by rw [e0]; clear e1 e2 en e0; first | (exfalso; omega) | (simp [bord2, btnL, *]; done) | (simp [bord2, btnL, namB, *]; done), rfl⟩, hO.only [.b r, .p p, .b t]⟩
                · refine dx_u 16 (by kernel_rfl) rfl rfl rfl (fun w => y_fldb (o' := 1) rfl) ?_
                  refine dx_y 17 (by kernel_rfl) rfl rfl rfl (fun w ⟨m, hw⟩ => D5 hw rfl) ?_
                  refine dx_u 18 (by kernel_rfl) rfl rfl rfl (fun w => y_cmpI rfl rfl rfl) ?_
                  refine dx_u 19 (by kernel_rfl) rfl rfl rfl (fun w => y_move rfl) ?_
                  refine dx_split 71 rfl (fun hg71 => ?_) (fun hg71 => ?_)
                  · have h10_18 := of_decide_eq_true hg71
                    refine dx_u 21 (by kernel_rfl) rfl rfl rfl (fun w => y_fldb (o' := 2) rfl) ?_
                    refine dx_y 22 (by kernel_rfl) rfl rfl rfl (fun w ⟨m, hw⟩ => D5 hw rfl) ?_
                    refine dx_only 20 (by kernel_rfl) rfl rfl ?_
                    refine CK [] hO rfl (fun k' hx hr hO' => tdrawn_spec (hO := hO')) ?_
                    rintro _ _ w ⟨b72, rfl, rfl⟩ hO
                    simp only [List.cons_append, List.nil_append] at hO
                    refine o_done (⟨SO.ks [.b b7] hO, ?_⟩)
                    refine dx_close 23 (by kernel_rfl) rfl rfl ?_
                    refine CK [] hO rfl (fun k' hx hr hO' => tIn_spec (ts := drawL) (sls_roK (p := (some ⟨b72, 0, none⟩)) hr (sls_fct (p := (some ⟨b72, 0, none⟩)) hO)) (by decide) (hO := hO')) ?_
                    rintro _ _ w ⟨rfl, rfl⟩ hO
                    simp only [List.cons_append, List.nil_append] at hO
                    refine o_done (da_phase _ [] (SO.ks [] hO) ?_)
                    refine dx_u 24 (by kernel_rfl) rfl rfl rfl (fun w => y_pick_t rfl rfl) ?_
                    refine dx_u 25 (by kernel_rfl) rfl rfl rfl (fun w => y_pick_f rfl rfl) ?_
                    refine dx_u 26 (by kernel_rfl) rfl rfl rfl (fun w => y_assign rfl) ?_
                    refine dx_end (by kernel_rfl) ?_
                    refine K3 (K6 ?_)
                    exact fin1 rfl rfl ⟨_, ⟨by rw [e0]; clear e1 e2 en e0; first | (exfalso; omega) | (simp [bord2, btnL, *]; done) | (simp [bord2, btnL, namB, *]; done), rfl⟩, hO.only [.b r, .p p, .b t]⟩
                  · have h10_18 := of_decide_eq_false hg71
                    refine dx_pass 20 (by kernel_rfl) rfl rfl rfl ?_
                    refine dx_pass 21 (by kernel_rfl) rfl rfl rfl ?_
                    refine dx_pass 22 (by kernel_rfl) rfl rfl rfl ?_
                    refine dx_close 23 (by kernel_rfl) rfl rfl ?_
                    refine M2 (o_done (da_phase _ [] (SO.ks [] hO) ?_))
                    refine dx_u 24 (by kernel_rfl) rfl rfl rfl (fun w => y_pick_f rfl rfl) ?_
                    refine dx_u 25 (by kernel_rfl) rfl rfl rfl (fun w => y_pick_f rfl rfl) ?_
                    refine dx_u 26 (by kernel_rfl) rfl rfl rfl (fun w => y_assign rfl) ?_
                    refine dx_end (by kernel_rfl) ?_
                    refine K3 (K6 ?_)
                    exact fin1 rfl rfl ⟨_, ⟨by rw [e0]; clear e1 e2 en e0; first | (exfalso; omega) | (simp [bord2, btnL, *]; done) | (simp [bord2, btnL, namB, *]; done), rfl⟩, hO.only [.b r, .p p, .b t]⟩
              · have h10_7 := of_decide_eq_false hg60
                refine dx_pass 9 (by kernel_rfl) rfl rfl rfl ?_
                refine dx_pass 10 (by kernel_rfl) rfl rfl rfl ?_
                refine dx_pass 11 (by kernel_rfl) rfl rfl rfl ?_
                refine dx_close 12 (by kernel_rfl) rfl rfl ?_
                refine M2 (o_done (da_phase _ [23] (SO.ks [.b b7] hO) ?_))
                refine dx_u 13 (by kernel_rfl) rfl rfl rfl (fun w => y_pick_f rfl rfl) ?_
                refine dx_u 14 (by kernel_rfl) rfl rfl rfl (fun w => y_pick_f rfl rfl) ?_
                refine dx_u 15 (by kernel_rfl) rfl rfl rfl (fun w => y_move rfl) ?_
                refine dx_u 16 (by kernel_rfl) rfl rfl rfl (fun w => y_fldb (o' := 1) rfl) ?_
                refine dx_y 17 (by kernel_rfl) rfl rfl rfl (fun w ⟨m, hw⟩ => D5 hw rfl) ?_
                refine dx_u 18 (by kernel_rfl) rfl rfl rfl (fun w => y_cmpI rfl rfl rfl) ?_
                refine dx_u 19 (by kernel_rfl) rfl rfl rfl (fun w => y_move rfl) ?_
                refine dx_split 71 rfl (fun hg71 => ?_) (fun hg71 => ?_)
                · have h10_18 := of_decide_eq_true hg71
                  refine dx_u 21 (by kernel_rfl) rfl rfl rfl (fun w => y_fldb (o' := 2) rfl) ?_
                  refine dx_y 22 (by kernel_rfl) rfl rfl rfl (fun w ⟨m, hw⟩ => D5 hw rfl) ?_
                  refine dx_only 20 (by kernel_rfl) rfl rfl ?_
                  refine CK [] hO rfl (fun k' hx hr hO' => tdrawn_spec (hO := hO')) ?_
                  rintro _ _ w ⟨b72, rfl, rfl⟩ hO
                  simp only [List.cons_append, List.nil_append] at hO
                  refine o_done (⟨SO.ks [.b b7] hO, ?_⟩)
                  refine dx_close 23 (by kernel_rfl) rfl rfl ?_
                  refine CK [] hO rfl (fun k' hx hr hO' => tIn_spec (ts := drawL) (sls_roK (p := (some ⟨b72, 0, none⟩)) hr (sls_fct (p := (some ⟨b72, 0, none⟩)) hO)) (by decide) (hO := hO')) ?_
                  rintro _ _ w ⟨rfl, rfl⟩ hO
                  simp only [List.cons_append, List.nil_append] at hO
                  refine o_done (da_phase _ [] (SO.ks [] hO) ?_)
                  refine dx_u 24 (by kernel_rfl) rfl rfl rfl (fun w => y_pick_t rfl rfl) ?_
                  refine dx_u 25 (by kernel_rfl) rfl rfl rfl (fun w => y_pick_f rfl rfl) ?_
                  refine dx_u 26 (by kernel_rfl) rfl rfl rfl (fun w => y_assign rfl) ?_
                  refine dx_end (by kernel_rfl) ?_
                  refine K3 (K6 ?_)
                  exact fin1 rfl rfl ⟨_, ⟨by rw [e0]; clear e1 e2 en e0; first | (exfalso; omega) | (simp [bord2, btnL, *]; done) | (simp [bord2, btnL, namB, *]; done), rfl⟩, hO.only [.b r, .p p, .b t]⟩
                · have h10_18 := of_decide_eq_false hg71
                  refine dx_pass 20 (by kernel_rfl) rfl rfl rfl ?_
                  refine dx_pass 21 (by kernel_rfl) rfl rfl rfl ?_
                  refine dx_pass 22 (by kernel_rfl) rfl rfl rfl ?_
                  refine dx_close 23 (by kernel_rfl) rfl rfl ?_
                  refine M2 (o_done (da_phase _ [] (SO.ks [] hO) ?_))
                  refine dx_u 24 (by kernel_rfl) rfl rfl rfl (fun w => y_pick_f rfl rfl) ?_
                  refine dx_u 25 (by kernel_rfl) rfl rfl rfl (fun w => y_pick_f rfl rfl) ?_
                  refine dx_u 26 (by kernel_rfl) rfl rfl rfl (fun w => y_assign rfl) ?_
                  refine dx_end (by kernel_rfl) ?_
                  refine K3 (K6 ?_)
                  exact fin1 rfl rfl ⟨_, ⟨by rw [e0]; clear e1 e2 en e0; first | (exfalso; omega) | (simp [bord2, btnL, *]; done) | (simp [bord2, btnL, namB, *]; done), rfl⟩, hO.only [.b r, .p p, .b t]⟩
        · refine V1 rfl rfl rfl ?_
          repeat refine M2 ?_
          refine l_y rfl rfl (y_pick_f rfl rfl) (l_y rfl rfl (y_pick_f rfl rfl) (K2 (K3 (L9 (K5 (K3 (K0 (da_region (by intro c a d v w h; cases d <;> exact h) ?_))))))))
          have hO := hO.drew
          refine da_phase _ [3] (SO.ks [] hO) ?_
          refine dx_u 0 (by kernel_rfl) rfl rfl rfl (fun w => y_move rfl) ?_
          refine dx_u 1 (by kernel_rfl) rfl rfl rfl (fun w => y_move rfl) ?_
          refine dx_u 2 (by kernel_rfl) rfl rfl rfl (fun w => y_move rfl) ?_
          refine dx_close 3 (by kernel_rfl) rfl rfl ?_
          refine CK [.b r, .p p, .b t] hO rfl (fun k' hx hr hO' => tOf_spec (ts := bordL) (sls_roK (p := (some ⟨b21, 0, none⟩)) hr (sls_fct (p := (some ⟨b21, 0, none⟩)) hO)) (by decide) s hg (hO := hO')) ?_
          rintro _ _ w ⟨rfl, rfl⟩ hO
          simp only [List.cons_append, List.nil_append] at hO
          rw [en]
          refine o_done (da_phase _ [12] (SO.ks [.b b7] hO) ?_)
          refine dx_u 4 (by kernel_rfl) rfl rfl rfl (fun w => y_move rfl) ?_
          refine dx_split 56 rfl (fun hg56 => ?_) (fun hg56 => ?_)
          · refine dx_pass 5 (by kernel_rfl) rfl rfl rfl ?_
            refine dx_pass 6 (by kernel_rfl) rfl rfl rfl ?_
            refine dx_pass 7 (by kernel_rfl) rfl rfl rfl ?_
            refine dx_pass 8 (by kernel_rfl) rfl rfl rfl ?_
            refine dx_pass 9 (by kernel_rfl) rfl rfl rfl ?_
            refine dx_pass 10 (by kernel_rfl) rfl rfl rfl ?_
            refine dx_pass 11 (by kernel_rfl) rfl rfl rfl ?_
            refine dx_close 12 (by kernel_rfl) rfl rfl ?_
            refine M2 (o_done (da_phase _ [23] (SO.ks [] hO) ?_))
            refine dx_pass 13 (by kernel_rfl) rfl rfl rfl ?_
            refine dx_u 14 (by kernel_rfl) rfl rfl rfl (fun w => y_pick_t rfl rfl) ?_
            refine dx_u 15 (by kernel_rfl) rfl rfl rfl (fun w => y_move rfl) ?_
            refine dx_pass 16 (by kernel_rfl) rfl rfl rfl ?_
            refine dx_pass 17 (by kernel_rfl) rfl rfl rfl ?_
            refine dx_pass 18 (by kernel_rfl) rfl rfl rfl ?_
            refine dx_pass 19 (by kernel_rfl) rfl rfl rfl ?_
            refine dx_pass 20 (by kernel_rfl) rfl rfl rfl ?_
            refine dx_pass 21 (by kernel_rfl) rfl rfl rfl ?_
            refine dx_pass 22 (by kernel_rfl) rfl rfl rfl ?_
            refine dx_close 23 (by kernel_rfl) rfl rfl ?_
            refine M2 (o_done (da_phase _ [] (SO.ks [] hO) ?_))
            refine dx_pass 24 (by kernel_rfl) rfl rfl rfl ?_
            refine dx_u 25 (by kernel_rfl) rfl rfl rfl (fun w => y_pick_t rfl rfl) ?_
            refine dx_u 26 (by kernel_rfl) rfl rfl rfl (fun w => y_assign rfl) ?_
            refine dx_end (by kernel_rfl) ?_
            refine K3 (K6 ?_)
            exact fin1 rfl rfl ⟨_, ⟨by rw [e0]; clear e1 e2 en e0; first | (exfalso; omega) | (simp [bord2, btnL, *]; done) | (simp [bord2, btnL, namB, *]; done), rfl⟩, hO.only [.b r, .p p, .b t]⟩
          · refine dx_u 5 (by kernel_rfl) rfl rfl rfl (fun w => y_fldb (o' := 1) rfl) ?_
            refine dx_y 6 (by kernel_rfl) rfl rfl rfl (fun w ⟨m, hw⟩ => D5 hw rfl) ?_
            refine dx_u 7 (by kernel_rfl) rfl rfl rfl (fun w => y_cmpI rfl rfl rfl) ?_
            refine dx_u 8 (by kernel_rfl) rfl rfl rfl (fun w => y_move rfl) ?_
            refine dx_split 60 rfl (fun hg60 => ?_) (fun hg60 => ?_)
            · have h10_7 := of_decide_eq_true hg60
              refine dx_u 10 (by kernel_rfl) rfl rfl rfl (fun w => y_fldb (o' := 2) rfl) ?_
              refine dx_y 11 (by kernel_rfl) rfl rfl rfl (fun w ⟨m, hw⟩ => D5 hw rfl) ?_
              refine dx_only 9 (by kernel_rfl) rfl rfl ?_
              refine CK [] hO rfl (fun k' hx hr hO' => tmath_spec (hO := hO')) ?_
              rintro _ _ w ⟨b61, rfl, rfl⟩ hO
              simp only [List.cons_append, List.nil_append] at hO
              refine o_done (⟨SO.ks [.b b7] hO, ?_⟩)
              refine dx_close 12 (by kernel_rfl) rfl rfl ?_
              refine CK [] hO rfl (fun k' hx hr hO' => tIn_spec (ts := mathL) (sls_roK (p := (some ⟨b61, 0, none⟩)) hr (sls_fct (p := (some ⟨b61, 0, none⟩)) hO)) (by decide) (hO := hO')) ?_
              rintro _ _ w ⟨rfl, rfl⟩ hO
              simp only [List.cons_append, List.nil_append] at hO
              refine o_done (da_phase _ [23] (SO.ks [.b b7] hO) ?_)
              refine dx_u 13 (by kernel_rfl) rfl rfl rfl (fun w => y_pick_t rfl rfl) ?_
              refine dx_u 14 (by kernel_rfl) rfl rfl rfl (fun w => y_pick_f rfl rfl) ?_
              refine dx_u 15 (by kernel_rfl) rfl rfl rfl (fun w => y_move rfl) ?_
              refine dx_split 67 rfl (fun hg67 => ?_) (fun hg67 => ?_)
              · refine dx_pass 16 (by kernel_rfl) rfl rfl rfl ?_
                refine dx_pass 17 (by kernel_rfl) rfl rfl rfl ?_
                refine dx_pass 18 (by kernel_rfl) rfl rfl rfl ?_
                refine dx_pass 19 (by kernel_rfl) rfl rfl rfl ?_
                refine dx_pass 20 (by kernel_rfl) rfl rfl rfl ?_
                refine dx_pass 21 (by kernel_rfl) rfl rfl rfl ?_
                refine dx_pass 22 (by kernel_rfl) rfl rfl rfl ?_
                refine dx_close 23 (by kernel_rfl) rfl rfl ?_
                refine M2 (o_done (da_phase _ [] (SO.ks [] hO) ?_))
                refine dx_pass 24 (by kernel_rfl) rfl rfl rfl ?_
                refine dx_u 25 (by kernel_rfl) rfl rfl rfl (fun w => y_pick_t rfl rfl) ?_
                refine dx_u 26 (by kernel_rfl) rfl rfl rfl (fun w => y_assign rfl) ?_
                refine dx_end (by kernel_rfl) ?_
                refine K3 (K6 ?_)
                exact fin1 rfl rfl ⟨_, ⟨by rw [e0]; clear e1 e2 en e0; first | (exfalso; omega) | (simp [bord2, btnL, *]; done) | (simp [bord2, btnL, namB, *]; done), rfl⟩, hO.only [.b r, .p p, .b t]⟩
              · refine dx_u 16 (by kernel_rfl) rfl rfl rfl (fun w => y_fldb (o' := 1) rfl) ?_
                refine dx_y 17 (by kernel_rfl) rfl rfl rfl (fun w ⟨m, hw⟩ => D5 hw rfl) ?_
                refine dx_u 18 (by kernel_rfl) rfl rfl rfl (fun w => y_cmpI rfl rfl rfl) ?_
                refine dx_u 19 (by kernel_rfl) rfl rfl rfl (fun w => y_move rfl) ?_
                refine dx_split 71 rfl (fun hg71 => ?_) (fun hg71 => ?_)
                · have h10_18 := of_decide_eq_true hg71
                  refine dx_u 21 (by kernel_rfl) rfl rfl rfl (fun w => y_fldb (o' := 2) rfl) ?_
                  refine dx_y 22 (by kernel_rfl) rfl rfl rfl (fun w ⟨m, hw⟩ => D5 hw rfl) ?_
                  refine dx_only 20 (by kernel_rfl) rfl rfl ?_
                  refine CK [] hO rfl (fun k' hx hr hO' => tdrawn_spec (hO := hO')) ?_
                  rintro _ _ w ⟨b72, rfl, rfl⟩ hO
                  simp only [List.cons_append, List.nil_append] at hO
                  refine o_done (⟨SO.ks [.b b7] hO, ?_⟩)
                  refine dx_close 23 (by kernel_rfl) rfl rfl ?_
                  refine CK [] hO rfl (fun k' hx hr hO' => tIn_spec (ts := drawL) (sls_roK (p := (some ⟨b72, 0, none⟩)) hr (sls_fct (p := (some ⟨b72, 0, none⟩)) hO)) (by decide) (hO := hO')) ?_
                  rintro _ _ w ⟨rfl, rfl⟩ hO
                  simp only [List.cons_append, List.nil_append] at hO
                  refine o_done (da_phase _ [] (SO.ks [] hO) ?_)
                  refine dx_u 24 (by kernel_rfl) rfl rfl rfl (fun w => y_pick_t rfl rfl) ?_
                  refine dx_u 25 (by kernel_rfl) rfl rfl rfl (fun w => y_pick_f rfl rfl) ?_
                  refine dx_u 26 (by kernel_rfl) rfl rfl rfl (fun w => y_assign rfl) ?_
                  refine dx_end (by kernel_rfl) ?_
                  refine K3 (K6 ?_)
                  exact fin1 rfl rfl ⟨_, ⟨by rw [e0]; clear e1 e2 en e0; first | (exfalso; omega) | (simp [bord2, btnL, *]; done) | (simp [bord2, btnL, namB, *]; done), rfl⟩, hO.only [.b r, .p p, .b t]⟩
                · have h10_18 := of_decide_eq_false hg71
                  refine dx_pass 20 (by kernel_rfl) rfl rfl rfl ?_
                  refine dx_pass 21 (by kernel_rfl) rfl rfl rfl ?_
                  refine dx_pass 22 (by kernel_rfl) rfl rfl rfl ?_
                  refine dx_close 23 (by kernel_rfl) rfl rfl ?_
                  refine M2 (o_done (da_phase _ [] (SO.ks [] hO) ?_))
                  refine dx_u 24 (by kernel_rfl) rfl rfl rfl (fun w => y_pick_f rfl rfl) ?_
                  refine dx_u 25 (by kernel_rfl) rfl rfl rfl (fun w => y_pick_f rfl rfl) ?_
                  refine dx_u 26 (by kernel_rfl) rfl rfl rfl (fun w => y_assign rfl) ?_
                  refine dx_end (by kernel_rfl) ?_
                  refine K3 (K6 ?_)
                  exact fin1 rfl rfl ⟨_, ⟨by rw [e0]; clear e1 e2 en e0; first | (exfalso; omega) | (simp [bord2, btnL, *]; done) | (simp [bord2, btnL, namB, *]; done), rfl⟩, hO.only [.b r, .p p, .b t]⟩
            · have h10_7 := of_decide_eq_false hg60
              refine dx_pass 9 (by kernel_rfl) rfl rfl rfl ?_
              refine dx_pass 10 (by kernel_rfl) rfl rfl rfl ?_
              refine dx_pass 11 (by kernel_rfl) rfl rfl rfl ?_
              refine dx_close 12 (by kernel_rfl) rfl rfl ?_
              refine M2 (o_done (da_phase _ [23] (SO.ks [.b b7] hO) ?_))
              refine dx_u 13 (by kernel_rfl) rfl rfl rfl (fun w => y_pick_f rfl rfl) ?_
              refine dx_u 14 (by kernel_rfl) rfl rfl rfl (fun w => y_pick_f rfl rfl) ?_
              refine dx_u 15 (by kernel_rfl) rfl rfl rfl (fun w => y_move rfl) ?_
              refine dx_u 16 (by kernel_rfl) rfl rfl rfl (fun w => y_fldb (o' := 1) rfl) ?_
              refine dx_y 17 (by kernel_rfl) rfl rfl rfl (fun w ⟨m, hw⟩ => D5 hw rfl) ?_
              refine dx_u 18 (by kernel_rfl) rfl rfl rfl (fun w => y_cmpI rfl rfl rfl) ?_
              refine dx_u 19 (by kernel_rfl) rfl rfl rfl (fun w => y_move rfl) ?_
              refine dx_split 71 rfl (fun hg71 => ?_) (fun hg71 => ?_)
              · have h10_18 := of_decide_eq_true hg71
                refine dx_u 21 (by kernel_rfl) rfl rfl rfl (fun w => y_fldb (o' := 2) rfl) ?_
                refine dx_y 22 (by kernel_rfl) rfl rfl rfl (fun w ⟨m, hw⟩ => D5 hw rfl) ?_
                refine dx_only 20 (by kernel_rfl) rfl rfl ?_
                refine CK [] hO rfl (fun k' hx hr hO' => tdrawn_spec (hO := hO')) ?_
                rintro _ _ w ⟨b72, rfl, rfl⟩ hO
                simp only [List.cons_append, List.nil_append] at hO
                refine o_done (⟨SO.ks [.b b7] hO, ?_⟩)
                refine dx_close 23 (by kernel_rfl) rfl rfl ?_
                refine CK [] hO rfl (fun k' hx hr hO' => tIn_spec (ts := drawL) (sls_roK (p := (some ⟨b72, 0, none⟩)) hr (sls_fct (p := (some ⟨b72, 0, none⟩)) hO)) (by decide) (hO := hO')) ?_
                rintro _ _ w ⟨rfl, rfl⟩ hO
                simp only [List.cons_append, List.nil_append] at hO
                refine o_done (da_phase _ [] (SO.ks [] hO) ?_)
                refine dx_u 24 (by kernel_rfl) rfl rfl rfl (fun w => y_pick_t rfl rfl) ?_
                refine dx_u 25 (by kernel_rfl) rfl rfl rfl (fun w => y_pick_f rfl rfl) ?_
                refine dx_u 26 (by kernel_rfl) rfl rfl rfl (fun w => y_assign rfl) ?_
                refine dx_end (by kernel_rfl) ?_
                refine K3 (K6 ?_)
                exact fin1 rfl rfl ⟨_, ⟨by rw [e0]; clear e1 e2 en e0; first | (exfalso; omega) | (simp [bord2, btnL, *]; done) | (simp [bord2, btnL, namB, *]; done), rfl⟩, hO.only [.b r, .p p, .b t]⟩
              · have h10_18 := of_decide_eq_false hg71
                refine dx_pass 20 (by kernel_rfl) rfl rfl rfl ?_
                refine dx_pass 21 (by kernel_rfl) rfl rfl rfl ?_
                refine dx_pass 22 (by kernel_rfl) rfl rfl rfl ?_
                refine dx_close 23 (by kernel_rfl) rfl rfl ?_
                refine M2 (o_done (da_phase _ [] (SO.ks [] hO) ?_))
                refine dx_u 24 (by kernel_rfl) rfl rfl rfl (fun w => y_pick_f rfl rfl) ?_
                refine dx_u 25 (by kernel_rfl) rfl rfl rfl (fun w => y_pick_f rfl rfl) ?_
                refine dx_u 26 (by kernel_rfl) rfl rfl rfl (fun w => y_assign rfl) ?_
                refine dx_end (by kernel_rfl) ?_
                refine K3 (K6 ?_)
                exact fin1 rfl rfl ⟨_, ⟨by rw [e0]; clear e1 e2 en e0; first | (exfalso; omega) | (simp [bord2, btnL, *]; done) | (simp [bord2, btnL, namB, *]; done), rfl⟩, hO.only [.b r, .p p, .b t]⟩
end
end Go.Proofs.YtoohapbaelmkcaaGreat
end
section
set_option maxRecDepth 100000
namespace Go.Proofs.YtoohapbaelmkcaaGreat
open Go Go.Hb Go.RowKit
theorem findI_last {l : List Int} {x i : Int} (hnd : l.Nodup) (h0 : 0 ≤ i) (h1 : i < l.length) (h : at_ l i.toNat = x) : findI l x = i := by
  have : findI l x = (i.toNat : Int) := idx_at (i := i.toNat) (by omega) (decide_eq_true h) fun j hj => decide_eq_false fun e => by
    have h2 := (List.getElem?_inj (l := l) (i := j) (j := i.toNat) (by omega) hnd).1 (by rw [at_get (show j < l.length by omega), at_get (show i.toNat < l.length by omega), e, h])
    omega
  omega
section
variable {k : Ctx} {w : World} {r t c : Nat} {p : Option Addr} {A : List Node_one} {K : Int → List Int} {R : List Ref01_one} {l : List Int} {id kind : Int} {name : ByteArray}
theorem tFind_spec (hnd : l.Nodup) (hl : l.length ≤ 1000000) (hO : Own k w [rstkL t r l]) :
  Tri Tryz.prog 69 #[.pointer (some ⟨t, 0, none⟩), .int .i64 id] k w fun v m => v = .int .i64 (findI l id) ∧ m = [rstkL t r l] := by
 refine enter (args := [.pointer (some ⟨t, 0, none⟩), .int .i64 id]) Tryz.func69 rfl rfl ?_
 obtain ⟨q, d, hq, hld, hO⟩ := rstkL_open hO
 refine K0 (K1 (V2 rfl rfl rfl (K2 (K3 (K0 (K0 (K1 (V1 rfl rfl rfl (V3 rfl rfl rfl rfl (l_y rfl rfl (y_fldb (o' := 1) rfl) (l_y rfl rfl (D5 hO rfl) ?_)))))))))))
 refine l_y rfl rfl (y_lenL rfl) (l_y rfl rfl (D4) ?_)
 refine V2 rfl rfl rfl (K2 (K3 (K4 (c_rounds (X := Int) (fun i => [(0, .pointer (some ⟨t, 0, none⟩)), (1, .int .i64 id), (4, .int .i64 0), (5, .int .i64 i)]) (fun i w => Own k w [tB t r q l.length d, sI q d l] ∧ (-1 ≤ i ∧ i < l.length) ∧ (∀ j : Nat, i < j → j < l.length → decide (at_ l j = id) = false)) (fun i => (i + 1).toNat) ((l.length : Int) - 1) ⟨rfl, rfl, rfl, rfl, trivial⟩ ⟨hO.only [.b t, .p q], ⟨by omega, by omega⟩, fun j h1 h2 => absurd h1 (by omega)⟩ ?_))))
 rintro i w m hm ⟨hO, hi, hn⟩
 refine K0 (K0 (K1 (V1 rfl rfl rfl ?_)))
 refine Z0 (fun h2_1 => ?_) (fun h2_1 => ?_)
 ·refine K2 (K3 (L8 (K5 (K3 (K0 (K4 (K0 (K1 (V1 rfl rfl rfl (V3 rfl rfl rfl rfl (l_y rfl rfl (y_fldb (o' := 1) rfl) (l_y rfl rfl (D5 hO rfl) ?_))))))))))))
  refine V1 rfl rfl rfl (l_y rfl rfl (y_idx rfl rfl) ?_)
  refine l_y rfl rfl (y_e1 (x0 := 0) hO rfl) ?_
  refine V1 rfl rfl rfl ?_
  refine Z0 (fun h4_8 => ?_) (fun h4_8 => ?_)
  ·refine K2 (K3 (L8 (K0 (K1 (V1 rfl rfl rfl (V2 rfl rfl rfl (K2 (K3 (K6 (L0 (K9 (K9 (L0 (K9 ?_))))))))))))))
   rw [findI_last hnd (by omega) (by omega) h4_8]
   exact fin1 rfl rfl ⟨_, ⟨rfl, rfl⟩, (rstkL_shut (hO.ks [.b t, .p q])).one⟩
  ·refine K2 (K3 (L9 (K5 (K8 (K3 (K1 (V1 rfl rfl rfl (l_y rfl rfl (D4) ?_))))))))
   refine V2 rfl rfl rfl (K2 ?_)
   exact q_next (i - 1) ⟨rfl, rfl, rfl, rfl, trivial⟩ ⟨hO.only [.b t, .p q], ⟨by omega, by omega⟩, fun j h1 h2 => (by by_cases e : (j : Int) = i; (have e2 : j = i.toNat := by omega); (subst e2; exact decide_eq_false h4_8); exact hn j (by omega) h2)⟩ (by omega)
 ·refine K2 (K3 (L9 (K7 (L1 (L1 (L2 (K3 (K0 (K1 (V2 rfl rfl rfl (K2 (K3 (K6 ?_)))))))))))))
  rw [show findI l id = -1 from idx_none (fun j hj => hn j (by omega) hj)]
  exact fin1 rfl rfl ⟨_, ⟨rfl, rfl⟩, (rstkL_shut (hO.ks [.b t, .p q])).one⟩
theorem tAt_spec {i : Int} (hO : Own k w [rstkL t r l]) :
  Tri Tryz.prog 45 #[.pointer (some ⟨t, 0, none⟩), .int .i64 i] k w fun v m => v = .int .i64 (atI l i) ∧ m = [rstkL t r l] := by
 refine enter (args := [.pointer (some ⟨t, 0, none⟩), .int .i64 i]) Tryz.func45 rfl rfl ?_
 obtain ⟨q, d, hq, hld, hO⟩ := rstkL_open hO
 refine K0 (K1 (V2 rfl rfl rfl (K2 (K3 (K0 (K0 (K1 (V1 rfl rfl rfl ?_))))))))
 refine Z0 (fun h1_1 => ?_) (fun h1_1 => ?_)
 ·refine V1 rfl rfl rfl ?_
  repeat refine M2 ?_
  refine l_y rfl rfl (y_pick_t rfl rfl) (K2 (K3 (L8 (K0 (K1 (V2 rfl rfl rfl (K2 (K3 (K6 (K9 ?_))))))))))
  exact fin1 rfl rfl ⟨_, ⟨by rw [atI, if_pos (by omega)], rfl⟩, (rstkL_shut (hO.ks [.b t, .p q])).one⟩
 ·refine V1 rfl rfl rfl (V1 rfl rfl rfl (V1 rfl rfl rfl (V3 rfl rfl rfl rfl (l_y rfl rfl (y_fldb (o' := 1) rfl) (l_y rfl rfl (D5 hO rfl) ?_)))))
  refine l_y rfl rfl (y_lenL rfl) ?_
  refine Z0 (fun h1_9 => ?_) (fun h1_9 => ?_)
  ·refine l_y rfl rfl (y_pick_f rfl rfl) (K2 (K3 (L8 (K0 (K1 (V2 rfl rfl rfl (K2 (K3 (K6 (K9 ?_))))))))))
   exact fin1 rfl rfl ⟨_, ⟨by rw [atI, if_pos (by omega)], rfl⟩, (rstkL_shut (hO.ks [.b t, .p q])).one⟩
  ·refine l_y rfl rfl (y_pick_f rfl rfl) (K2 (K3 (L9 (K5 (K3 (K0 (K1 (V1 rfl rfl rfl (V3 rfl rfl rfl rfl (l_y rfl rfl (y_fldb (o' := 1) rfl) (l_y rfl rfl (D5 hO rfl) ?_)))))))))))
   refine V1 rfl rfl rfl (l_y rfl rfl (y_idx rfl rfl) ?_)
   refine l_y rfl rfl (y_e1 (x0 := 0) hO rfl) ?_
   refine V2 rfl rfl rfl (K2 (K3 (K6 ?_)))
   exact fin1 rfl rfl ⟨_, ⟨by rw [atI, if_neg (by omega)], rfl⟩, (rstkL_shut (hO.ks [.b t, .p q])).one⟩
theorem tTop_spec (hl : l.length ≤ 1000000) (hO : Own k w [rstkL t r l]) :
  Tri Tryz.prog 40 #[.pointer (some ⟨t, 0, none⟩)] k w fun v m => v = .int .i64 (topI l) ∧ m = [rstkL t r l] := by
 refine enter (args := [.pointer (some ⟨t, 0, none⟩)]) Tryz.func40 rfl rfl ?_
 obtain ⟨q, d, hq, hld, hO⟩ := rstkL_open hO
 refine K0 (K1 (V2 rfl rfl rfl (K2 (K3 (K0 (K1 (V1 rfl rfl rfl (V1 rfl rfl rfl (V3 rfl rfl rfl rfl (l_y rfl rfl (y_fldb (o' := 1) rfl) (l_y rfl rfl (D5 hO rfl) ?_)))))))))))
 refine l_y rfl rfl (y_lenL rfl) (l_y rfl rfl (D4) ?_)
 have hO := rstkL_shut (hO.ks [.b t, .p q])
 refine CK [.o t] hO rfl (fun k' hx hr hO' => tAt_spec (hO := hO')) ?_
 rintro _ _ w ⟨rfl, rfl⟩ hO
 refine V2 rfl rfl rfl (K2 (K3 (K6 ?_)))
 exact fin1 rfl rfl ⟨_, ⟨rfl, rfl⟩, hO.one⟩
theorem tPop_spec (hl : l.length ≤ 1000000) (hO : Own k w [rstkL t r l]) :
    Tri Tryz.prog 42 #[.pointer (some ⟨t, 0, none⟩)] k w fun v m => v = .int .i64 (topI l) ∧ m = [rstkL t r (l.take (l.length - 1))] := by
  refine enter (args := [.pointer (some ⟨t, 0, none⟩)]) Tryz.func42 rfl rfl (K0 (K1 (V2 rfl rfl rfl (K2 (K3 (K0 (K1 (V1 rfl rfl rfl (CK [.o t] hO rfl (fun k' hx hr hO' => tTop_spec hl (hO := hO')) ?_)))))))))
  rintro _ _ w ⟨rfl, rfl⟩ hO
  obtain ⟨q, d, hq, hld, hO⟩ := rstkL_open hO
  refine V2 rfl rfl rfl (K2 (K3 (K0 (K0 (K1 (V1 rfl rfl rfl (V3 rfl rfl rfl rfl (l_y rfl rfl (y_fldb (o' := 1) rfl) (l_y rfl rfl (D5 hO rfl) ?_)))))))))
  refine l_y rfl rfl (y_lenL rfl) ?_
  refine Z0 (fun h2_5 => ?_) (fun h2_5 => ?_)
  · refine K2 (K3 (L8 (da_region (by intro c a d v w h; cases d <;> exact h) ?_)))
    have hO := hO.drew
    refine da_phase _ [14] (SO.ks [.b t] hO) ?_
    refine dx_u 0 (by kernel_rfl) rfl rfl rfl (fun w => y_move rfl) ?_
    refine dx_u 1 (by kernel_rfl) rfl rfl rfl (fun w => y_move rfl) ?_
    refine dx_u 2 (by kernel_rfl) rfl rfl rfl (fun w => y_nilCheck rfl rfl) ?_
    refine dx_u 3 (by kernel_rfl) rfl rfl rfl (fun w => y_fldb (o' := 1) rfl) ?_
    refine dx_y 4 (by kernel_rfl) rfl rfl rfl (fun w ⟨m, hw⟩ => D5 hw rfl) ?_
    refine dx_u 5 (by kernel_rfl) rfl rfl rfl (fun w => y_move rfl) ?_
    refine dx_u 6 (by kernel_rfl) rfl rfl rfl (fun w => y_nilCheck rfl rfl) ?_
    refine dx_u 7 (by kernel_rfl) rfl rfl rfl (fun w => y_fldb (o' := 1) rfl) ?_
    refine dx_y 8 (by kernel_rfl) rfl rfl rfl (fun w ⟨m, hw⟩ => D5 hw rfl) ?_
    refine dx_u 9 (by kernel_rfl) rfl rfl rfl (fun w => y_lenL rfl) ?_
    refine dx_u 10 (by kernel_rfl) rfl rfl rfl (fun w => D4) ?_
    refine dx_y 11 (by kernel_rfl) rfl rfl rfl (fun w ⟨m, hw⟩ => y_hd (l.length - 1) rfl rfl) ?_
    refine dx_u 12 (by kernel_rfl) rfl rfl rfl (fun w => y_nilCheck rfl rfl) ?_
    refine dx_u 13 (by kernel_rfl) rfl rfl rfl (fun w => y_fldb (o' := 1) rfl) ?_
    refine dx_close 14 (by kernel_rfl) rfl rfl ?_
    refine Y1 hO rfl rfl (fun w hO => ?_)
    simp only [List.set_cons_zero, List.set_cons_succ] at hO
    refine o_done (da_end (by kernel_rfl) ?_)
    refine K3 (K0 (K1 (V1 rfl rfl rfl (V2 rfl rfl rfl (K2 (K3 (K6 ?_)))))))
    have hO := sls_cut (hO.ks [.p q]) (l.length - 1) d (by omega) (by omega) (Nat.le_refl _)
    exact fin1 rfl rfl ⟨_, ⟨rfl, rfl⟩, (rstkL_shut (hO.ks [.b t, .p q]) (by first | (simp; done) | (simp; omega))).one⟩
  · refine K2 (K3 (L9 (K5 (K3 (K0 (K1 (V1 rfl rfl rfl (V2 rfl rfl rfl (K2 (K3 (K6 ?_)))))))))))
    have hO := sls_cut (hO.ks [.p q]) (l.length - 1) d (by omega) (by omega) (Nat.le_refl _)
    exact fin1 rfl rfl ⟨_, ⟨rfl, rfl⟩, (rstkL_shut (hO.ks [.b t, .p q]) (by first | (simp; done) | (simp; omega))).one⟩
theorem tRemove_spec (hnd : l.Nodup) (hl : l.length ≤ 1000000) (hO : Own k w [rstkL t r l]) :
  Tri Tryz.prog 89 #[.pointer (some ⟨t, 0, none⟩), .int .i64 id] k w fun v m => v = .int .i64 (removeL l id).1 ∧ m = [rstkL t r (removeL l id).2] := by
 refine enter (args := [.pointer (some ⟨t, 0, none⟩), .int .i64 id]) Tryz.func89 rfl rfl ?_
 have hfl := findI_lt (l := l) (x := id)
 refine K0 (K1 (V2 rfl rfl rfl (K2 (K3 (K0 (K1 (V1 rfl rfl rfl (V1 rfl rfl rfl (CK [.o t] hO rfl (fun k' hx hr hO' => tFind_spec hnd hl (hO := hO')) ?_)))))))))
 rintro _ _ w ⟨rfl, rfl⟩ hO
 simp only [List.cons_append, List.nil_append] at hO
 refine V2 rfl rfl rfl (K2 (K3 (K0 (K0 (K1 (V1 rfl rfl rfl ?_))))))
 refine Z0 (fun h2_1 => ?_) (fun h2_1 => ?_)
 ·refine K2 (K3 (L8 (K0 (K1 (V2 rfl rfl rfl (K2 (K3 (K6 (K9 ?_)))))))))
  exact fin1 rfl rfl ⟨_, ⟨by rw [removeL, if_pos h2_1], rfl⟩, by rw [removeL, if_pos h2_1]; exact hO⟩
 ·refine K2 (K3 (L9 (K5 (K3 (K0 ?_)))))
  obtain ⟨q, d, hq, hld, hO⟩ := rstkL_open hO
  have er : removeL l id = (0, l.take (findI l id).toNat ++ l.drop ((findI l id).toNat + 1)) := by rw [removeL, if_neg h2_1]
  have e9 : (findI l id + 1 : Int).toNat = (findI l id).toNat + 1 := by omega
  have htl : (l.take (findI l id).toNat).length ≤ 1000000 := by simp; omega
  have hdl : (l.drop (findI l id + 1 : Int).toNat).length ≤ 1000000 := by simp; omega
  rw [er]
  refine K1 (s_lit0 (eI .i64) hO (fun b12 w hO => ?_))
  refine V1 rfl rfl rfl (V3 rfl rfl rfl rfl (l_y rfl rfl (y_fldb (o' := 1) rfl) (l_y rfl rfl (D5 hO rfl) ?_)))
  refine V1 rfl rfl rfl (l_y rfl rfl (y_hd ((findI l (id)) : Int).toNat rfl rfl) ?_)
  have hv0 := sls_sli (p := q) hO
  have hv := sli_hd (cuts_holds w) hv0 (findI l id).toNat d (by omega) (by omega)
  refine s_app0 hO rfl rfl (src_sli hv) (fun p19 c19 w hO gs19 => ?_)
  refine V2 rfl rfl rfl (K2 (K3 (K0 (K1 (V1 rfl rfl rfl (V1 rfl rfl rfl (V1 rfl rfl rfl (V3 rfl rfl rfl rfl (l_y rfl rfl (y_fldb (o' := 1) rfl) (l_y rfl rfl (D5 hO rfl) ?_))))))))))
  refine V1 rfl rfl rfl (l_y rfl rfl (D4) ?_)
  refine l_y rfl rfl (y_tl (((findI l (id)) + 1) : Int).toNat rfl rfl) ?_
  have hv0 := sls_sli (p := q) hO
  have hv := sli_tl (cuts_holds w) hv0 (findI l id + 1 : Int).toNat (by omega)
  refine s_app (xs := l.take (findI l id).toNat) hO rfl rfl (src_sli hv) (fun p29 c29 w hO gs29 => ?_)
  rw [e9] at hO gs29 ⊢
  refine V3 rfl rfl rfl rfl (l_y rfl rfl (y_fldb (o' := 1) rfl) (Y1 hO rfl rfl (fun w hO => ?_)))
  simp only [List.set_cons_zero, List.set_cons_succ] at hO
  refine K2 (K3 (K0 (K1 (V2 rfl rfl rfl (K2 (K3 (K6 ?_)))))))
  exact fin1 rfl rfl ⟨_, ⟨rfl, rfl⟩, (rstkL_shut (hO.ks [.b t, .p p29])).one⟩
theorem tPush_spec (s : Sim A K R) (hnd : l.Nodup) (hl : l.length ≤ 1000000) (hO : Own k w [rarL r R, rstkL t r l]) :
  Tri Tryz.prog 30 #[.pointer (some ⟨t, 0, none⟩), .int .i64 id] k w fun v m => v = .int .i64 (freshE A l id) ∧ m = [rarL r R, rstkL t r (if freshE A l id = 0 then l ++ [id] else l)] := by
 refine enter (args := [.pointer (some ⟨t, 0, none⟩), .int .i64 id]) Tryz.func30 rfl rfl ?_
 obtain ⟨p, c, F, hg, hF, hO⟩ := rarL_open hO
 obtain ⟨q, d, hq, hld, hO⟩ := rstkL_open (hO.ks [.o t])
 have hf := freshE_cases A l id
 refine K0 (K1 (V2 rfl rfl rfl (K2 (K3 (K0 (K0 (K1 (V1 rfl rfl rfl (V3 rfl rfl rfl rfl (l_y rfl rfl (y_fldb (o' := 0) rfl) (l_y rfl rfl (D5 hO rfl) ?_)))))))))))
 refine V1 rfl rfl rfl (CK [.b r, .p p] hO rfl (fun k' hx hr hO' => tEl_spec s hg (hO := hO')) ?_)
 rintro _ _ w ⟨rfl, rfl⟩ hO
 simp only [List.cons_append, List.nil_append] at hO
 refine l_y rfl rfl (y_not rfl rfl) (K2 (K3 ?_))
 refine c_split rfl (fun hc11 => ?_) (fun hc11 => ?_)
 ·simp only [Bool.not_eq_true', Bool.not_eq_false'] at hc11
  refine K0 (K1 (V2 rfl rfl rfl (K2 (K3 (K6 (K9 ?_))))))
  have h0 : freshE A l id = 6 := by rcases hf with ⟨h, _⟩ | ⟨_, h, _⟩ | ⟨_, h, _⟩ <;> first | exact h | (rw [h] at hc11; simp at hc11)
  rw [h0, if_neg (by omega)]
  exact fin1 rfl rfl ⟨_, ⟨rfl, rfl⟩, ((rarL_shut hF ((rstkL_shut (hO.ks [.b t, .p q])).ks [.b r, .p p, .f])).ks [.o r, .o t]).two⟩
 ·simp only [Bool.not_eq_true', Bool.not_eq_false'] at hc11
  refine K5 (K3 (K0 (K0 ?_)))
  have hO := rstkL_shut (hO.ks [.b t, .p q])
  refine K1 (V1 rfl rfl rfl (V1 rfl rfl rfl (CK [.o t] hO rfl (fun k' hx hr hO' => tFind_spec hnd hl (hO := hO')) ?_)))
  rintro _ _ w ⟨rfl, rfl⟩ hO
  simp only [List.cons_append, List.nil_append] at hO
  refine Z0 (fun h3_3 => ?_) (fun h3_3 => ?_)
  ·refine K2 (K3 (L8 (K0 (K1 (V2 rfl rfl rfl (K2 (K3 (K6 (K9 ?_)))))))))
   have h0 : freshE A l id = 1 := by rcases hf with ⟨_, h⟩ | ⟨h, _, _⟩ | ⟨_, _, h⟩ <;> first | exact h | omega | (rw [h] at hc11; simp at hc11)
   rw [h0, if_neg (by omega)]
   exact fin1 rfl rfl ⟨_, ⟨rfl, rfl⟩, ((rarL_shut hF (hO.ks [.b r, .p p, .f])).ks [.o r, .o t]).two⟩
  ·refine K2 (K3 (L9 (K5 (K3 (K0 ?_)))))
   obtain ⟨q, d, hq, hld, hO⟩ := rstkL_open hO
   have h0 : freshE A l id = 0 := by rcases hf with ⟨_, h⟩ | ⟨_, _, h⟩ | ⟨h, _, _⟩ <;> first | exact h | omega | (rw [h] at hc11; simp at hc11)
   rw [h0, if_pos rfl]
   refine K1 (V1 rfl rfl rfl (V1 rfl rfl rfl (V3 rfl rfl rfl rfl (l_y rfl rfl (y_fldb (o' := 1) rfl) (l_y rfl rfl (D5 hO rfl) ?_)))))
   refine V1 rfl rfl rfl (s_lit (parts := [(0, .tmp 21)]) (enc := (eI .i64)) [id] [.int .i64 id] hO rfl (fun b22 w hO => ?_))
   refine s_app hO rfl rfl (src_own hO) (fun p23 c23 w hO gs23 => ?_)
   refine V3 rfl rfl rfl rfl (l_y rfl rfl (y_fldb (o' := 1) rfl) (Y1 hO rfl rfl (fun w hO => ?_)))
   simp only [List.set_cons_zero, List.set_cons_succ] at hO
   refine K2 (K3 (K0 (K1 (V2 rfl rfl rfl (K2 (K3 (K6 ?_)))))))
   exact fin1 rfl rfl ⟨_, ⟨rfl, rfl⟩, ((rarL_shut hF ((rstkL_shut (hO.ks [.b t, .p p23])).ks [.b r, .p p, .f])).ks [.o r, .o t]).two⟩
theorem tPut_spec {i : Int} (s : Sim A K R) (hnd : l.Nodup) (hl : l.length ≤ 1000000) (hO : Own k w [rarL r R, rstkL t r l]) :
  Tri Tryz.prog 90 #[.pointer (some ⟨t, 0, none⟩), .int .i64 i, .int .i64 id] k w fun v m => v = .int .i64 (putL A l i id).1 ∧ m = [rarL r R, rstkL t r (putL A l i id).2] := by
 refine enter (args := [.pointer (some ⟨t, 0, none⟩), .int .i64 i, .int .i64 id]) Tryz.func90 rfl rfl ?_
 obtain ⟨p, c, F, hg, hF, hO⟩ := rarL_open hO
 obtain ⟨q, d, hq, hld, hO⟩ := rstkL_open (hO.ks [.o t])
 have hf := freshE_cases A l id
 refine K0 (K1 (V2 rfl rfl rfl (K2 (K3 (K0 (K0 (K1 (V1 rfl rfl rfl (V3 rfl rfl rfl rfl (l_y rfl rfl (y_fldb (o' := 0) rfl) (l_y rfl rfl (D5 hO rfl) ?_)))))))))))
 refine V1 rfl rfl rfl (CK [.b r, .p p] hO rfl (fun k' hx hr hO' => tEl_spec s hg (hO := hO')) ?_)
 rintro _ _ w ⟨rfl, rfl⟩ hO
 simp only [List.cons_append, List.nil_append] at hO
 refine l_y rfl rfl (y_not rfl rfl) (K2 (K3 ?_))
 refine c_split rfl (fun hc14 => ?_) (fun hc14 => ?_)
 ·simp only [Bool.not_eq_true', Bool.not_eq_false'] at hc14
  refine K0 (K1 (V2 rfl rfl rfl (K2 (K3 (K6 (K9 ?_))))))
  have h0 : freshE A l id = 6 := by rcases hf with ⟨h, _⟩ | ⟨_, h, _⟩ | ⟨_, h, _⟩ <;> first | exact h | (rw [h] at hc14; simp at hc14)
  have er : putL A l i id = (6, l) := by rw [putL, h0, if_pos (by omega)]
  rw [er]
  exact fin1 rfl rfl ⟨_, ⟨rfl, rfl⟩, ((rarL_shut hF ((rstkL_shut (hO.ks [.b t, .p q])).ks [.b r, .p p, .f])).ks [.o r, .o t]).two⟩
 ·simp only [Bool.not_eq_true', Bool.not_eq_false'] at hc14
  refine K5 (K3 (K0 (K0 (K1 (V1 rfl rfl rfl (V1 rfl rfl rfl (CK [.b t, .p q] hO rfl (fun k' hx hr hO' => tFind_spec hnd hl (hO := rstkL_shut hO')) ?_)))))))
  rintro _ _ w ⟨rfl, rfl⟩ hO
  simp only [List.cons_append, List.nil_append] at hO
  obtain ⟨q, d, hq, hld, hO⟩ := rstkL_open hO
  refine Z0 (fun h3_3 => ?_) (fun h3_3 => ?_)
  ·refine V1 rfl rfl rfl ?_
   repeat refine M2 ?_
   refine l_y rfl rfl (y_pick_t rfl rfl) (V1 rfl rfl rfl ?_)
   repeat refine M2 ?_
   refine l_y rfl rfl (y_pick_t rfl rfl) (K2 (K3 (L8 (K0 (K1 (V2 rfl rfl rfl (K2 (K3 (K6 (K9 ?_))))))))))
   have er : putL A l i id = (1, l) := by
    rcases hf with ⟨_, h⟩ | ⟨h, _, _⟩ | ⟨h, _, _⟩
    ·rw [h] at hc14; simp at hc14
    ·rw [putL, h, if_pos (by omega)]
    ·rw [putL, if_neg (by simpa using h), if_pos (by omega)]
   rw [er]
   exact fin1 rfl rfl ⟨_, ⟨rfl, rfl⟩, ((rarL_shut hF ((rstkL_shut (hO.ks [.b t, .p q])).ks [.b r, .p p, .f])).ks [.o r, .o t]).two⟩
  ·refine V1 rfl rfl rfl (V1 rfl rfl rfl ?_)
   refine Z0 (fun h3_6 => ?_) (fun h3_6 => ?_)
   ·refine l_y rfl rfl (y_pick_f rfl rfl) (V1 rfl rfl rfl ?_)
    repeat refine M2 ?_
    refine l_y rfl rfl (y_pick_t rfl rfl) (K2 (K3 (L8 (K0 (K1 (V2 rfl rfl rfl (K2 (K3 (K6 (K9 ?_))))))))))
    have er : putL A l i id = (1, l) := by
     rcases hf with ⟨_, h⟩ | ⟨h, _, _⟩ | ⟨h, _, _⟩
     ·rw [h] at hc14; simp at hc14
     ·rw [putL, h, if_pos (by omega)]
     ·rw [putL, if_neg (by simpa using h), if_pos (by omega)]
    rw [er]
    exact fin1 rfl rfl ⟨_, ⟨rfl, rfl⟩, ((rarL_shut hF ((rstkL_shut (hO.ks [.b t, .p q])).ks [.b r, .p p, .f])).ks [.o r, .o t]).two⟩
   ·refine l_y rfl rfl (y_pick_f rfl rfl) (V1 rfl rfl rfl (V1 rfl rfl rfl (V1 rfl rfl rfl (V3 rfl rfl rfl rfl (l_y rfl rfl (y_fldb (o' := 1) rfl) (l_y rfl rfl (D5 hO rfl) ?_))))))
    refine l_y rfl rfl (y_lenL rfl) ?_
    refine Z0 (fun h3_15 => ?_) (fun h3_15 => ?_)
    ·refine l_y rfl rfl (y_pick_f rfl rfl) (K2 (K3 (L8 (K0 (K1 (V2 rfl rfl rfl (K2 (K3 (K6 (K9 ?_))))))))))
     have er : putL A l i id = (1, l) := by
      rcases hf with ⟨_, h⟩ | ⟨h, _, _⟩ | ⟨h, _, _⟩
      ·rw [h] at hc14; simp at hc14
      ·rw [putL, h, if_pos (by omega)]
      ·rw [putL, if_neg (by simpa using h), if_pos (by omega)]
     rw [er]
     exact fin1 rfl rfl ⟨_, ⟨rfl, rfl⟩, ((rarL_shut hF ((rstkL_shut (hO.ks [.b t, .p q])).ks [.b r, .p p, .f])).ks [.o r, .o t]).two⟩
    ·refine l_y rfl rfl (y_pick_f rfl rfl) (K2 (K3 (L9 (K5 (K3 (K0 ?_))))))
     have h0 : freshE A l id = 0 := by rcases hf with ⟨_, h⟩ | ⟨_, _, h⟩ | ⟨h, _, _⟩ <;> first | exact h | omega | (rw [h] at hc14; simp at hc14)
     have er : putL A l i id = (0, l.take i.toNat ++ [id] ++ l.drop i.toNat) := by rw [putL, if_neg (by simpa using h0), if_neg (by omega)]
     have htl : (l.take i.toNat).length ≤ 1000000 := by simp; omega
     have hdl : (l.drop i.toNat).length ≤ 1000000 := by simp; omega
     rw [er]
     refine K1 (s_lit0 (eI .i64) hO (fun b32 w hO => ?_))
     refine V1 rfl rfl rfl (V3 rfl rfl rfl rfl (l_y rfl rfl (y_fldb (o' := 1) rfl) (l_y rfl rfl (D5 hO rfl) ?_)))
     refine V1 rfl rfl rfl (l_y rfl rfl (y_hd (i : Int).toNat rfl rfl) ?_)
     have hv0 := sls_sli (p := q) hO
     have hv := sli_hd (cuts_holds w) hv0 i.toNat d (by omega) (by omega)
     refine s_app0 hO rfl rfl (src_sli hv) (fun p39 c39 w hO gs39 => ?_)
     refine V2 rfl rfl rfl (K2 (K3 (K0 (K1 (V1 rfl rfl rfl (V1 rfl rfl rfl (s_lit (parts := [(0, .tmp 41)]) (enc := (eI .i64)) [id] [.int .i64 id] hO rfl (fun b42 w hO => ?_))))))))
     refine s_app hO rfl rfl (src_own hO) (fun p43 c43 w hO gs43 => ?_)
     refine V2 rfl rfl rfl (K2 (K3 (K0 (K1 (V1 rfl rfl rfl (V1 rfl rfl rfl (V1 rfl rfl rfl (V3 rfl rfl rfl rfl (l_y rfl rfl (y_fldb (o' := 1) rfl) (l_y rfl rfl (D5 hO rfl) ?_))))))))))
     refine V1 rfl rfl rfl (l_y rfl rfl (y_tl (i : Int).toNat rfl rfl) ?_)
     have hv0 := sls_sli (p := q) hO
     have hv := sli_tl (cuts_holds w) hv0 i.toNat (by omega)
     refine s_app (xs := l.take i.toNat ++ [id]) hO rfl rfl (src_sli hv) (fun p52 c52 w hO gs52 => ?_)
     refine V3 rfl rfl rfl rfl (l_y rfl rfl (y_fldb (o' := 1) rfl) (Y1 hO rfl rfl (fun w hO => ?_)))
     simp only [List.set_cons_zero, List.set_cons_succ] at hO
     refine K2 (K3 (K0 (K1 (V2 rfl rfl rfl (K2 (K3 (K6 ?_)))))))
     exact fin1 rfl rfl ⟨_, ⟨rfl, rfl⟩, ((rarL_shut hF ((rstkL_shut (hO.ks [.b t, .p p52])).ks [.b r, .p p, .f])).ks [.o r, .o t]).two⟩
theorem set_split {l : List Int} {i : Nat} (h : i < l.length) (x : Int) : l.set i x = l.take i ++ [x] ++ l.drop (i + 1) := by
 rw [List.set_eq_take_append_cons_drop, if_pos h]; simp
theorem tSwap_spec {old : Int} (s : Sim A K R) (hnd : l.Nodup) (hl : l.length ≤ 1000000) (hO : Own k w [rarL r R, rstkL t r l]) :
  Tri Tryz.prog 113 #[.pointer (some ⟨t, 0, none⟩), .int .i64 old, .int .i64 id] k w fun v m => v = .int .i64 (swapL A l old id).1 ∧ m = [rarL r R, rstkL t r (swapL A l old id).2] := by
 refine enter (args := [.pointer (some ⟨t, 0, none⟩), .int .i64 old, .int .i64 id]) Tryz.func113 rfl rfl ?_
 obtain ⟨p, c, F, hg, hF, hO⟩ := rarL_open hO
 have hf := freshE_cases A l id
 have hfl := findI_lt (l := l) (x := old)
 refine K0 (K1 (V2 rfl rfl rfl (K2 (K3 (K0 (K1 (V1 rfl rfl rfl (V1 rfl rfl rfl (CK [.o t] hO rfl (fun k' hx hr hO' => tFind_spec hnd hl (hO := hO')) ?_)))))))))
 rintro _ _ w ⟨rfl, rfl⟩ hO
 simp only [List.cons_append, List.nil_append] at hO
 refine V2 rfl rfl rfl (K2 (K3 (K0 (K0 ?_))))
 obtain ⟨q, d, hq, hld, hO⟩ := rstkL_open (hO.ks [.o t])
 refine K1 (V1 rfl rfl rfl (V3 rfl rfl rfl rfl (l_y rfl rfl (y_fldb (o' := 0) rfl) (l_y rfl rfl (D5 hO rfl) ?_))))
 refine V1 rfl rfl rfl (CK [.b r, .p p] hO rfl (fun k' hx hr hO' => tEl_spec s hg (hO := hO')) ?_)
 rintro _ _ w ⟨rfl, rfl⟩ hO
 simp only [List.cons_append, List.nil_append] at hO
 refine l_y rfl rfl (y_not rfl rfl) (V1 rfl rfl rfl ?_)
 refine l_split 18 rfl (fun hg18 => ?_) (fun hg18 => ?_)
 ·simp only [Bool.not_eq_true', Bool.not_eq_false'] at hg18
  repeat refine M2 ?_
  refine l_y rfl rfl (y_pick_t rfl rfl) (K2 (K3 (L8 (K0 (K1 (V2 rfl rfl rfl (K2 (K3 (K6 (K9 ?_))))))))))
  have er : swapL A l old id = (6, l) := by rw [swapL, if_pos (by first | exact .inl (by simpa using hg18) | exact .inr (by omega))]
  rw [er]
  exact fin1 rfl rfl ⟨_, ⟨rfl, rfl⟩, ((rarL_shut hF ((rstkL_shut (hO.ks [.b t, .p q])).ks [.b r, .p p, .f])).ks [.o r, .o t]).two⟩
 ·simp only [Bool.not_eq_true', Bool.not_eq_false'] at hg18
  refine V1 rfl rfl rfl ?_
  refine Z0 (fun h2_9 => ?_) (fun h2_9 => ?_)
  ·refine l_y rfl rfl (y_pick_f rfl rfl) (K2 (K3 (L8 (K0 (K1 (V2 rfl rfl rfl (K2 (K3 (K6 (K9 ?_))))))))))
   have er : swapL A l old id = (6, l) := by rw [swapL, if_pos (by first | exact .inl (by simpa using hg18) | exact .inr (by omega))]
   rw [er]
   exact fin1 rfl rfl ⟨_, ⟨rfl, rfl⟩, ((rarL_shut hF ((rstkL_shut (hO.ks [.b t, .p q])).ks [.b r, .p p, .f])).ks [.o r, .o t]).two⟩
  ·refine l_y rfl rfl (y_pick_f rfl rfl) (K2 (K3 (L9 (K5 (K3 (K0 (K0 (K1 (V1 rfl rfl rfl (V1 rfl rfl rfl (CK [.b t, .p q] hO rfl (fun k' hx hr hO' => tFind_spec hnd hl (hO := rstkL_shut hO')) ?_)))))))))))
   rintro _ _ w ⟨rfl, rfl⟩ hO
   simp only [List.cons_append, List.nil_append] at hO
   obtain ⟨q, d, hq, hld, hO⟩ := rstkL_open hO
   refine Z0 (fun h4_3 => ?_) (fun h4_3 => ?_)
   ·refine K2 (K3 (L8 (K0 (K1 (V2 rfl rfl rfl (K2 (K3 (K6 (K9 ?_)))))))))
    have hel : elB A id = true := by simpa using hg18
    have h0 : freshE A l id = 1 := by rcases hf with ⟨_, h⟩ | ⟨h, _, _⟩ | ⟨_, _, h⟩ <;> first | exact h | omega | (rw [h] at hel; simp at hel)
    have er : swapL A l old id = (1, l) := by rw [swapL, if_neg (by simp [hel]; omega), if_neg (by omega)]
    rw [er]
    exact fin1 rfl rfl ⟨_, ⟨rfl, rfl⟩, ((rarL_shut hF ((rstkL_shut (hO.ks [.b t, .p q])).ks [.b r, .p p, .f])).ks [.o r, .o t]).two⟩
   ·refine K2 (K3 (L9 (K5 (K3 (K0 ?_)))))
    have hel : elB A id = true := by simpa using hg18
    have h0 : freshE A l id = 0 := by rcases hf with ⟨_, h⟩ | ⟨_, _, h⟩ | ⟨h, _, _⟩ <;> first | exact h | omega | (rw [h] at hel; simp at hel)
    have er : swapL A l old id = (0, l.set (findI l old).toNat id) := by rw [swapL, if_neg (by simp [hel]; omega), if_pos h0, set_split (by omega)]
    rw [er]
    refine K1 (V1 rfl rfl rfl (s_lit0 (eI .i64) hO (fun b27 w hO => ?_)))
    refine V1 rfl rfl rfl (V3 rfl rfl rfl rfl (l_y rfl rfl (y_fldb (o' := 1) rfl) (l_y rfl rfl (D5 hO rfl) ?_)))
    refine s_app0 hO rfl rfl (src_own hO) (fun p32 c32 w hO gs32 => ?_)
    refine V3 rfl rfl rfl rfl (l_y rfl rfl (y_fldb (o' := 1) rfl) (Y1 hO rfl rfl (fun w hO => ?_)))
    simp only [List.set_cons_zero, List.set_cons_succ] at hO
    refine K2 (K3 (K0 (K1 (V1 rfl rfl rfl (V3 rfl rfl rfl rfl (l_y rfl rfl (y_fldb (o' := 1) rfl) (l_y rfl rfl (D5 hO rfl) ?_)))))))
    refine V1 rfl rfl rfl (V1 rfl rfl rfl (l_y rfl rfl (y_idx rfl rfl) ?_))
    refine s_e1 (x0 := 0) hO rfl rfl (fun w hO => ?_)
    refine K2 (K3 (K0 (K1 (V2 rfl rfl rfl (K2 (K3 (K6 ?_)))))))
    exact fin1 rfl rfl ⟨_, ⟨rfl, rfl⟩, ((rarL_shut hF ((rstkL_shut (hO.ks [.b t, .p p32]) (by simp)).ks [.b r, .p p, .f])).ks [.o r, .o t]).two⟩
end
end Go.Proofs.YtoohapbaelmkcaaGreat
end
section
set_option maxRecDepth 100000
namespace Go.Proofs.YtoohapbaelmkcaaGreat
open Go Go.Hb Go.RowKit
theorem scope_end {A : List Node_one} {is : Int → Bool} {kind : Int} {l : List Int} {i : Int} (hs : scopeG is (bdA A kind) l = scopeG is (bdA A kind) (l.take (i + 1).toNat)) (h : i < 0 ∨ kind < 0 ∨ 4 < kind) : scopeL A is kind l = false := by
 unfold scopeL
 by_cases hk : kind < 0 ∨ 4 < kind
 ·rw [if_pos hk]
 ·rw [if_neg hk, hs, show (i + 1).toNat = 0 by omega]; rfl
section
variable {k : Ctx} {w : World} {r t c : Nat} {p : Option Addr} {A : List Node_one} {K : Int → List Int} {R : List Ref01_one} {l : List Int} {id kind : Int} {name : ByteArray}
set_option maxHeartbeats 1000000 in
theorem tNodeScope_spec (s : Sim A K R) (hsp : SpOk A) (hel : AllEl A l) (hl : l.length ≤ 1000000) (hO : Own k w [rarL r R, rstkL t r l]) :
  Tri Tryz.prog 81 #[.pointer (some ⟨t, 0, none⟩), .int .i64 id, .int .i64 kind] k w fun v m => v = .bool (scopeL A (fun x => decide (x = id)) kind l) ∧ m = [rarL r R, rstkL t r l] := by
 refine enter (args := [.pointer (some ⟨t, 0, none⟩), .int .i64 id, .int .i64 kind]) Tryz.func81 rfl rfl ?_
 obtain ⟨p, c, F, hg, hF, hO⟩ := rarL_open hO
 obtain ⟨q, d, hq, hld, hO⟩ := rstkL_open (hO.ks [.o t])
 refine K0 (K1 (V2 rfl rfl rfl (K2 (K3 (K0 (K0 (K1 (V1 rfl rfl rfl (V3 rfl rfl rfl rfl (l_y rfl rfl (y_fldb (o' := 1) rfl) (l_y rfl rfl (D5 hO rfl) ?_)))))))))))
 refine l_y rfl rfl (y_lenL rfl) (l_y rfl rfl (D4) ?_)
 refine V2 rfl rfl rfl (K2 (K3 (K4 (c_rounds (X := Int) (fun i => [(0, .pointer (some ⟨t, 0, none⟩)), (1, .int .i64 id), (2, .int .i64 kind), (6, .bool false), (7, .int .i64 i)]) (fun i w => Own k w [rB r p R.length c, rS p c R, pool F, tB t r q l.length d, sI q d l] ∧ (-1 ≤ i ∧ i < l.length) ∧ (scopeG (fun x => decide (x = id)) (bdA A kind) l = scopeG (fun x => decide (x = id)) (bdA A kind) (l.take (i + 1).toNat))) (fun i => (i + 1).toNat) ((l.length : Int) - 1) ⟨rfl, rfl, rfl, rfl, rfl, trivial⟩ ⟨hO.only [.b r, .p p, .f, .b t, .p q], ⟨by omega, by omega⟩, by rw [List.take_of_length_le (by omega)]⟩ ?_))))
 rintro i w m hm ⟨hO, hi, hs⟩
 refine K0 (K0 (K1 (V1 rfl rfl rfl ?_)))
 refine Z0 (fun h2_1 => ?_) (fun h2_1 => ?_)
 ·refine V1 rfl rfl rfl (V1 rfl rfl rfl ?_)
  refine Z0 (fun h2_4 => ?_) (fun h2_4 => ?_)
  ·refine l_y rfl rfl (y_pick_t rfl rfl) (V1 rfl rfl rfl (V1 rfl rfl rfl ?_))
   refine Z0 (fun h2_8 => ?_) (fun h2_8 => ?_)
   ·refine l_y rfl rfl (y_pick_t rfl rfl) (K2 (K3 (L8 (K5 (K3 (K0 (K4 (K0 (K0 ?_)))))))))
    have hxe : elB A (at_ l i.toNat) = true := hel _ (at_mem (by omega))
    have hk : scopeL A (fun x => decide (x = id)) kind l = scopeG (fun x => decide (x = id)) (bdA A kind) l := by rw [scopeL, if_neg (by omega)]
    have hs2 := hs
    rw [show (i + 1).toNat = i.toNat + 1 by omega, take_succ_at (by omega), scopeG_snoc] at hs2
    refine K1 (V1 rfl rfl rfl (V3 rfl rfl rfl rfl (l_y rfl rfl (y_fldb (o' := 1) rfl) (l_y rfl rfl (D5 hO rfl) ?_))))
    refine V1 rfl rfl rfl (l_y rfl rfl (y_idx rfl rfl) ?_)
    refine l_y rfl rfl (y_e1 (x0 := 0) hO rfl) ?_
    refine V1 rfl rfl rfl ?_
    refine Z0 (fun h4_8 => ?_) (fun h4_8 => ?_)
    ·refine K2 (K3 (L8 (K0 (K1 (V2 rfl rfl rfl (K2 (K3 (K6 (K9 (L0 (K9 (K9 (L0 (K9 ?_))))))))))))))
     exact fin1 rfl rfl ⟨_, ⟨by rw [hk, hs2, if_pos (by first | (simpa [hxe] using hc35) | simpa using h4_8)], rfl⟩, ((rarL_shut hF ((rstkL_shut (hO.ks [.b t, .p q])).ks [.b r, .p p, .f])).ks [.o r, .o t]).two⟩
    ·refine K2 (K3 (L9 (K5 (K3 (K0 ?_)))))
     have hno : ¬ (fun x => decide (x = id)) (at_ l i.toNat) = true := by first | (simpa [hxe] using hc35) | simpa using h4_8
     refine K1 (V1 rfl rfl rfl (V1 rfl rfl rfl (V3 rfl rfl rfl rfl (l_y rfl rfl (y_fldb (o' := 1) rfl) (l_y rfl rfl (D5 hO rfl) ?_)))))
     refine V1 rfl rfl rfl (l_y rfl rfl (y_idx rfl rfl) ?_)
     refine l_y rfl rfl (y_e1 (x0 := 0) hO rfl) ?_
     refine V1 rfl rfl rfl (CK [.b r, .p p, .b t] hO rfl (fun k' hx hr hO' => tborder_spec s hsp hxe hg (hO := hO')) ?_)
     rintro _ _ w ⟨rfl, rfl⟩ hO
     simp only [List.cons_append, List.nil_append] at hO
     refine K2 (K3 ?_)
     refine c_split rfl (fun hc44 => ?_) (fun hc44 => ?_)
     ·refine K0 (K1 (V2 rfl rfl rfl (K2 (K3 (K6 (L0 (K9 (K9 (L0 (K9 ?_))))))))))
      exact fin1 rfl rfl ⟨_, ⟨by rw [hk, hs2, if_neg hno, if_pos (by first | exact hc45 | exact hc44)], rfl⟩, ((rarL_shut hF ((rstkL_shut (hO.ks [.b t, .p q])).ks [.b r, .p p, .f])).ks [.o r, .o t]).two⟩
     ·refine K5 (K8 (K3 (K1 (V1 rfl rfl rfl (l_y rfl rfl (D4) ?_)))))
      refine V2 rfl rfl rfl (K2 ?_)
      exact q_next (i - 1) ⟨rfl, rfl, rfl, rfl, rfl, trivial⟩ ⟨hO.only [.b r, .p p, .f, .b t, .p q], ⟨by omega, by omega⟩, by rw [hs2, if_neg hno, if_neg (by first | simp [hc45] | simp [hc44]), show (i - 1 + 1).toNat = i.toNat by omega]⟩ (by omega)
   ·refine l_y rfl rfl (y_pick_t rfl rfl) (K2 (K3 (L9 (K7 (L1 (L1 (L2 (K3 (K0 (K1 (V2 rfl rfl rfl (K2 (K3 (K6 ?_))))))))))))))
    rw [scope_end hs (by omega)]
    exact fin1 rfl rfl ⟨_, ⟨rfl, rfl⟩, ((rarL_shut hF ((rstkL_shut (hO.ks [.b t, .p q])).ks [.b r, .p p, .f])).ks [.o r, .o t]).two⟩
  ·refine l_y rfl rfl (y_pick_t rfl rfl) (V1 rfl rfl rfl ?_)
   repeat refine M2 ?_
   refine l_y rfl rfl (y_pick_f rfl rfl) (K2 (K3 (L9 (K7 (L1 (L1 (L2 (K3 (K0 (K1 (V2 rfl rfl rfl (K2 (K3 (K6 ?_))))))))))))))
   rw [scope_end hs (by omega)]
   exact fin1 rfl rfl ⟨_, ⟨rfl, rfl⟩, ((rarL_shut hF ((rstkL_shut (hO.ks [.b t, .p q])).ks [.b r, .p p, .f])).ks [.o r, .o t]).two⟩
 ·refine V1 rfl rfl rfl ?_
  repeat refine M2 ?_
  refine l_y rfl rfl (y_pick_f rfl rfl) (V1 rfl rfl rfl ?_)
  repeat refine M2 ?_
  refine l_y rfl rfl (y_pick_f rfl rfl) (K2 (K3 (L9 (K7 (L1 (L1 (L2 (K3 (K0 (K1 (V2 rfl rfl rfl (K2 (K3 (K6 ?_))))))))))))))
  rw [scope_end hs (by omega)]
  exact fin1 rfl rfl ⟨_, ⟨rfl, rfl⟩, ((rarL_shut hF ((rstkL_shut (hO.ks [.b t, .p q])).ks [.b r, .p p, .f])).ks [.o r, .o t]).two⟩
theorem tSpecial_spec (s : Sim A K R) (hO : Own k w [rarL r R, rstkL t r l]) :
    Tri Tryz.prog 111 #[.pointer (some ⟨t, 0, none⟩), .int .i64 id] k w fun v m => v = .bool (specA A id) ∧ m = [rarL r R, rstkL t r l] := by
  refine enter (args := [.pointer (some ⟨t, 0, none⟩), .int .i64 id]) Tryz.func111 rfl rfl ?_
  obtain ⟨p, c, F, hg, hF, hO⟩ := rarL_open hO
  obtain ⟨q, d, hq, hld, hO⟩ := rstkL_open (hO.ks [.o t])
  refine K0 (K1 (V2 rfl rfl rfl (K2 (K3 (K0 (K0 (K1 (V1 rfl rfl rfl (V3 rfl rfl rfl rfl (l_y rfl rfl (y_fldb (o' := 0) rfl) (l_y rfl rfl (D5 hO rfl) ?_)))))))))))
  refine V1 rfl rfl rfl (CK [.b r, .p p] hO rfl (fun k' hx hr hO' => tEl_spec s hg (hO := hO')) ?_)
  rintro _ _ w ⟨rfl, rfl⟩ hO
  simp only [List.cons_append, List.nil_append] at hO
  refine l_y rfl rfl (y_not rfl rfl) (K2 (K3 ?_))
  refine c_split rfl (fun hc12 => ?_) (fun hc12 => ?_)
  · simp only [Bool.not_eq_true', Bool.not_eq_false'] at hc12
    refine K0 (K1 (V2 rfl rfl rfl (K2 (K3 (K6 (K9 ?_))))))
    have hel : elB A id = false := by simpa using hc12
    exact fin1 rfl rfl ⟨_, ⟨by rw [specA, hel]; rfl, rfl⟩, ((rarL_shut hF ((rstkL_shut (hO.ks [.b t, .p q])).ks [.b r, .p p, .f])).ks [.o r, .o t]).two⟩
  · simp only [Bool.not_eq_true', Bool.not_eq_false'] at hc12
    refine K5 (K3 (K0 ?_))
    have hel : elB A id = true := by simpa using hc12
    have hb := elB_has hel
    have hid := hasR_true (by rw [s.has]; exact hb)
    have e1 := (s.atB hb).space
    have e2 := (s.atB hb).name
    have e3 : specA A id = specB (at_ R id.toNat).Space (at_ R id.toNat).Name := by rw [specA, hel, e1, e2]; rfl
    refine K1 (V1 rfl rfl rfl (V3 rfl rfl rfl rfl (l_y rfl rfl (y_fldb (o' := 0) rfl) (l_y rfl rfl (D5 hO rfl) ?_))))
    refine V3 rfl rfl rfl rfl (l_y rfl rfl (y_fldb (o' := 0) rfl) (l_y rfl rfl (D5 hO rfl) ?_))
    refine V1 rfl rfl rfl (l_y rfl rfl (y_idx rfl rfl) ?_)
    refine l_y rfl rfl (y_eA (x0 := 0) (cs := [.int .i64 (at_ R (id : Int).toNat).Kind, .int .i64 (at_ R (id : Int).toNat).Space, .string (at_ R (id : Int).toNat).Name, .slice (at_ R (id : Int).toNat).AttrsP (at_ R (id : Int).toNat).Attrs.length (at_ R (id : Int).toNat).AttrsC, .string (at_ R (id : Int).toNat).Data, .string (at_ R (id : Int).toNat).System, .int .i64 (at_ R (id : Int).toNat).Inner, .int .i64 (at_ R (id : Int).toNat).Host, .int .i64 (at_ R (id : Int).toNat).Up, .slice (at_ R (id : Int).toNat).KidsP (at_ R (id : Int).toNat).Kids.length (at_ R (id : Int).toNat).KidsC]) hO rfl) ?_
    refine s_alloc (vs := [.int .i64 0, .int .i64 0, .string ⟨#[]⟩, .slice none 0 0, .string ⟨#[]⟩, .string ⟨#[]⟩, .int .i64 0, .int .i64 0, .int .i64 0, .slice none 0 0]) hO rfl rfl rfl fun b5 w hO => ?_
    refine Y3 hO rfl rfl (fun w hO => ?_)
    refine K2 (K3 (K0 (K0 (K1 (l_y rfl rfl (y_fldb (o' := 1) rfl) (l_y rfl rfl (D5 hO rfl) ?_))))))
    refine K2 (K3 (K4 (K0 (K1 ?_))))
    refine Z0 (fun h5_0 => ?_) (fun h5_0 => ?_)
    · refine V2 rfl rfl rfl (K2 (K3 (L8 (K0 (da_region (by intro c a d v w h; cases d <;> exact h) ?_)))))
      have hO := hO.drew
      refine da_phase _ [3] (SO.ks [.b b5] hO) ?_
      refine dx_u 1 (by kernel_rfl) rfl rfl rfl (fun w => y_fldb (o' := 2) rfl) ?_
      refine dx_y 2 (by kernel_rfl) rfl rfl rfl (fun w ⟨m, hw⟩ => D5 hw rfl) ?_
      refine dx_only 0 (by kernel_rfl) rfl rfl ?_
      refine CK [] hO rfl (fun k' hx hr hO' => tmath_spec (hO := hO')) ?_
      rintro _ _ w ⟨b27, rfl, rfl⟩ hO
      simp only [List.cons_append, List.nil_append] at hO
      refine o_done (⟨SO.ks [.b b5] hO, ?_⟩)
      refine dx_close 3 (by kernel_rfl) rfl rfl ?_
      refine CK [] hO rfl (fun k' hx hr hO' => tIn_spec (ts := mathL) (sls_roK (p := (some ⟨b27, 0, none⟩)) hr (sls_fct (p := (some ⟨b27, 0, none⟩)) hO)) (by decide) (hO := hO')) ?_
      rintro _ _ w ⟨rfl, rfl⟩ hO
      simp only [List.cons_append, List.nil_append] at hO
      refine o_done (da_phase _ [] (SO.ks [] hO) ?_)
      refine dx_u 4 (by kernel_rfl) rfl rfl rfl (fun w => y_assign rfl) ?_
      refine dx_end (by kernel_rfl) ?_
      refine K3 (K6 (L0 (K9 ?_)))
      exact fin1 rfl rfl ⟨_, ⟨by rw [e3]; clear e1 e2 e3; simp [specB, *], rfl⟩, ((rarL_shut hF ((rstkL_shut (hO.ks [.b t, .p q])).ks [.b r, .p p, .f])).ks [.o r, .o t]).two⟩
    · refine V2 rfl rfl rfl (K2 (K3 (L9 (K0 (K1 ?_)))))
      refine Z0 (fun h7_0 => ?_) (fun h7_0 => ?_)
      · refine V2 rfl rfl rfl (K2 (K3 (L8 (K0 (da_region (by intro c a d v w h; cases d <;> exact h) ?_)))))
        have hO := hO.drew
        refine da_phase _ [3] (SO.ks [.b b5] hO) ?_
        refine dx_u 1 (by kernel_rfl) rfl rfl rfl (fun w => y_fldb (o' := 2) rfl) ?_
        refine dx_y 2 (by kernel_rfl) rfl rfl rfl (fun w ⟨m, hw⟩ => D5 hw rfl) ?_
        refine dx_only 0 (by kernel_rfl) rfl rfl ?_
        refine CK [] hO rfl (fun k' hx hr hO' => tdrawn_spec (hO := hO')) ?_
        rintro _ _ w ⟨b33, rfl, rfl⟩ hO
        simp only [List.cons_append, List.nil_append] at hO
        refine o_done (⟨SO.ks [.b b5] hO, ?_⟩)
        refine dx_close 3 (by kernel_rfl) rfl rfl ?_
        refine CK [] hO rfl (fun k' hx hr hO' => tIn_spec (ts := drawL) (sls_roK (p := (some ⟨b33, 0, none⟩)) hr (sls_fct (p := (some ⟨b33, 0, none⟩)) hO)) (by decide) (hO := hO')) ?_
        rintro _ _ w ⟨rfl, rfl⟩ hO
        simp only [List.cons_append, List.nil_append] at hO
        refine o_done (da_phase _ [] (SO.ks [] hO) ?_)
        refine dx_u 4 (by kernel_rfl) rfl rfl rfl (fun w => y_assign rfl) ?_
        refine dx_end (by kernel_rfl) ?_
        refine K3 (K6 (L0 (K9 ?_)))
        exact fin1 rfl rfl ⟨_, ⟨by rw [e3]; clear e1 e2 e3; simp [specB, *], rfl⟩, ((rarL_shut hF ((rstkL_shut (hO.ks [.b t, .p q])).ks [.b r, .p p, .f])).ks [.o r, .o t]).two⟩
      · refine V2 rfl rfl rfl (K2 (K3 (L9 (K5 (K8 (K3 (K0 (da_region (by intro c a d v w h; cases d <;> exact h) ?_))))))))
        have hO := hO.drew
        refine da_phase _ [3] (SO.ks [.b b5] hO) ?_
        refine dx_u 1 (by kernel_rfl) rfl rfl rfl (fun w => y_fldb (o' := 2) rfl) ?_
        refine dx_y 2 (by kernel_rfl) rfl rfl rfl (fun w ⟨m, hw⟩ => D5 hw rfl) ?_
        refine dx_only 0 (by kernel_rfl) rfl rfl ?_
        refine CK [] hO rfl (fun k' hx hr hO' => tspecial_spec (hO := hO')) ?_
        rintro _ _ w ⟨b37, rfl, rfl⟩ hO
        simp only [List.cons_append, List.nil_append] at hO
        refine o_done (⟨SO.ks [.b b5] hO, ?_⟩)
        refine dx_close 3 (by kernel_rfl) rfl rfl ?_
        refine CK [] hO rfl (fun k' hx hr hO' => tIn_spec (ts := specL) (sls_roK (p := (some ⟨b37, 0, none⟩)) hr (sls_fct (p := (some ⟨b37, 0, none⟩)) hO)) (by decide) (hO := hO')) ?_
        rintro _ _ w ⟨rfl, rfl⟩ hO
        simp only [List.cons_append, List.nil_append] at hO
        refine o_done (da_phase _ [] (SO.ks [] hO) ?_)
        refine dx_u 4 (by kernel_rfl) rfl rfl rfl (fun w => y_assign rfl) ?_
        refine dx_end (by kernel_rfl) ?_
        refine K3 (K6 ?_)
        exact fin1 rfl rfl ⟨_, ⟨by rw [e3]; clear e1 e2 e3; simp [specB, *], rfl⟩, ((rarL_shut hF ((rstkL_shut (hO.ks [.b t, .p q])).ks [.b r, .p p, .f])).ks [.o r, .o t]).two⟩
theorem tNew_spec (hO : Own k w [rarL r R]) :
  Tri Tryz.prog 26 #[.pointer (some ⟨r, 0, none⟩)] k w fun v m => ∃ t, v = .pointer (some ⟨t, 0, none⟩) ∧ m = [rarL r R, rstkL t r []] := by
 refine enter (args := [.pointer (some ⟨r, 0, none⟩)]) Tryz.func26 rfl rfl (K0 (K1 (V2 rfl rfl rfl (K2 (K3 (K0 (K1 (V1 rfl rfl rfl (s_build (parts := [(0, .tmp 3)]) (cs := [.pointer (some ⟨r, 0, none⟩), .slice none 0 0]) rfl rfl (fun a ha => partsOf_sound ha _ _ rfl) (by kernel_rfl) (s_box (vs := [.pointer (some ⟨r, 0, none⟩), .slice none 0 0]) hO rfl rfl rfl (by rfl) fun b5 w hO => ?_))))))))))
 refine V2 rfl rfl rfl (K2 (K3 (K6 ?_)))
 have hO : Own k w (sls none 0 3 1 (eI .i64) ([] : List Int) :: _) := sl_nil 3 1 hO
 exact fin1 rfl rfl ⟨_, ⟨_, rfl, rfl⟩, ((rstkL_shut (l := []) (hO.ks [.b b5, .p none]) rfl).ks [.o r, .o b5]).two⟩
end
end Go.Proofs.YtoohapbaelmkcaaGreat
end
section
set_option maxRecDepth 100000
namespace Go.Proofs.YtoohapbaelmkcaaGreat
open Go Go.Hb Go.RowKit
structure StkI (A : List Node_one) (l : List Int) : Prop where
 el : AllEl A l
 nodup : l.Nodup
theorem StkI.len {A : List Node_one} {l : List Int} (h : StkI A l) : l.length ≤ A.length := nodup_le _ _ h.nodup fun x hx => by
 have := hasB_true (elB_has (h.el x hx)); omega
theorem StkI.nil {A : List Node_one} : StkI A [] := ⟨fun x hx => by simp at hx, List.nodup_nil⟩
theorem findI_mem {l : List Int} {x : Int} (h : findI l x < 0) : x ∉ l := fun hx => by
 rcases idx_cases (fun y => decide (y = x)) l with ⟨_, h2⟩ | ⟨i, h2, _⟩
 ·obtain ⟨j, hj, e⟩ := mem_at hx
  exact absurd (h2 j hj) (by simp [e])
 ·unfold findI at h; omega
theorem StkI.cons {A : List Node_one} {l : List Int} {x : Int} (h : StkI A l) (hx : elB A x = true) (hn : x ∉ l) : StkI A (x :: l) := ⟨fun y hy => by
  rcases List.mem_cons.1 hy with rfl | hy
  · exact hx
  · exact h.el y hy, List.nodup_cons.2 ⟨hn, h.nodup⟩⟩
theorem StkI.perm {A : List Node_one} {l m : List Int} (h : StkI A l) (p : l.Perm m) : StkI A m := ⟨fun y hy => h.el y (p.mem_iff.2 hy), p.nodup_iff.1 h.nodup⟩
theorem StkI.sub {A : List Node_one} {l m : List Int} (h : StkI A l) (p : m.Sublist l) : StkI A m := ⟨fun y hy => h.el y (p.subset hy), h.nodup.sublist p⟩
theorem fresh0 {A : List Node_one} {l : List Int} {id : Int} (h : freshE A l id = 0) : elB A id = true ∧ id ∉ l := by
 rcases freshE_cases A l id with ⟨h1, _⟩ | ⟨h1, _⟩ | ⟨_, h2, h3⟩
 ·omega
 ·omega
 ·exact ⟨h2, findI_mem h3⟩
theorem StkI.push {A : List Node_one} {l : List Int} {id : Int} (h : StkI A l) : StkI A (if freshE A l id = 0 then l ++ [id] else l) := by
 split
 ·next h0 => exact (h.cons (fresh0 h0).1 (fresh0 h0).2).perm (List.perm_append_comm (l₁ := [id]))
 ·exact h
theorem StkI.remove {A : List Node_one} {l : List Int} {id : Int} (h : StkI A l) : StkI A (removeL l id).2 := by
 unfold removeL
 split
 ·exact h
 ·dsimp only; rw [← List.eraseIdx_eq_take_drop_succ]; exact h.sub (List.eraseIdx_sublist ..)
theorem StkI.put {A : List Node_one} {l : List Int} {i id : Int} (h : StkI A l) : StkI A (putL A l i id).2 := by
  unfold putL
  split
  · exact h
  · next h0 =>
    split
    · exact h
    · have h1 := fresh0 (show freshE A l id = 0 by omega)
      refine (h.cons h1.1 h1.2).perm ?_
      dsimp only
      rw [List.append_assoc, List.singleton_append]
      conv => lhs; rw [← List.take_append_drop i.toNat l]
      exact List.perm_middle.symm
theorem StkI.swap {A : List Node_one} {l : List Int} {old id : Int} (h : StkI A l) : StkI A (swapL A l old id).2 := by
 unfold swapL
 split
 ·exact h
 ·split
  ·next h0 =>
   have h1 := fresh0 h0
   have hs := List.eraseIdx_sublist l (findI l old).toNat
   rw [List.eraseIdx_eq_take_drop_succ] at hs
   refine ((h.sub hs).cons h1.1 fun hm => h1.2 (hs.subset hm)).perm ?_
   dsimp only
   rw [List.append_assoc, List.singleton_append]
   exact List.perm_middle.symm
  ·exact h
theorem StkI.take {A : List Node_one} {l : List Int} (h : StkI A l) (i : Nat) : StkI A (l.take i) := h.sub (List.take_sublist i l)
end Go.Proofs.YtoohapbaelmkcaaGreat
end
section
set_option maxRecDepth 100000
namespace Go.Proofs.YtoohapbaelmkcaaGreat
open Go Go.Hb Go.RowKit
theorem SpOk.new : SpOk [docD] := fun i hi => by
 have : i = 0 := by simp at hi; omega
 subst this; exact ⟨by decide, by decide⟩
theorem SpOk.app {A : List Node_one} (h : SpOk A) {n : Node_one} (hn : 0 ≤ n.Node.Space ∧ n.Node.Space ≤ 2) : SpOk (A ++ [n]) := fun i hi => by
  by_cases h1 : i < A.length
  · rw [at_app_l h1]; exact h i h1
  · have : i = A.length := by simp at hi; omega
    subst this; rw [at_app_new]; exact hn
theorem SpOk.set {A : List Node_one} (h : SpOk A) {i : Nat} {n : Node_one} (hn : i < A.length → n.Node.Space = (at_ A i).Node.Space) : SpOk (A.set i n) := fun j hj => by
 have hj' : j < A.length := by simpa using hj
 by_cases h1 : i < A.length
 ·rw [at_set h1]
  split
  ·rw [hn h1]; exact h i h1
  ·exact h j hj'
 ·rw [List.set_eq_of_length_le (by omega)]; exact h j hj'
theorem SpOk.element {A : List Node_one} (h : SpOk A) {sp : Int} {nm : ByteArray} {xs : List Api_attr} {q : Option Addr} {d : Nat} : SpOk (elementL A sp nm xs q d).2.2 := by
 unfold elementL
 by_cases h1 : sp < 0 ∨ 2 < sp
 ·rw [if_pos h1]; exact h
 rw [if_neg h1]
 have h2 : SpOk (A ++ [blankN (elementN q d sp nm xs)]) := h.app (show 0 ≤ sp ∧ sp ≤ 2 by omega)
 repeat' split
 all_goals first | exact h | exact h2 | skip
 dsimp only
 unfold setHost setInner
 refine SpOk.set (SpOk.set (h2.app (n := blankN fragmentN) ⟨by decide, by decide⟩) ?_) ?_
 ·intro _; rfl
 ·intro _; rfl
end Go.Proofs.YtoohapbaelmkcaaGreat
end
section
set_option maxRecDepth 100000
namespace Go.Proofs.YtoohapbaelmkcaaGreat
open Go Go.Hb Go.RowKit
theorem linkL_core {A : List Node_one} {K : Int → List Int} (t : Tree A K) {up id before : Int} {y : Int} (hy : 0 ≤ y) : coreN (at_ (linkL A up id before).2 y.toNat) = coreN (at_ A y.toNat) := by
 by_cases h0 : (linkL A up id before).1 = 0
 ·obtain ⟨l1, l2, g⟩ := link_ok t h0
  exact ((g.put t).2 y hy).core
 ·rw [linkL_err h0]
section
variable {A : List Node_one} {sp : Int} {nm : ByteArray} {q : Option Addr} {d : Nat}
theorem el_form (A : List Node_one) (sp : Int) (nm : ByteArray) (q : Option Addr) (d : Nat) : (∃ e, e ≠ 0 ∧ elementL A sp nm [] q d = (0, e, A)) ∨
  (0 ≤ sp ∧ sp ≤ 2 ∧ (elementL A sp nm [] q d).1 = A.length ∧ (elementL A sp nm [] q d).2.1 = 0 ∧ ((tmpl sp nm ∧ (elementL A sp nm [] q d).2.2 = setHost (setInner (A ++ [blankN (elementN q d sp nm [])] ++ [blankN fragmentN]) A.length (A ++ [blankN (elementN q d sp nm [])]).length) (A ++ [blankN (elementN q d sp nm [])]).length A.length) ∨ (¬ tmpl sp nm ∧ (elementL A sp nm [] q d).2.2 = A ++ [blankN (elementN q d sp nm [])]))) := by
 unfold elementL
 by_cases h1 : sp < 0 ∨ 2 < sp
 ·rw [if_pos h1]; exact .inl ⟨1, by decide, rfl⟩
 rw [if_neg h1]
 by_cases h2 : 1024 < ([] : List Api_attr).length
 ·rw [if_pos h2]; exact .inl ⟨2, by decide, rfl⟩
 rw [if_neg h2]
 by_cases h3 : tmpl sp nm ∧ A.length = 32767
 ·rw [if_pos h3]; exact .inl ⟨9, by decide, rfl⟩
 rw [if_neg h3]
 by_cases h4 : longB (nm :: attrTexts []) = true
 ·rw [if_pos h4]; exact .inl ⟨2, by decide, rfl⟩
 rw [if_neg h4]
 by_cases h5 : 32768 ≤ A.length
 ·rw [if_pos h5]; exact .inl ⟨9, by decide, rfl⟩
 rw [if_neg h5]
 right
 by_cases h6 : tmpl sp nm
 ·rw [if_pos h6]; exact ⟨by omega, by omega, rfl, rfl, .inl ⟨h6, rfl⟩⟩
 ·rw [if_neg h6]; exact ⟨by omega, by omega, rfl, rfl, .inr ⟨h6, rfl⟩⟩
theorem el_len : (elementL A sp nm [] q d).2.2.length ≤ A.length + 2 := by
 rcases el_form A sp nm q d with ⟨e, _, h⟩ | ⟨_, _, _, _, ⟨_, h⟩ | ⟨_, h⟩⟩ <;> rw [h]
 ·exact Nat.le_add_right _ _
 ·simp [setHost, setInner]
 ·simp
theorem el_lenge : A.length ≤ (elementL A sp nm [] q d).2.2.length := by
 rcases el_form A sp nm q d with ⟨e, _, h⟩ | ⟨_, _, _, _, ⟨_, h⟩ | ⟨_, h⟩⟩ <;> rw [h]
 ·exact Nat.le_refl _
 ·simp only [setHost, setInner, List.length_set, List.length_append]; omega
 ·simp
theorem el_old {y : Nat} (hy : y < A.length) : at_ (elementL A sp nm [] q d).2.2 y = at_ A y := by
 rcases el_form A sp nm q d with ⟨e, _, h⟩ | ⟨_, _, _, _, ⟨_, h⟩ | ⟨_, h⟩⟩ <;> rw [h]
 ·rw [setHost, setInner, at_set_ne (by simp; omega), at_set_ne (by omega), List.append_assoc, at_app_l hy]
 ·rw [at_app_l hy]
/-- what is new: the element, and a template's contents -/
theorem el_new {y : Nat} (hy : A.length ≤ y) (hl : y < (elementL A sp nm [] q d).2.2.length) :
    (y = A.length ∧ 0 ≤ sp ∧ sp ≤ 2 ∧ (at_ (elementL A sp nm [] q d).2.2 y).Node.Kind = 1 ∧ (at_ (elementL A sp nm [] q d).2.2 y).Node.Space = sp ∧ (at_ (elementL A sp nm [] q d).2.2 y).Node.Name = nm ∧ (tmpl sp nm → (at_ (elementL A sp nm [] q d).2.2 y).Node.Inner ≠ -1)) ∨
    ((at_ (elementL A sp nm [] q d).2.2 y).Node.Kind = 5 ∧ (at_ (elementL A sp nm [] q d).2.2 y).Node.Space = 0) := by
  rcases el_form A sp nm q d with ⟨e, _, h⟩ | ⟨h0, h1, _, _, ⟨ht, h⟩ | ⟨ht, h⟩⟩ <;> rw [h] at hl ⊢
  · simp at hl; omega
  · have hl' : y < A.length + 2 := by simpa [setHost, setInner] using hl
    have eA : at_ (A ++ [blankN (elementN q d sp nm [])] ++ [blankN fragmentN]) A.length = blankN (elementN q d sp nm []) := by rw [at_app_l (by simp), at_app_new]
    have eB : at_ (A ++ [blankN (elementN q d sp nm [])] ++ [blankN fragmentN]) (A.length + 1) = blankN fragmentN := by
      have := at_app_new (xs := A ++ [blankN (elementN q d sp nm [])]) (x := blankN fragmentN)
      simpa using this
    by_cases hy2 : y = A.length
    · subst hy2
      left
      have e1 : at_ (setHost (setInner (A ++ [blankN (elementN q d sp nm [])] ++ [blankN fragmentN]) A.length (A ++ [blankN (elementN q d sp nm [])]).length) (A ++ [blankN (elementN q d sp nm [])]).length A.length) A.length = { blankN (elementN q d sp nm []) with Node := { (blankN (elementN q d sp nm [])).Node with Inner := (A ++ [blankN (elementN q d sp nm [])]).length } } := by
        rw [setHost, at_set_ne (by simp), setInner, show ((A.length : Nat) : Int).toNat = A.length by omega, at_set_eq (by simp), eA]
      rw [e1]
      exact ⟨rfl, h0, h1, rfl, rfl, rfl, fun _ => by simp; omega⟩
    · right
      have hy3 : y = A.length + 1 := by omega
      subst hy3
      have e1 : at_ (setHost (setInner (A ++ [blankN (elementN q d sp nm [])] ++ [blankN fragmentN]) A.length (A ++ [blankN (elementN q d sp nm [])]).length) (A ++ [blankN (elementN q d sp nm [])]).length A.length) (A.length + 1) = { blankN fragmentN with host := A.length } := by
        have e2 : (((A ++ [blankN (elementN q d sp nm [])]).length : Nat) : Int).toNat = A.length + 1 := by simp
        rw [setHost, e2, at_set_eq (by simp [setInner]), setInner, at_set_ne (by omega), eB]
      rw [e1]
      exact ⟨rfl, rfl⟩
  · have : y = A.length := by simp at hl; omega
    subst this
    rw [at_app_new]
    exact .inl ⟨rfl, h0, h1, rfl, rfl, rfl, fun h => absurd h ht⟩
end
/-- what holds of all nodes of such a world -/
structure WI (A : List Node_one) : Prop where
 par : ∀ y : Nat, y < A.length → parentB (at_ A y).Node.Kind = true
 sp : SpOk A
 tm : ∀ y : Nat, y < A.length → (at_ A y).Node.Kind = 1 → tmpl (at_ A y).Node.Space (at_ A y).Node.Name → (at_ A y).Node.Inner ≠ -1
theorem WI.new : WI [docD] := ⟨fun y hy => by
  have : y = 0 := by simp at hy; omega
  subst this; rfl, SpOk.new, fun y hy hk => by
  have : y = 0 := by simp at hy; omega
  subst this; exact absurd hk (by decide)⟩
theorem WI.el {A : List Node_one} (h : WI A) {sp : Int} {nm : ByteArray} {q : Option Addr} {d : Nat} : WI (elementL A sp nm [] q d).2.2 := ⟨fun y hy => by
  by_cases h1 : y < A.length
  · rw [el_old h1]; exact h.par y h1
  · rcases el_new (by omega) hy with ⟨_, _, _, hk, _⟩ | ⟨hk, _⟩ <;> rw [hk] <;> rfl, h.sp.element, fun y hy hk ht => by
  by_cases h1 : y < A.length
  · rw [el_old h1] at hk ht ⊢; exact h.tm y h1 hk ht
  · rcases el_new (by omega) hy with ⟨_, _, _, _, e1, e2, h2⟩ | ⟨h2, _⟩
    · rw [e1, e2] at ht; exact h2 ht
    · rw [h2] at hk; exact absurd hk (by decide)⟩
theorem core_space {o p : Node_one} (h : coreN o = coreN p) : o.Node.Space = p.Node.Space := by have := congrArg (fun z : Node_one => z.Node.Space) h; simpa only [coreN] using this
theorem core_name {o p : Node_one} (h : coreN o = coreN p) : o.Node.Name = p.Node.Name := by have := congrArg (fun z : Node_one => z.Node.Name) h; simpa only [coreN] using this
theorem WI.core {A B : List Node_one} (h : WI A) (hl : B.length = A.length) (hc : ∀ y : Int, 0 ≤ y → coreN (at_ B y.toNat) = coreN (at_ A y.toNat)) : WI B := by
  have hc' : ∀ y : Nat, coreN (at_ B y) = coreN (at_ A y) := fun y => by have := hc (y : Int) (by omega); simpa using this
  exact ⟨fun y hy => by rw [core_kind (hc' y)]; exact h.par y (by omega), fun y hy => by rw [core_space (hc' y)]; exact h.sp y (by omega), fun y hy hk ht => by
    rw [core_kind (hc' y)] at hk
    rw [core_space (hc' y), core_name (hc' y)] at ht
    rw [core_inner (hc' y)]
    exact h.tm y (by omega) hk ht⟩
theorem elB_core {A B : List Node_one} (hl : B.length = A.length) (hc : ∀ y : Int, 0 ≤ y → coreN (at_ B y.toNat) = coreN (at_ A y.toNat)) (x : Int) : elB B x = elB A x := by
 unfold elB hasB
 rw [hl]
 by_cases h : 0 ≤ x ∧ x < A.length
 ·rw [core_kind (hc x h.1)]
 ·rw [decide_eq_false h]; rfl
theorem elB_el {A : List Node_one} {sp : Int} {nm : ByteArray} {q : Option Addr} {d : Nat} {x : Int} (h : elB A x = true) : elB (elementL A sp nm [] q d).2.2 x = true := by
 have hb := hasB_true (elB_has h)
 have hg := el_lenge (A := A) (sp := sp) (nm := nm) (q := q) (d := d)
 unfold elB hasB at h ⊢
 rw [Bool.and_eq_true] at h ⊢
 exact ⟨decide_eq_true (by omega), by rw [el_old (by omega)]; exact h.2⟩
theorem nam_tmpl {A : List Node_one} {x : Int} (h : namA A templL x = true) : tmpl (at_ A x.toNat).Node.Space (at_ A x.toNat).Node.Name := by
 rw [namA, namB, Bool.and_eq_true] at h
 obtain ⟨t, ht, e⟩ := List.any_eq_true.1 h.2
 refine ⟨of_decide_eq_true h.1, ?_⟩
 have h1 := of_decide_eq_true e
 simp only [templL, List.mem_cons, List.not_mem_nil, or_false] at ht
 rw [h1, ht]; rfl
theorem WI.inn {A : List Node_one} (h : WI A) : ∀ x, elB A x = true → namA A templL x = true → (nd A x).Inner ≠ -1 := fun x he hn => by
 have hb := hasB_true (elB_has he)
 rw [elB, Bool.and_eq_true] at he
 exact h.tm x.toNat (by omega) (of_decide_eq_true he.2) (nam_tmpl hn)
theorem FosOk.of {A : List Node_one} {K : Int → List Int} {l : List Int} (t : Tree A K) (h : WI A) (hel : AllEl A l) : FosOk A l := fun hne => by
  have hhas : ∀ i : Nat, i < l.length → hasB A (at_ l i) = true := fun i h1 => elB_has (hel _ (at_mem h1))
  unfold fosterV at hne ⊢
  split
  · next h1 =>
    rcases lastV_cases (namA A templL) l with h2 | ⟨i, h2, h3, h4⟩
    · rcases lastV_cases (namA A tableL) l with h5 | ⟨j, h5, _⟩ <;> omega
    · have e1 : (lastV (namA A templL) l).toNat = i := by omega
      have h6 := h.inn _ (hel _ (at_mem h3)) h4
      rw [e1]
      exact inA_iff.2 ((t.inner _ (inA_iff.1 (hhas i h3))).resolve_left h6)
  · next h1 =>
    split
    · next h2 =>
      split
      · next h3 => exact hhas 0 h3
      · next h3 => rw [if_neg h1, if_pos h2, if_neg h3] at hne; exact absurd rfl hne
    · next h2 =>
      rcases lastV_cases (namA A tableL) l with h5 | ⟨j, h5, h6, _⟩
      · omega
      have e1 : (lastV (namA A tableL) l).toNat = j := by omega
      split
      · next h3 => rw [e1] at h3 ⊢; exact inA_iff.2 ((t.up _ (inA_iff.1 (hhas j h6)) h3).1)
      · next h3 =>
        split
        · next h4 => exact hhas (lastV (namA A tableL) l - 1).toNat (by omega)
        · next h4 => rw [if_neg h1, if_neg h2, if_neg h3, if_neg h4] at hne; exact absurd rfl hne
end Go.Proofs.YtoohapbaelmkcaaGreat
end
section
namespace Go.Proofs.YtoohapbaelmkcaaGreat
open Go Go.Hb Go.RowKit
theorem unlink_fail {A : List Node_one} {id : Int} (h : (unlinkL A id).1 ≠ 0) : (unlinkL A id).2 = A := by
 revert h
 unfold unlinkL
 repeat' split
 all_goals simp
theorem unlink_core {A : List Node_one} {K : Int → List Int} (t : Tree A K) (id : Int) : ∀ y : Int, 0 ≤ y → coreN (at_ (unlinkL A id).2 y.toNat) = coreN (at_ A y.toNat) := fun y hy => by
 by_cases h0 : (unlinkL A id).1 = 0
 ·obtain ⟨l1, l2, g⟩ := unlink_ok t h0
  have h1 := t.prevIn g.hid
  have h2 := t.nextIn g.hid
  rw [g.prev] at h1
  rw [g.next] at h2
  rw [g.res]
  exact (gone_at g.hid g.hup h1 h2 hy).core
 ·rw [unlink_fail h0]
end Go.Proofs.YtoohapbaelmkcaaGreat
end
section
set_option maxRecDepth 100000
namespace Go.Proofs.YtoohapbaelmkcaaGreat
open Go Go.Hb Go.RowKit
section
variable {P : Program} {ops : Array Oper} {Q : Exit → Act → World → Prop} {n : Nat} {ds : List Deferred} {E : Env} {w : World} {k : Ctx} {l : List HP}
variable {rest : List Oper} {d : Option Tmp} {ty : TypeId} {pos : String} {aft : Array Edge} {g : Option (Nat × Bool)}
/-- copy(x[i:], x[i+1:]) of one's own x -/
theorem s_cpTail {t u T : TypeId} {agg : Bool} {sz : Nat} [hu : Und P t (.slice T)] [hl : Lay P T agg sz] {x y : Operand} {p : Option Addr} {c i : Nat} {α : Type} {enc : α → List Value} {xs : List α} {rl : List HP} (hO : Own k w l) (hx : ev E x = some (.slice (subp p c i sz) (xs.length - i) (c - i))) (hy : ev E y = some (.slice (subp p c (i + 1) sz) (xs.length - (i + 1)) (c - (i + 1)))) {sz' : Nat} [hp : PkP l p T α c sz' enc xs rl] [ho : OneC enc sz] (hi : i < xs.length)
  (h : ∀ w', Own k w' (sls p c T sz enc (xs.take i ++ xs.drop (i + 1) ++ xs.drop (xs.length - 1)) :: rl) → LW P ops Q n ds rest (E.put d (.int .i64 ((xs.length - (i + 1) : Nat) : Int))) w') (hsz : sz' = sz := by rfl) (hg : gd ops E g = some true := by rfl) (hd : dok n d = true := by rfl) : LW P ops Q n ds (⟨d, .call ⟨.builtin .copy, #[x, y], #[t, u]⟩, ty, pos, aft, g⟩ :: rest) E w := by
 subst hsz
 have hO1 := hO.pull hp.pull
 have hv := sls_sli (p := p) hO1
 have hf := sls_fct (p := p) hO1
 obtain ⟨b, o, rfl⟩ := hf.2 (by omega)
 have hv2 := sli_tl (cuts_holds w) hv (i + 1) (by omega)
 have hO2 := arr_sls hO1 rfl
 have hlen : (xs.drop (i + 1)).length = xs.length - (i + 1) := by simp
 have hs : Src P w sz' (.slice (subp (some ⟨b, o, none⟩) c (i + 1) sz') (xs.length - (i + 1)) (c - (i + 1))) ((xs.drop (i + 1)).map enc).length ((xs.drop (i + 1)).map enc).flatten := by
  rw [List.length_map]
  rw [← hlen] at hv2 ⊢
  exact src_sli hv2
 refine s_copy (i := i) (news := (xs.drop (i + 1)).map enc) hO2 (.hd _ _) hg hd hx hy hs (OneC.rows _) (by simp; omega) (by simp; omega) (fun _ => ?_) fun w' hO3 => ?_
 ·rw [subp, if_neg (by have := hf.1; omega)]; simp only [Option.map_some, Addr.add_lit]
 ·rw [List.length_map, hlen] at hO3 ⊢
  refine h w' ?_
  have e : (xs.map enc).take i ++ (xs.drop (i + 1)).map enc ++ (xs.map enc).drop (i + (xs.length - (i + 1))) = (xs.take i ++ xs.drop (i + 1) ++ xs.drop (xs.length - 1)).map enc := by
   rw [show i + (xs.length - (i + 1)) = xs.length - 1 by omega]; simp
  rw [e] at hO3
  refine sls_mk (sl_shut hO3 rfl) ?_ rfl
  simp
end
section
variable {k : Ctx} {w : World} {s a c : Nat} {p : Option Addr} {L : List Api_entry} {A : List Node_one}
abbrev aB (s a : Nat) (p : Option Addr) (n c : Nat) : HP := blk s 113 [.pointer (some ⟨a, 0, none⟩), .slice p n c]
abbrev aI (p : Option Addr) (c : Nat) (l : List Api_entry) : HP := sls p c 55 10 Api_entry.cells l
def actL (s a : Nat) (l : List Api_entry) : HP := fun h => ∃ x : Option Addr × Nat, sep [aB s a x.1 l.length x.2, aI x.1 x.2 l] h
theorem actL_open {M : List HP} (hO : Own k w (actL s a L :: M)) : ∃ p c, Gs p L.length ∧ L.length ≤ c ∧ Own k w (aB s a p L.length c :: aI p c L :: M) := by
 obtain ⟨⟨p, c⟩, hO⟩ := Own.ex (A := fun (x : Option Addr × Nat) => sep [aB s a x.1 L.length x.2, aI x.1 x.2 L]) hO
 have hO := Own.open hO
 simp only [List.cons_append, List.nil_append] at hO
 exact ⟨p, c, (sls_fct (p := p) hO).2, (sls_fct (p := p) hO).1, hO⟩
theorem actL_shut {M : List HP} {n : Nat} (hO : Own k w (aB s a p n c :: aI p c L :: M)) (hn : n = L.length := by first | rfl | simp) : Own k w (actL s a L :: M) := by
 subst hn
 exact (Own.shut (l := [aB s a p L.length c, aI p c L]) hO).tell fun h hA => ⟨(p, c), hA⟩
instance (priority := high) AtK.hact (s a : Nat) (l : List Api_entry) (M : List HP) : AtK (actL s a l :: M) (.o s) (actL s a l) M := ⟨.hd _ M⟩
theorem aNew_spec {a : Nat} (hn : 0 < A.length) (hO : Own k w [arenaL a A]) :
  Tri Tryz.prog 24 #[.pointer (some ⟨a, 0, none⟩)] k w fun v m => ∃ s, v = .tuple #[.pointer (some ⟨s, 0, none⟩), .int .i64 0] ∧ m = [arenaL a A, actL s a []] := by
 refine enter (args := [.pointer (some ⟨a, 0, none⟩)]) Tryz.func24 rfl rfl (K0 (K1 (V2 rfl rfl rfl (V2 rfl rfl rfl (K2 (K3 (K0 (K0 (K1 (V1 rfl rfl rfl (CK [.o a] hO rfl (fun k' hx hr hO' => LenC_spec hn (hO := hO')) ?_)))))))))))
 rintro _ _ w ⟨rfl, rfl⟩ hO
 simp only [List.cons_append, List.nil_append] at hO
 refine N3 (K2 (K3 (L9 (K5 (K3 (K0 (K1 (V1 rfl rfl rfl (s_build (parts := [(0, .tmp 7)]) (cs := [.pointer (some ⟨a, 0, none⟩), .slice none 0 0]) rfl rfl (fun a ha => partsOf_sound ha _ _ rfl) (by kernel_rfl) (s_box (vs := [.pointer (some ⟨a, 0, none⟩), .slice none 0 0]) hO rfl rfl rfl (by rfl) fun b9 w hO => ?_))))))))))
 refine V2 rfl rfl rfl (V2 rfl rfl rfl (K2 (K3 (K6 ?_))))
 have hO : Own k w (aI none 0 [] :: _) := sl_nil 55 10 hO
 exact fin2 rfl rfl rfl ⟨_, ⟨_, rfl, rfl⟩, ((actL_shut (L := []) (hO.ks [.b b9, .p none]) rfl).ks [.o a, .o b9]).two⟩
theorem anone_spec {n : Nat} (hO : Own k w [aB s a p n c]) :
  Tri Tryz.prog 50 #[.pointer (some ⟨s, 0, none⟩)] k w fun v m => v = .bool false ∧ m = [aB s a p n c] := by
 refine enter (args := [.pointer (some ⟨s, 0, none⟩)]) Tryz.func50 rfl rfl (K0 (K1 (V2 rfl rfl rfl (K2 (K3 (K0 (K1 (V1 rfl rfl rfl (l_y rfl rfl (y_eqPnil rfl rfl rfl) (V1 rfl rfl rfl (V1 rfl rfl rfl (V3 rfl rfl rfl rfl (l_y rfl rfl (y_fldb (o' := 0) rfl) (l_y rfl rfl (D5 hO rfl) ?_))))))))))))))
 refine l_y rfl rfl (y_eqPnil rfl rfl rfl) (l_y rfl rfl (y_pick_f rfl rfl) (V2 rfl rfl rfl (K2 (K3 (K6 ?_)))))
 exact fin1 rfl rfl ⟨_, ⟨rfl, rfl⟩, hO⟩
theorem aLen_spec (hO : Own k w [actL s a L]) :
  Tri Tryz.prog 16 #[.pointer (some ⟨s, 0, none⟩)] k w fun v m => v = .int .i64 ((L.length : Nat) : Int) ∧ m = [actL s a L] := by
 refine enter (args := [.pointer (some ⟨s, 0, none⟩)]) Tryz.func16 rfl rfl ?_
 obtain ⟨p, c, hg, hlc, hO⟩ := actL_open hO
 refine K0 (K1 (V2 rfl rfl rfl (K2 (K3 (K0 (K0 (K1 (V1 rfl rfl rfl (CK [.b s] hO rfl (fun k' hx hr hO' => anone_spec (hO := hO')) ?_)))))))))
 rintro _ _ w ⟨rfl, rfl⟩ hO
 simp only [List.cons_append, List.nil_append] at hO
 refine K2 (K3 (L9 (K5 (K3 (K0 (K1 (V1 rfl rfl rfl (V3 rfl rfl rfl rfl (l_y rfl rfl (y_fldb (o' := 1) rfl) (l_y rfl rfl (D5 hO rfl) ?_))))))))))
 refine l_y rfl rfl (y_lenL rfl) (V2 rfl rfl rfl (K2 (K3 (K6 ?_))))
 exact fin1 rfl rfl ⟨_, ⟨rfl, rfl⟩, (actL_shut (hO.ks [.b s, .p p])).one⟩
def markE : Api_entry := ⟨-1, default⟩
theorem aMark_spec (hl : L.length ≤ 2000000) (hO : Own k w [actL s a L]) :
  Tri Tryz.prog 31 #[.pointer (some ⟨s, 0, none⟩)] k w fun v m => v = .int .i64 0 ∧ m = [actL s a (L ++ [markE])] := by
 refine enter (args := [.pointer (some ⟨s, 0, none⟩)]) Tryz.func31 rfl rfl ?_
 obtain ⟨p, c, hg, hlc, hO⟩ := actL_open hO
 refine K0 (K1 (V2 rfl rfl rfl (K2 (K3 (K0 (K0 (K1 (V1 rfl rfl rfl (CK [.b s] hO rfl (fun k' hx hr hO' => anone_spec (hO := hO')) ?_)))))))))
 rintro _ _ w ⟨rfl, rfl⟩ hO
 simp only [List.cons_append, List.nil_append] at hO
 refine K2 (K3 (L9 (K5 (K3 (K0 (K1 (V1 rfl rfl rfl (V1 rfl rfl rfl (V3 rfl rfl rfl rfl (l_y rfl rfl (y_fldb (o' := 1) rfl) (l_y rfl rfl (D5 hO rfl) ?_)))))))))))
 refine s_build (parts := [(0, .const (.int .i64 (-1)))]) (cs := [.int .i64 (-1), .int .i64 0, .string ⟨#[]⟩, .string ⟨#[]⟩, .string ⟨#[]⟩, .int .i64 0, .bool false, .int .i32 0, .bool false, .slice none 0 0]) rfl rfl (fun a ha => partsOf_sound ha _ _ rfl) (by kernel_rfl) (s_lit (parts := [(0, .tmp 10)]) (enc := Api_entry.cells) [⟨(-1), ⟨0, ⟨#[]⟩, ⟨#[]⟩, ⟨#[]⟩, 0, false, 0, false, none, [], 0⟩⟩] [.agg [.int .i64 (-1), .int .i64 0, .string ⟨#[]⟩, .string ⟨#[]⟩, .string ⟨#[]⟩, .int .i64 0, .bool false, .int .i32 0, .bool false, .slice none 0 0].toArray] hO rfl (fun b11 w hO => ?_))
 refine s_app hO rfl rfl (src_own hO) (fun p12 c12 w hO gs12 => ?_)
 refine V3 rfl rfl rfl rfl (l_y rfl rfl (y_fldb (o' := 1) rfl) (Y1 hO rfl rfl (fun w hO => ?_)))
 simp only [List.set_cons_zero, List.set_cons_succ] at hO
 refine K2 (K3 (K0 (K1 (V2 rfl rfl rfl (K2 (K3 (K6 ?_)))))))
 exact fin1 rfl rfl ⟨_, ⟨rfl, rfl⟩, (actL_shut (hO.ks [.b s, .p p12])).one⟩
def findE (L : List Api_entry) (x : Int) : Int := if x = -1 then -1 else idx (fun y : Api_entry => decide (y.Node = x)) L
theorem aFindB_spec {x : Int} (hg : Gs p L.length) (hl : L.length ≤ 2000000) (hO : Own k w [aB s a p L.length c, aI p c L]) :
  Tri Tryz.prog 36 #[.pointer (some ⟨s, 0, none⟩), .int .i64 x] k w fun v m => v = .int .i64 (findE L x) ∧ m = [aB s a p L.length c, aI p c L] := by
 refine enter (args := [.pointer (some ⟨s, 0, none⟩), .int .i64 x]) Tryz.func36 rfl rfl (K0 (K1 (V2 rfl rfl rfl (K2 (K3 (K0 (K0 (K1 (V1 rfl rfl rfl (CK [.b s] hO rfl (fun k' hx hr hO' => anone_spec (hO := hO')) ?_))))))))))
 rintro _ _ w ⟨rfl, rfl⟩ hO
 simp only [List.cons_append, List.nil_append] at hO
 refine V1 rfl rfl rfl (V1 rfl rfl rfl ?_)
 refine Z0 (fun h1_4 => ?_) (fun h1_4 => ?_)
 ·refine l_y rfl rfl (y_pick_f rfl rfl) (K2 (K3 (L8 (K0 (K1 (V2 rfl rfl rfl (K2 (K3 (K6 (K9 ?_))))))))))
  exact fin1 rfl rfl ⟨_, ⟨by rw [findE, if_pos h1_4], rfl⟩, hO.only [.b s, .p p]⟩
 ·refine l_y rfl rfl (y_pick_f rfl rfl) (K2 (K3 (L9 (K5 (K3 (K0 (K0 (K1 (V1 rfl rfl rfl (V3 rfl rfl rfl rfl (l_y rfl rfl (y_fldb (o' := 1) rfl) (l_y rfl rfl (D5 hO rfl) ?_))))))))))))
  refine l_y rfl rfl (y_lenL rfl) (V1 rfl rfl rfl (K2 (K3 (K4 (c_rounds (X := Nat) (fun i => [(1, .int .i64 x), (4, .int .i64 0), (16, .slice p L.length c), (17, .int .i64 ((L.length : Nat) : Int)), (18, .int .i64 (i : Int))]) (fun i w => Own k w [aB s a p L.length c, aI p c L] ∧ (i ≤ L.length) ∧ (∀ j, j < i → decide ((at_ L j).Node = x) = false)) (fun i => L.length - i) (0) ⟨rfl, rfl, rfl, rfl, rfl, trivial⟩ ⟨hO.only [.b s, .p p], Nat.zero_le _, fun j hj => absurd hj (Nat.not_lt_zero j)⟩ ?_)))))
  rintro i w m hm ⟨hO, hi, hn⟩
  refine K0 (K1 ?_)
  refine Z0 (fun h4_0 => ?_) (fun h4_0 => ?_)
  ·refine K2 (K3 (K0 (L8 (K5 (K3 (K0 (K4 (K0 (K1 (V1 rfl rfl rfl (l_y rfl rfl (y_idx rfl rfl) ?_)))))))))))
   refine l_y rfl rfl (y_eA (x0 := 0) (cs := [.int .i64 (at_ L ((i : Int) : Int).toNat).Node, .int .i64 (at_ L ((i : Int) : Int).toNat).Token.Kind, .string (at_ L ((i : Int) : Int).toNat).Token.Name, .string (at_ L ((i : Int) : Int).toNat).Token.Data, .string (at_ L ((i : Int) : Int).toNat).Token.System, .int .i64 (at_ L ((i : Int) : Int).toNat).Token.Has, .bool (at_ L ((i : Int) : Int).toNat).Token.Quirks, .int .i32 (at_ L ((i : Int) : Int).toNat).Token.Char, .bool (at_ L ((i : Int) : Int).toNat).Token.Self, .slice (at_ L ((i : Int) : Int).toNat).Token.AttrsP (at_ L ((i : Int) : Int).toNat).Token.Attrs.length (at_ L ((i : Int) : Int).toNat).Token.AttrsC]) hO rfl) ?_
   refine s_alloc (vs := [.int .i64 0, .int .i64 0, .string ⟨#[]⟩, .string ⟨#[]⟩, .string ⟨#[]⟩, .int .i64 0, .bool false, .int .i32 0, .bool false, .slice none 0 0]) hO rfl rfl rfl fun b6 w hO => ?_
   refine V2 rfl rfl rfl (Y3 hO rfl rfl (fun w hO => ?_))
   refine K2 (K3 (K0 (K1 (l_y rfl rfl (y_fldb (o' := 0) rfl) (l_y rfl rfl (D5 hO rfl) ?_)))))
   refine V1 rfl rfl rfl ?_
   refine Z0 (fun h6_3 => ?_) (fun h6_3 => ?_)
   ·refine K2 (K3 (L8 (K0 (K1 (V1 rfl rfl rfl (V2 rfl rfl rfl (K2 (K3 (K6 (L0 (K9 (K9 (L0 (K9 ?_))))))))))))))
    rw [show findE L x = i by rw [findE, if_neg h1_4]; exact idx_at (i := i) (by omega) (decide_eq_true h6_3) hn]
    exact fin1 rfl rfl ⟨_, ⟨rfl, rfl⟩, hO.only [.b s, .p p]⟩
   ·refine K2 (K3 (L9 (K5 (K8 (K3 (K1 (l_y rfl rfl (D4) ?_)))))))
    refine V1 rfl rfl rfl (K2 ?_)
    exact q_next (i + 1) ⟨rfl, rfl, rfl, rfl, rfl, trivial⟩ ⟨hO.only [.b s, .p p], by omega, fun j hj => (by by_cases e : j = i; (subst e; exact decide_eq_false (fun h => h6_3 h)); exact hn j (by omega))⟩ (by omega)
  ·refine K2 (K3 (K0 (L9 (K7 (L1 (L1 (L2 (K3 (K0 (K1 (V2 rfl rfl rfl (K2 (K3 (K6 ?_))))))))))))))
   rw [show findE L x = -1 by rw [findE, if_neg h1_4]; exact idx_none (fun j hj => hn j (by omega))]
   exact fin1 rfl rfl ⟨_, ⟨rfl, rfl⟩, hO.only [.b s, .p p]⟩
theorem aFind_spec {x : Int} (hl : L.length ≤ 2000000) (hO : Own k w [actL s a L]) :
  Tri Tryz.prog 36 #[.pointer (some ⟨s, 0, none⟩), .int .i64 x] k w fun v m => v = .int .i64 (findE L x) ∧ m = [actL s a L] := by
 obtain ⟨p, c, hg, hlc, hO⟩ := actL_open hO
 refine Ret.mono (aFindB_spec hg hl hO) ?_
 rintro v w' ⟨m, ⟨rfl, rfl⟩, hO⟩
 exact ⟨_, ⟨rfl, rfl⟩, actL_shut hO⟩
theorem aAt_spec {i : Int} (hl : L.length ≤ 2000000) (hO : Own k w [actL s a L]) :
    Tri Tryz.prog 17 #[.pointer (some ⟨s, 0, none⟩), .int .i64 i] k w fun v m => (((i < 0 ∨ (L.length : Int) ≤ i) ∧ v = .tuple #[.agg (Api_entry.cells default).toArray, .int .i64 1]) ∨ ((0 ≤ i ∧ i < L.length) ∧ v = .tuple #[.agg (Api_entry.cells (at_ L i.toNat)).toArray, .int .i64 0])) ∧ m = [actL s a L] := by
  refine enter (args := [.pointer (some ⟨s, 0, none⟩), .int .i64 i]) Tryz.func17 rfl rfl ?_
  obtain ⟨p, c, hg, hlc, hO⟩ := actL_open hO
  refine K0 (K1 (s_alloc (vs := [.int .i64 0, .int .i64 0, .string ⟨#[]⟩, .string ⟨#[]⟩, .string ⟨#[]⟩, .int .i64 0, .bool false, .int .i32 0, .bool false, .slice none 0 0]) hO rfl rfl rfl fun b4 w hO => ?_))
  refine V2 rfl rfl rfl (K2 (K3 (K0 (K4 (K0 (K1 (V1 rfl rfl rfl (CK [.b s] hO rfl (fun k' hx hr hO' => anone_spec (hO := hO')) ?_))))))))
  rintro _ _ w ⟨rfl, rfl⟩ hO
  simp only [List.cons_append, List.nil_append] at hO
  refine V2 rfl rfl rfl (K2 (K3 (L9 (K0 (K1 (V1 rfl rfl rfl ?_))))))
  refine Z0 (fun h3_1 => ?_) (fun h3_1 => ?_)
  · refine V1 rfl rfl rfl ?_
    repeat refine M2 ?_
    refine l_y rfl rfl (y_pick_t rfl rfl) (V2 rfl rfl rfl (K2 (K3 (L8 (K0 (K1 (s_build (parts := []) (cs := [.int .i64 0, .int .i64 0, .string ⟨#[]⟩, .string ⟨#[]⟩, .string ⟨#[]⟩, .int .i64 0, .bool false, .int .i32 0, .bool false, .slice none 0 0]) rfl rfl (fun a ha => partsOf_sound ha _ _ rfl) (by kernel_rfl) (Y3 hO rfl rfl (fun w hO => ?_)))))))))
    refine V2 rfl rfl rfl (K2 (K3 (K6 (L0 (K9 ?_)))))
    exact finC1 hO rfl rfl rfl ⟨_, ⟨.inl ⟨by omega, rfl⟩, rfl⟩, (actL_shut (hO.ks [.b s, .p p])).one⟩
  · refine V1 rfl rfl rfl (V1 rfl rfl rfl (V1 rfl rfl rfl (V3 rfl rfl rfl rfl (l_y rfl rfl (y_fldb (o' := 1) rfl) (l_y rfl rfl (D5 hO rfl) ?_)))))
    refine l_y rfl rfl (y_lenL rfl) ?_
    refine Z0 (fun h3_9 => ?_) (fun h3_9 => ?_)
    · refine l_y rfl rfl (y_pick_f rfl rfl) (V2 rfl rfl rfl (K2 (K3 (L8 (K0 (K1 (s_build (parts := []) (cs := [.int .i64 0, .int .i64 0, .string ⟨#[]⟩, .string ⟨#[]⟩, .string ⟨#[]⟩, .int .i64 0, .bool false, .int .i32 0, .bool false, .slice none 0 0]) rfl rfl (fun a ha => partsOf_sound ha _ _ rfl) (by kernel_rfl) (Y3 hO rfl rfl (fun w hO => ?_)))))))))
      refine V2 rfl rfl rfl (K2 (K3 (K6 (L0 (K9 ?_)))))
      exact finC1 hO rfl rfl rfl ⟨_, ⟨.inl ⟨by omega, rfl⟩, rfl⟩, (actL_shut (hO.ks [.b s, .p p])).one⟩
    · refine l_y rfl rfl (y_pick_f rfl rfl) (V2 rfl rfl rfl (K2 (K3 (L9 (K5 (K8 (K3 (K0 (K1 (V1 rfl rfl rfl (V3 rfl rfl rfl rfl (l_y rfl rfl (y_fldb (o' := 1) rfl) (l_y rfl rfl (D5 hO rfl) ?_)))))))))))))
      refine V1 rfl rfl rfl (l_y rfl rfl (y_idx rfl rfl) ?_)
      refine l_y rfl rfl (y_eA (x0 := 0) (cs := [.int .i64 (at_ L (i : Int).toNat).Node, .int .i64 (at_ L (i : Int).toNat).Token.Kind, .string (at_ L (i : Int).toNat).Token.Name, .string (at_ L (i : Int).toNat).Token.Data, .string (at_ L (i : Int).toNat).Token.System, .int .i64 (at_ L (i : Int).toNat).Token.Has, .bool (at_ L (i : Int).toNat).Token.Quirks, .int .i32 (at_ L (i : Int).toNat).Token.Char, .bool (at_ L (i : Int).toNat).Token.Self, .slice (at_ L (i : Int).toNat).Token.AttrsP (at_ L (i : Int).toNat).Token.Attrs.length (at_ L (i : Int).toNat).Token.AttrsC]) hO rfl) ?_
      refine Y3 hO rfl rfl (fun w hO => ?_)
      refine V2 rfl rfl rfl (K2 (K3 (K6 ?_)))
      exact finC1 hO rfl rfl rfl ⟨_, ⟨.inr ⟨by omega, rfl⟩, rfl⟩, (actL_shut (hO.ks [.b s, .p p])).one⟩
end
end Go.Proofs.YtoohapbaelmkcaaGreat
end
section
set_option maxRecDepth 100000
namespace Go.Proofs.YtoohapbaelmkcaaGreat
open Go Go.Hb Go.RowKit
section
variable {k : Ctx} {w : World} {s a c : Nat} {p : Option Addr} {L : List Api_entry} {A : List Node_one}
def withinB (xs ys : List Api_attr) : Bool := xs.all fun x => ys.any fun y => decide (x = y)
theorem any_snoc {α : Type} [Inhabited α] {xs : List α} {f : α → Bool} {i : Nat} (hi : i < xs.length) : (xs.take (i + 1)).any f = ((xs.take i).any f || f (at_ xs i)) := by
 rw [take_succ_at hi]; simp
theorem within_spec {xs ys : List Api_attr} {px py : Option Addr} {cx cy : Nat} (hx1 : Sli (Ro k) (.slice px xs.length cx) (xs.map Api_attr.cells)) (hy1 : Sli (Ro k) (.slice py ys.length cy) (ys.map Api_attr.cells)) (hxl : xs.length ≤ 9223372036854775807) (hyl : ys.length ≤ 9223372036854775807) (hO : Own k w []) :
  Tri Tryz.prog 95 #[.slice px xs.length cx, .slice py ys.length cy] k w fun v m => v = .bool (withinB xs ys) ∧ m = [] := by
 refine enter (args := [.slice px xs.length cx, .slice py ys.length cy]) Tryz.func95 rfl rfl ?_
 have hgx := sli_gs hx1
 have hgy := sli_gs hy1
 refine K0 (K1 (V2 rfl rfl rfl (K2 (K3 (K0 (K0 (K1 (V1 rfl rfl rfl (l_y rfl rfl (y_lenL rfl) (V1 rfl rfl rfl (K2 (K3 (K4 (c_rounds (X := Nat) (fun i => [(1, .slice py ys.length cy), (4, .bool false), (10, .slice px xs.length cx), (11, .int .i64 ((xs.length : Nat) : Int)), (12, .int .i64 (i : Int))]) (fun i w => Own k w [] ∧ (i ≤ xs.length) ∧ (withinB (xs.take i) ys = true)) (fun i => xs.length - i) (0) ⟨rfl, rfl, rfl, rfl, rfl, trivial⟩ ⟨hO.only [], Nat.zero_le _, rfl⟩ ?_))))))))))))))
 rintro i w m hm ⟨hO, hi, hn⟩
 refine K0 (K1 ?_)
 refine Z0 (fun h2_0 => ?_) (fun h2_0 => ?_)
 ·refine K2 (K3 (K0 (L8 (K5 (K3 (K0 (K4 (K0 (K1 (l_y rfl rfl (y_idx rfl rfl) ?_))))))))))
  refine l_y rfl rfl (y_rA (x0 := 0) (enc := Api_attr.cells) (xs := xs) (cs := [.int .i64 (at_ xs ((i : Int) : Int).toNat).Space, .string (at_ xs ((i : Int) : Int).toNat).Prefix, .string (at_ xs ((i : Int) : Int).toNat).Name, .string (at_ xs ((i : Int) : Int).toNat).Value]) hO rfl) (s_alloc (vs := [.int .i64 0, .string ⟨#[]⟩, .string ⟨#[]⟩, .string ⟨#[]⟩]) hO rfl rfl rfl fun b6 w hO => ?_)
  refine Y3 hO rfl rfl (fun w hO => ?_)
  refine K2 (K3 (K0 (K1 (V2 rfl rfl rfl (K2 (K3 (K0 (K0 (K1 (V1 rfl rfl rfl (l_y rfl rfl (y_lenL rfl) (V1 rfl rfl rfl (K2 (K3 (K4 (c_rounds (X := Nat × Bool) (fun x => [(1, .slice py ys.length cy), (4, .bool false), (6, .pointer (some ⟨b6, 0, none⟩)), (7, .bool x.2), (10, .slice px xs.length cx), (11, .int .i64 ((xs.length : Nat) : Int)), (12, .int .i64 (i : Int)), (16, .slice py ys.length cy), (17, .int .i64 ((ys.length : Nat) : Int)), (18, .int .i64 (x.1 : Int))]) (fun x w => Own k w [blk b6 115 (Api_attr.cells (at_ xs i))] ∧ (x.1 ≤ ys.length) ∧ (x.2 = (ys.take x.1).any fun y => decide (at_ xs i = y))) (fun x => ys.length - x.1) ((0, false)) ⟨rfl, rfl, rfl, rfl, rfl, rfl, rfl, rfl, rfl, rfl, trivial⟩ ⟨hO.only [.b b6], Nat.zero_le _, rfl⟩ ?_))))))))))))))))
  rintro x w m hm ⟨hO, hj, hb⟩
  refine K0 (K1 ?_)
  refine Z0 (fun h6_0 => ?_) (fun h6_0 => ?_)
  ·refine K2 (K3 (K0 (L8 (K5 (K3 (K0 (K4 (K0 (K1 (l_y rfl rfl (y_idx rfl rfl) ?_))))))))))
   refine l_y rfl rfl (y_rA (x0 := 0) (enc := Api_attr.cells) (xs := ys) (cs := [.int .i64 (at_ ys ((x.1 : Int) : Int).toNat).Space, .string (at_ ys ((x.1 : Int) : Int).toNat).Prefix, .string (at_ ys ((x.1 : Int) : Int).toNat).Name, .string (at_ ys ((x.1 : Int) : Int).toNat).Value]) hO rfl) (s_alloc (vs := [.int .i64 0, .string ⟨#[]⟩, .string ⟨#[]⟩, .string ⟨#[]⟩]) hO rfl rfl rfl fun b9 w hO => ?_)
   refine Y3 hO rfl rfl (fun w hO => ?_)
   refine K2 (K3 (K1 (V1 rfl rfl rfl (V1 rfl rfl rfl ?_))))
   refine l_split 23 rfl (fun hg23 => ?_) (fun hg23 => ?_)
   ·repeat refine M2 ?_
    refine l_y rfl rfl (y_pick_t rfl rfl) (V2 rfl rfl rfl (K2 (K8 (K3 (K1 (l_y rfl rfl (D4) ?_))))))
    refine V1 rfl rfl rfl (K2 ?_)
    exact q_next ((x.1 + 1, _)) ⟨rfl, rfl, rfl, rfl, rfl, rfl, rfl, rfl, rfl, rfl, trivial⟩ ⟨hO.only [.b b6], by dsimp only; omega, (by dsimp only; rw [any_snoc (by omega), ← hb, hg23]; first | rfl | exact (Bool.true_or _).symm | exact (Bool.false_or _).symm)⟩ (by dsimp only; omega)
   ·refine l_y rfl rfl (D8 (cs := [.int .i64 (at_ xs ((i : Int) : Int).toNat).Space, .string (at_ xs ((i : Int) : Int).toNat).Prefix, .string (at_ xs ((i : Int) : Int).toNat).Name, .string (at_ xs ((i : Int) : Int).toNat).Value]) hO rfl) ?_
    refine l_y rfl rfl (D8 (cs := [.int .i64 (at_ ys ((x.1 : Int) : Int).toNat).Space, .string (at_ ys ((x.1 : Int) : Int).toNat).Prefix, .string (at_ ys ((x.1 : Int) : Int).toNat).Name, .string (at_ ys ((x.1 : Int) : Int).toNat).Value]) hO rfl) ?_
    refine l_y rfl rfl (y_eqA (enc := Api_attr.cells) (a := at_ xs i) (b := at_ ys x.1) (c := decide (at_ xs i = at_ ys x.1)) rfl rfl rfl) (l_y rfl rfl (y_pick_f rfl rfl) (V2 rfl rfl rfl (K2 (K8 (K3 (K1 (l_y rfl rfl (D4) ?_)))))))
    refine V1 rfl rfl rfl (K2 ?_)
    exact q_next ((x.1 + 1, _)) ⟨rfl, rfl, rfl, rfl, rfl, rfl, rfl, rfl, rfl, rfl, trivial⟩ ⟨hO.only [.b b6], by dsimp only; omega, (by dsimp only; rw [any_snoc (by omega), ← hb, hg23]; first | rfl | exact (Bool.true_or _).symm | exact (Bool.false_or _).symm)⟩ (by dsimp only; omega)
  ·refine K2 (K3 (K0 (L9 (K7 (L1 (L1 (L2 (K3 (K0 ?_)))))))))
   have hb2 : x.2 = ys.any fun y => decide (at_ xs i = y) := by rw [hb, List.take_of_length_le (by omega)]
   refine K1 (V1 rfl rfl rfl (l_y rfl rfl (y_not rfl rfl) (K2 (K3 ?_))))
   refine c_split rfl (fun hc30 => ?_) (fun hc30 => ?_)
   ·simp only [Bool.not_eq_true', Bool.not_eq_false'] at hc30
    refine K0 (K1 (V2 rfl rfl rfl (K2 (K3 (K6 (L0 (K9 (K9 (L0 (K9 ?_))))))))))
    have e : withinB xs ys = false := List.all_eq_false.2 ⟨at_ xs i, at_mem (by omega), by rw [← hb2]; simpa using hc30⟩
    exact fin1 rfl rfl ⟨_, ⟨by rw [e], rfl⟩, hO.only []⟩
   ·simp only [Bool.not_eq_true', Bool.not_eq_false'] at hc30
    refine K5 (K8 (K3 ?_))
    have hn2 : withinB (xs.take (i + 1)) ys = true := by
     rw [take_succ_at (by omega)]
     simp only [withinB, List.all_append, List.all_cons, List.all_nil, Bool.and_true, Bool.and_eq_true]
     exact ⟨hn, by rw [← hb2]; simpa using hc30⟩
    refine K1 (l_y rfl rfl (D4) ?_)
    refine V1 rfl rfl rfl (K2 ?_)
    exact q_next (i + 1) ⟨rfl, rfl, rfl, rfl, rfl, trivial⟩ ⟨hO.only [], by omega, hn2⟩ (by omega)
 ·refine K2 (K3 (K0 (L9 (K7 (L1 (L1 (L2 (K3 (K0 (K1 (V2 rfl rfl rfl (K2 (K3 (K6 ?_))))))))))))))
  have e : withinB xs ys = true := by rw [← hn, List.take_of_length_le (by omega)]
  exact fin1 rfl rfl ⟨_, ⟨by rw [e], rfl⟩, hO.only []⟩
def EOk (k : Ctx) (e : Api_entry) : Prop := Sli (Ro k) (.slice e.Token.AttrsP e.Token.Attrs.length e.Token.AttrsC) (e.Token.Attrs.map Api_attr.cells) ∧ e.Token.Attrs.length ≤ 9223372036854775807
def kinB (A : List Node_one) (x y : Api_entry) : Bool := decide ((nodeA A x.Node).Name = (nodeA A y.Node).Name) && decide ((nodeA A x.Node).Space = (nodeA A y.Node).Space) && withinB x.Token.Attrs y.Token.Attrs && withinB y.Token.Attrs x.Token.Attrs
set_option maxHeartbeats 2000000 in
theorem kin_spec {n : Nat} {x y : Api_entry} (hn : 0 < A.length) (ha : AttrsOk A) (hbx : hasB A x.Node = true) (hby : hasB A y.Node = true) (hx1 : EOk k x) (hy1 : EOk k y) (hO : Own k w [arenaL a A, aB s a p n c]) :
  Tri Tryz.prog 59 #[.pointer (some ⟨s, 0, none⟩), .agg (Api_entry.cells x).toArray, .agg (Api_entry.cells y).toArray] k w fun v m => v = .bool (kinB A x y) ∧ m = [arenaL a A, aB s a p n c] := by
 refine enter (args := [.pointer (some ⟨s, 0, none⟩), .agg (Api_entry.cells x).toArray, .agg (Api_entry.cells y).toArray]) Tryz.func59 rfl rfl ?_
 have hxs := hx1.1
 have hys := hy1.1
 have hxl := hx1.2
 have hyl := hy1.2
 refine K0 (K1 (s_box (vs := [.int .i64 x.Node, .int .i64 x.Token.Kind, .string x.Token.Name, .string x.Token.Data, .string x.Token.System, .int .i64 x.Token.Has, .bool x.Token.Quirks, .int .i32 x.Token.Char, .bool x.Token.Self, .slice x.Token.AttrsP x.Token.Attrs.length x.Token.AttrsC]) hO rfl rfl rfl (by rfl) fun b4 w hO => ?_))
 refine s_box (vs := [.int .i64 y.Node, .int .i64 y.Token.Kind, .string y.Token.Name, .string y.Token.Data, .string y.Token.System, .int .i64 y.Token.Has, .bool y.Token.Quirks, .int .i32 y.Token.Char, .bool y.Token.Self, .slice y.Token.AttrsP y.Token.Attrs.length y.Token.AttrsC]) hO rfl rfl rfl (by rfl) fun b5 w hO => ?_
 refine V2 rfl rfl rfl (K2 (K3 (K0 (da_region (by intro c a d v w h; cases d <;> exact h) ?_))))
 have hO := hO.drew
 refine da_phase _ [11] (SO.ks [.b s, .b b4] hO) ?_
 refine dx_u 0 (by kernel_rfl) rfl rfl rfl (fun w => y_move rfl) ?_
 refine dx_u 1 (by kernel_rfl) rfl rfl rfl (fun w => y_nilCheck rfl rfl) ?_
 refine dx_u 2 (by kernel_rfl) rfl rfl rfl (fun w => y_fldb (o' := 0) rfl) ?_
 refine dx_y 3 (by kernel_rfl) rfl rfl rfl (fun w ⟨m, hw⟩ => D5 hw rfl) ?_
 refine dx_u 4 (by kernel_rfl) rfl rfl rfl (fun w => y_fldb (o' := 0) rfl) ?_
 refine dx_y 5 (by kernel_rfl) rfl rfl rfl (fun w ⟨m, hw⟩ => D5 hw rfl) ?_
 refine dx_two 6 10 (by kernel_rfl) rfl rfl rfl rfl ?_ ?_
 ·refine CK [.o a] hO rfl (fun k' hx hr hO' => NodeD_spec hn ha (hO := hO')) ?_
  rintro _ _ w ⟨n1, hn1, rfl, rfl⟩ hO
  simp only [List.cons_append, List.nil_append] at hO
  refine o_done (⟨SO.ks [.b s, .b b4] hO, ?_⟩)
  refine dx_u 7 (by kernel_rfl) rfl rfl rfl (fun w => y_move rfl) ?_
  refine dx_u 8 (by kernel_rfl) rfl rfl rfl (fun w => y_extract rfl rfl) ?_
  refine dx_u 9 (by kernel_rfl) rfl rfl rfl (fun w => y_extract rfl rfl) ?_
  refine dx_only 10 (by kernel_rfl) rfl rfl ?_
  refine s_alloc (vs := [.int .i64 0, .int .i64 0, .string ⟨#[]⟩, .slice none 0 0, .string ⟨#[]⟩, .string ⟨#[]⟩, .int .i64 0, .int .i64 0, .int .i64 0, .int .i64 0, .int .i64 0, .int .i64 0]) hO rfl rfl rfl fun b7 w hO => ?_
  refine o_done (⟨SO.ks [.b s, .b b4] hO, ?_⟩)
  refine dx_close 11 (by kernel_rfl) rfl rfl ?_
  refine Y3 hO rfl rfl (fun w hO => ?_)
  refine o_done (da_phase _ [] (SO.ks [] hO) ?_)
  refine dx_u 12 (by kernel_rfl) rfl rfl rfl (fun w => y_assign rfl) ?_
  refine dx_end (by kernel_rfl) ?_
  refine K3 (K0 (da_region (by intro c a d v w h; cases d <;> exact h) ?_))
  have hO := hO.drew
  refine da_phase _ [11] (SO.ks [.b s, .b b5] hO) ?_
  refine dx_u 0 (by kernel_rfl) rfl rfl rfl (fun w => y_move rfl) ?_
  refine dx_u 1 (by kernel_rfl) rfl rfl rfl (fun w => y_nilCheck rfl rfl) ?_
  refine dx_u 2 (by kernel_rfl) rfl rfl rfl (fun w => y_fldb (o' := 0) rfl) ?_
  refine dx_y 3 (by kernel_rfl) rfl rfl rfl (fun w ⟨m, hw⟩ => D5 hw rfl) ?_
  refine dx_u 4 (by kernel_rfl) rfl rfl rfl (fun w => y_fldb (o' := 0) rfl) ?_
  refine dx_y 5 (by kernel_rfl) rfl rfl rfl (fun w ⟨m, hw⟩ => D5 hw rfl) ?_
  refine dx_two 6 10 (by kernel_rfl) rfl rfl rfl rfl ?_ ?_
  ·refine CK [.o a] hO rfl (fun k' hx hr hO' => NodeD_spec hn ha (hO := hO')) ?_
   rintro _ _ w ⟨n2, hn2, rfl, rfl⟩ hO
   simp only [List.cons_append, List.nil_append] at hO
   refine o_done (⟨SO.ks [.b s, .b b5] hO, ?_⟩)
   refine dx_u 7 (by kernel_rfl) rfl rfl rfl (fun w => y_move rfl) ?_
   refine dx_u 8 (by kernel_rfl) rfl rfl rfl (fun w => y_extract rfl rfl) ?_
   refine dx_u 9 (by kernel_rfl) rfl rfl rfl (fun w => y_extract rfl rfl) ?_
   refine dx_only 10 (by kernel_rfl) rfl rfl ?_
   refine s_alloc (vs := [.int .i64 0, .int .i64 0, .string ⟨#[]⟩, .slice none 0 0, .string ⟨#[]⟩, .string ⟨#[]⟩, .int .i64 0, .int .i64 0, .int .i64 0, .int .i64 0, .int .i64 0, .int .i64 0]) hO rfl rfl rfl fun b9 w hO => ?_
   refine o_done (⟨SO.ks [.b s, .b b5] hO, ?_⟩)
   refine dx_close 11 (by kernel_rfl) rfl rfl ?_
   refine Y3 hO rfl rfl (fun w hO => ?_)
   refine o_done (da_phase _ [] (SO.ks [] hO) ?_)
   refine dx_u 12 (by kernel_rfl) rfl rfl rfl (fun w => y_assign rfl) ?_
   refine dx_end (by kernel_rfl) ?_
   refine K3 (K0 ?_)
   have e1 : n1.Name = (nodeA A x.Node).Name := hn1.name hbx
   have e2 : n2.Name = (nodeA A y.Node).Name := hn2.name hby
   have e3 : n1.Space = (nodeA A x.Node).Space := hn1.space hbx
   have e4 : n2.Space = (nodeA A y.Node).Space := hn2.space hby
   refine K1 (l_y rfl rfl (y_fldb (o' := 2) rfl) (l_y rfl rfl (D5 hO rfl) ?_))
   refine l_y rfl rfl (y_fldb (o' := 2) rfl) (l_y rfl rfl (D5 hO rfl) ?_)
   refine Z2 (fun h3_4 => ?_) (fun h3_4 => ?_)
   ·refine V1 rfl rfl rfl (l_y rfl rfl (y_fldb (o' := 1) rfl) (l_y rfl rfl (D5 hO rfl) ?_))
    refine l_y rfl rfl (y_fldb (o' := 1) rfl) (l_y rfl rfl (D5 hO rfl) ?_)
    refine Z0 (fun h3_10 => ?_) (fun h3_10 => ?_)
    ·refine l_y rfl rfl (y_pick_t rfl rfl) (V1 rfl rfl rfl (l_y rfl rfl (y_fldb (o' := 1) rfl) (l_y rfl rfl (y_fldb (o' := 9) rfl) (l_y rfl rfl (D5 hO rfl) ?_))))
     refine l_y rfl rfl (y_fldb (o' := 1) rfl) (l_y rfl rfl (y_fldb (o' := 9) rfl) (l_y rfl rfl (D5 hO rfl) ?_))
     refine CK [] hO rfl (fun k' hx hr hO' => within_spec (hxs.ext hO hx) (hys.ext hO hx) hxl hyl (hO := hO')) ?_
     rintro _ _ w ⟨rfl, rfl⟩ hO
     simp only [List.cons_append, List.nil_append] at hO
     refine l_y rfl rfl (y_pick_t rfl rfl) (V1 rfl rfl rfl ?_)
     refine l_split 52 rfl (fun hg52 => ?_) (fun hg52 => ?_)
     ·refine l_y rfl rfl (y_fldb (o' := 1) rfl) (l_y rfl rfl (y_fldb (o' := 9) rfl) (l_y rfl rfl (D5 hO rfl) ?_))
      refine l_y rfl rfl (y_fldb (o' := 1) rfl) (l_y rfl rfl (y_fldb (o' := 9) rfl) (l_y rfl rfl (D5 hO rfl) ?_))
      refine CK [] hO rfl (fun k' hx hr hO' => within_spec (hys.ext hO hx) (hxs.ext hO hx) hyl hxl (hO := hO')) ?_
      rintro _ _ w ⟨rfl, rfl⟩ hO
      simp only [List.cons_append, List.nil_append] at hO
      refine l_y rfl rfl (y_pick_t rfl rfl) (V2 rfl rfl rfl (K2 (K3 (K6 ?_))))
      exact fin1 rfl rfl ⟨_, ⟨by rw [kinB, ← e1, ← e2, ← e3, ← e4]; first | simp [h3_4, h3_10, hg52] | simp [h3_4, h3_10] | simp [h3_4], rfl⟩, hO.only [.o a, .b s]⟩
     ·repeat refine M2 ?_
      refine l_y rfl rfl (y_pick_f rfl rfl) (V2 rfl rfl rfl (K2 (K3 (K6 ?_))))
      exact fin1 rfl rfl ⟨_, ⟨by rw [kinB, ← e1, ← e2, ← e3, ← e4]; first | simp [h3_4, h3_10, hg52] | simp [h3_4, h3_10] | simp [h3_4], rfl⟩, hO.only [.o a, .b s]⟩
    ·refine l_y rfl rfl (y_pick_t rfl rfl) (V1 rfl rfl rfl ?_)
     repeat refine M2 ?_
     refine l_y rfl rfl (y_pick_f rfl rfl) (V1 rfl rfl rfl ?_)
     repeat refine M2 ?_
     refine l_y rfl rfl (y_pick_f rfl rfl) (V2 rfl rfl rfl (K2 (K3 (K6 ?_))))
     exact fin1 rfl rfl ⟨_, ⟨by rw [kinB, ← e1, ← e2, ← e3, ← e4]; first | simp [h3_4, h3_10, hg52] | simp [h3_4, h3_10] | simp [h3_4], rfl⟩, hO.only [.o a, .b s]⟩
   ·refine V1 rfl rfl rfl ?_
    repeat refine M2 ?_
    refine l_y rfl rfl (y_pick_f rfl rfl) (V1 rfl rfl rfl ?_)
    repeat refine M2 ?_
    refine l_y rfl rfl (y_pick_f rfl rfl) (V1 rfl rfl rfl ?_)
    repeat refine M2 ?_
    refine l_y rfl rfl (y_pick_f rfl rfl) (V2 rfl rfl rfl (K2 (K3 (K6 ?_))))
    exact fin1 rfl rfl ⟨_, ⟨by rw [kinB, ← e1, ← e2, ← e3, ← e4]; first | simp [h3_4, h3_10, hg52] | simp [h3_4, h3_10] | simp [h3_4], rfl⟩, hO.only [.o a, .b s]⟩
  ·refine s_alloc (vs := [.int .i64 0, .int .i64 0, .string ⟨#[]⟩, .slice none 0 0, .string ⟨#[]⟩, .string ⟨#[]⟩, .int .i64 0, .int .i64 0, .int .i64 0, .int .i64 0, .int .i64 0, .int .i64 0]) hO rfl rfl rfl fun b9 w hO => ?_
   refine o_done (⟨SO.ks [.b s, .b b5] hO, ?_⟩)
   refine dx_only 6 (by kernel_rfl) rfl rfl ?_
   refine CK [.o a] hO rfl (fun k' hx hr hO' => NodeD_spec hn ha (hO := hO')) ?_
   rintro _ _ w ⟨n2, hn2, rfl, rfl⟩ hO
   simp only [List.cons_append, List.nil_append] at hO
   refine o_done (⟨SO.ks [.b s, .b b5] hO, ?_⟩)
   refine dx_u 7 (by kernel_rfl) rfl rfl rfl (fun w => y_move rfl) ?_
   refine dx_u 8 (by kernel_rfl) rfl rfl rfl (fun w => y_extract rfl rfl) ?_
   refine dx_u 9 (by kernel_rfl) rfl rfl rfl (fun w => y_extract rfl rfl) ?_
   refine dx_close 11 (by kernel_rfl) rfl rfl ?_
   refine Y3 hO rfl rfl (fun w hO => ?_)
   refine o_done (da_phase _ [] (SO.ks [] hO) ?_)
   refine dx_u 12 (by kernel_rfl) rfl rfl rfl (fun w => y_assign rfl) ?_
   refine dx_end (by kernel_rfl) ?_
   refine K3 (K0 ?_)
   have e1 : n1.Name = (nodeA A x.Node).Name := hn1.name hbx
   have e2 : n2.Name = (nodeA A y.Node).Name := hn2.name hby
   have e3 : n1.Space = (nodeA A x.Node).Space := hn1.space hbx
   have e4 : n2.Space = (nodeA A y.Node).Space := hn2.space hby
   refine K1 (l_y rfl rfl (y_fldb (o' := 2) rfl) (l_y rfl rfl (D5 hO rfl) ?_))
   refine l_y rfl rfl (y_fldb (o' := 2) rfl) (l_y rfl rfl (D5 hO rfl) ?_)
   refine Z2 (fun h3_4 => ?_) (fun h3_4 => ?_)
   ·refine V1 rfl rfl rfl (l_y rfl rfl (y_fldb (o' := 1) rfl) (l_y rfl rfl (D5 hO rfl) ?_))
    refine l_y rfl rfl (y_fldb (o' := 1) rfl) (l_y rfl rfl (D5 hO rfl) ?_)
    refine Z0 (fun h3_10 => ?_) (fun h3_10 => ?_)
    ·refine l_y rfl rfl (y_pick_t rfl rfl) (V1 rfl rfl rfl (l_y rfl rfl (y_fldb (o' := 1) rfl) (l_y rfl rfl (y_fldb (o' := 9) rfl) (l_y rfl rfl (D5 hO rfl) ?_))))
     refine l_y rfl rfl (y_fldb (o' := 1) rfl) (l_y rfl rfl (y_fldb (o' := 9) rfl) (l_y rfl rfl (D5 hO rfl) ?_))
     refine CK [] hO rfl (fun k' hx hr hO' => within_spec (hxs.ext hO hx) (hys.ext hO hx) hxl hyl (hO := hO')) ?_
     rintro _ _ w ⟨rfl, rfl⟩ hO
     simp only [List.cons_append, List.nil_append] at hO
     refine l_y rfl rfl (y_pick_t rfl rfl) (V1 rfl rfl rfl ?_)
     refine l_split 52 rfl (fun hg52 => ?_) (fun hg52 => ?_)
     ·refine l_y rfl rfl (y_fldb (o' := 1) rfl) (l_y rfl rfl (y_fldb (o' := 9) rfl) (l_y rfl rfl (D5 hO rfl) ?_))
      refine l_y rfl rfl (y_fldb (o' := 1) rfl) (l_y rfl rfl (y_fldb (o' := 9) rfl) (l_y rfl rfl (D5 hO rfl) ?_))
      refine CK [] hO rfl (fun k' hx hr hO' => within_spec (hys.ext hO hx) (hxs.ext hO hx) hyl hxl (hO := hO')) ?_
      rintro _ _ w ⟨rfl, rfl⟩ hO
      simp only [List.cons_append, List.nil_append] at hO
      refine l_y rfl rfl (y_pick_t rfl rfl) (V2 rfl rfl rfl (K2 (K3 (K6 ?_))))
      exact fin1 rfl rfl ⟨_, ⟨by rw [kinB, ← e1, ← e2, ← e3, ← e4]; first | simp [h3_4, h3_10, hg52] | simp [h3_4, h3_10] | simp [h3_4], rfl⟩, hO.only [.o a, .b s]⟩
     ·repeat refine M2 ?_
      refine l_y rfl rfl (y_pick_f rfl rfl) (V2 rfl rfl rfl (K2 (K3 (K6 ?_))))
      exact fin1 rfl rfl ⟨_, ⟨by rw [kinB, ← e1, ← e2, ← e3, ← e4]; first | simp [h3_4, h3_10, hg52] | simp [h3_4, h3_10] | simp [h3_4], rfl⟩, hO.only [.o a, .b s]⟩
    ·refine l_y rfl rfl (y_pick_t rfl rfl) (V1 rfl rfl rfl ?_)
     repeat refine M2 ?_
     refine l_y rfl rfl (y_pick_f rfl rfl) (V1 rfl rfl rfl ?_)
     repeat refine M2 ?_
     refine l_y rfl rfl (y_pick_f rfl rfl) (V2 rfl rfl rfl (K2 (K3 (K6 ?_))))
     exact fin1 rfl rfl ⟨_, ⟨by rw [kinB, ← e1, ← e2, ← e3, ← e4]; first | simp [h3_4, h3_10, hg52] | simp [h3_4, h3_10] | simp [h3_4], rfl⟩, hO.only [.o a, .b s]⟩
   ·refine V1 rfl rfl rfl ?_
    repeat refine M2 ?_
    refine l_y rfl rfl (y_pick_f rfl rfl) (V1 rfl rfl rfl ?_)
    repeat refine M2 ?_
    refine l_y rfl rfl (y_pick_f rfl rfl) (V1 rfl rfl rfl ?_)
    repeat refine M2 ?_
    refine l_y rfl rfl (y_pick_f rfl rfl) (V2 rfl rfl rfl (K2 (K3 (K6 ?_))))
    exact fin1 rfl rfl ⟨_, ⟨by rw [kinB, ← e1, ← e2, ← e3, ← e4]; first | simp [h3_4, h3_10, hg52] | simp [h3_4, h3_10] | simp [h3_4], rfl⟩, hO.only [.o a, .b s]⟩
 ·refine s_alloc (vs := [.int .i64 0, .int .i64 0, .string ⟨#[]⟩, .slice none 0 0, .string ⟨#[]⟩, .string ⟨#[]⟩, .int .i64 0, .int .i64 0, .int .i64 0, .int .i64 0, .int .i64 0, .int .i64 0]) hO rfl rfl rfl fun b7 w hO => ?_
  refine o_done (⟨SO.ks [.b s, .b b4] hO, ?_⟩)
  refine dx_only 6 (by kernel_rfl) rfl rfl ?_
  refine CK [.o a] hO rfl (fun k' hx hr hO' => NodeD_spec hn ha (hO := hO')) ?_
  rintro _ _ w ⟨n1, hn1, rfl, rfl⟩ hO
  simp only [List.cons_append, List.nil_append] at hO
  refine o_done (⟨SO.ks [.b s, .b b4] hO, ?_⟩)
  refine dx_u 7 (by kernel_rfl) rfl rfl rfl (fun w => y_move rfl) ?_
  refine dx_u 8 (by kernel_rfl) rfl rfl rfl (fun w => y_extract rfl rfl) ?_
  refine dx_u 9 (by kernel_rfl) rfl rfl rfl (fun w => y_extract rfl rfl) ?_
  refine dx_close 11 (by kernel_rfl) rfl rfl ?_
  refine Y3 hO rfl rfl (fun w hO => ?_)
  refine o_done (da_phase _ [] (SO.ks [] hO) ?_)
  refine dx_u 12 (by kernel_rfl) rfl rfl rfl (fun w => y_assign rfl) ?_
  refine dx_end (by kernel_rfl) ?_
  refine K3 (K0 (da_region (by intro c a d v w h; cases d <;> exact h) ?_))
  have hO := hO.drew
  refine da_phase _ [11] (SO.ks [.b s, .b b5] hO) ?_
  refine dx_u 0 (by kernel_rfl) rfl rfl rfl (fun w => y_move rfl) ?_
  refine dx_u 1 (by kernel_rfl) rfl rfl rfl (fun w => y_nilCheck rfl rfl) ?_
  refine dx_u 2 (by kernel_rfl) rfl rfl rfl (fun w => y_fldb (o' := 0) rfl) ?_
  refine dx_y 3 (by kernel_rfl) rfl rfl rfl (fun w ⟨m, hw⟩ => D5 hw rfl) ?_
  refine dx_u 4 (by kernel_rfl) rfl rfl rfl (fun w => y_fldb (o' := 0) rfl) ?_
  refine dx_y 5 (by kernel_rfl) rfl rfl rfl (fun w ⟨m, hw⟩ => D5 hw rfl) ?_
  refine dx_two 6 10 (by kernel_rfl) rfl rfl rfl rfl ?_ ?_
  ·refine CK [.o a] hO rfl (fun k' hx hr hO' => NodeD_spec hn ha (hO := hO')) ?_
   rintro _ _ w ⟨n2, hn2, rfl, rfl⟩ hO
   simp only [List.cons_append, List.nil_append] at hO
   refine o_done (⟨SO.ks [.b s, .b b5] hO, ?_⟩)
   refine dx_u 7 (by kernel_rfl) rfl rfl rfl (fun w => y_move rfl) ?_
   refine dx_u 8 (by kernel_rfl) rfl rfl rfl (fun w => y_extract rfl rfl) ?_
   refine dx_u 9 (by kernel_rfl) rfl rfl rfl (fun w => y_extract rfl rfl) ?_
   refine dx_only 10 (by kernel_rfl) rfl rfl ?_
   refine s_alloc (vs := [.int .i64 0, .int .i64 0, .string ⟨#[]⟩, .slice none 0 0, .string ⟨#[]⟩, .string ⟨#[]⟩, .int .i64 0, .int .i64 0, .int .i64 0, .int .i64 0, .int .i64 0, .int .i64 0]) hO rfl rfl rfl fun b9 w hO => ?_
   refine o_done (⟨SO.ks [.b s, .b b5] hO, ?_⟩)
   refine dx_close 11 (by kernel_rfl) rfl rfl ?_
   refine Y3 hO rfl rfl (fun w hO => ?_)
   refine o_done (da_phase _ [] (SO.ks [] hO) ?_)
   refine dx_u 12 (by kernel_rfl) rfl rfl rfl (fun w => y_assign rfl) ?_
   refine dx_end (by kernel_rfl) ?_
   refine K3 (K0 ?_)
   have e1 : n1.Name = (nodeA A x.Node).Name := hn1.name hbx
   have e2 : n2.Name = (nodeA A y.Node).Name := hn2.name hby
   have e3 : n1.Space = (nodeA A x.Node).Space := hn1.space hbx
   have e4 : n2.Space = (nodeA A y.Node).Space := hn2.space hby
   refine K1 (l_y rfl rfl (y_fldb (o' := 2) rfl) (l_y rfl rfl (D5 hO rfl) ?_))
   refine l_y rfl rfl (y_fldb (o' := 2) rfl) (l_y rfl rfl (D5 hO rfl) ?_)
   refine Z2 (fun h3_4 => ?_) (fun h3_4 => ?_)
   ·refine V1 rfl rfl rfl (l_y rfl rfl (y_fldb (o' := 1) rfl) (l_y rfl rfl (D5 hO rfl) ?_))
    refine l_y rfl rfl (y_fldb (o' := 1) rfl) (l_y rfl rfl (D5 hO rfl) ?_)
    refine Z0 (fun h3_10 => ?_) (fun h3_10 => ?_)
    ·refine l_y rfl rfl (y_pick_t rfl rfl) (V1 rfl rfl rfl (l_y rfl rfl (y_fldb (o' := 1) rfl) (l_y rfl rfl (y_fldb (o' := 9) rfl) (l_y rfl rfl (D5 hO rfl) ?_))))
     refine l_y rfl rfl (y_fldb (o' := 1) rfl) (l_y rfl rfl (y_fldb (o' := 9) rfl) (l_y rfl rfl (D5 hO rfl) ?_))
     refine CK [] hO rfl (fun k' hx hr hO' => within_spec (hxs.ext hO hx) (hys.ext hO hx) hxl hyl (hO := hO')) ?_
     rintro _ _ w ⟨rfl, rfl⟩ hO
     simp only [List.cons_append, List.nil_append] at hO
     refine l_y rfl rfl (y_pick_t rfl rfl) (V1 rfl rfl rfl ?_)
     refine l_split 52 rfl (fun hg52 => ?_) (fun hg52 => ?_)
     ·refine l_y rfl rfl (y_fldb (o' := 1) rfl) (l_y rfl rfl (y_fldb (o' := 9) rfl) (l_y rfl rfl (D5 hO rfl) ?_))
      refine l_y rfl rfl (y_fldb (o' := 1) rfl) (l_y rfl rfl (y_fldb (o' := 9) rfl) (l_y rfl rfl (D5 hO rfl) ?_))
      refine CK [] hO rfl (fun k' hx hr hO' => within_spec (hys.ext hO hx) (hxs.ext hO hx) hyl hxl (hO := hO')) ?_
      rintro _ _ w ⟨rfl, rfl⟩ hO
      simp only [List.cons_append, List.nil_append] at hO
      refine l_y rfl rfl (y_pick_t rfl rfl) (V2 rfl rfl rfl (K2 (K3 (K6 ?_))))
      exact fin1 rfl rfl ⟨_, ⟨by rw [kinB, ← e1, ← e2, ← e3, ← e4]; first | simp [h3_4, h3_10, hg52] | simp [h3_4, h3_10] | simp [h3_4], rfl⟩, hO.only [.o a, .b s]⟩
     ·repeat refine M2 ?_
      refine l_y rfl rfl (y_pick_f rfl rfl) (V2 rfl rfl rfl (K2 (K3 (K6 ?_))))
      exact fin1 rfl rfl ⟨_, ⟨by rw [kinB, ← e1, ← e2, ← e3, ← e4]; first | simp [h3_4, h3_10, hg52] | simp [h3_4, h3_10] | simp [h3_4], rfl⟩, hO.only [.o a, .b s]⟩
    ·refine l_y rfl rfl (y_pick_t rfl rfl) (V1 rfl rfl rfl ?_)
     repeat refine M2 ?_
     refine l_y rfl rfl (y_pick_f rfl rfl) (V1 rfl rfl rfl ?_)
     repeat refine M2 ?_
     refine l_y rfl rfl (y_pick_f rfl rfl) (V2 rfl rfl rfl (K2 (K3 (K6 ?_))))
     exact fin1 rfl rfl ⟨_, ⟨by rw [kinB, ← e1, ← e2, ← e3, ← e4]; first | simp [h3_4, h3_10, hg52] | simp [h3_4, h3_10] | simp [h3_4], rfl⟩, hO.only [.o a, .b s]⟩
   ·refine V1 rfl rfl rfl ?_
    repeat refine M2 ?_
    refine l_y rfl rfl (y_pick_f rfl rfl) (V1 rfl rfl rfl ?_)
    repeat refine M2 ?_
    refine l_y rfl rfl (y_pick_f rfl rfl) (V1 rfl rfl rfl ?_)
    repeat refine M2 ?_
    refine l_y rfl rfl (y_pick_f rfl rfl) (V2 rfl rfl rfl (K2 (K3 (K6 ?_))))
    exact fin1 rfl rfl ⟨_, ⟨by rw [kinB, ← e1, ← e2, ← e3, ← e4]; first | simp [h3_4, h3_10, hg52] | simp [h3_4, h3_10] | simp [h3_4], rfl⟩, hO.only [.o a, .b s]⟩
  ·refine s_alloc (vs := [.int .i64 0, .int .i64 0, .string ⟨#[]⟩, .slice none 0 0, .string ⟨#[]⟩, .string ⟨#[]⟩, .int .i64 0, .int .i64 0, .int .i64 0, .int .i64 0, .int .i64 0, .int .i64 0]) hO rfl rfl rfl fun b9 w hO => ?_
   refine o_done (⟨SO.ks [.b s, .b b5] hO, ?_⟩)
   refine dx_only 6 (by kernel_rfl) rfl rfl ?_
   refine CK [.o a] hO rfl (fun k' hx hr hO' => NodeD_spec hn ha (hO := hO')) ?_
   rintro _ _ w ⟨n2, hn2, rfl, rfl⟩ hO
   simp only [List.cons_append, List.nil_append] at hO
   refine o_done (⟨SO.ks [.b s, .b b5] hO, ?_⟩)
   refine dx_u 7 (by kernel_rfl) rfl rfl rfl (fun w => y_move rfl) ?_
   refine dx_u 8 (by kernel_rfl) rfl rfl rfl (fun w => y_extract rfl rfl) ?_
   refine dx_u 9 (by kernel_rfl) rfl rfl rfl (fun w => y_extract rfl rfl) ?_
   refine dx_close 11 (by kernel_rfl) rfl rfl ?_
   refine Y3 hO rfl rfl (fun w hO => ?_)
   refine o_done (da_phase _ [] (SO.ks [] hO) ?_)
   refine dx_u 12 (by kernel_rfl) rfl rfl rfl (fun w => y_assign rfl) ?_
   refine dx_end (by kernel_rfl) ?_
   refine K3 (K0 ?_)
   have e1 : n1.Name = (nodeA A x.Node).Name := hn1.name hbx
   have e2 : n2.Name = (nodeA A y.Node).Name := hn2.name hby
   have e3 : n1.Space = (nodeA A x.Node).Space := hn1.space hbx
   have e4 : n2.Space = (nodeA A y.Node).Space := hn2.space hby
   refine K1 (l_y rfl rfl (y_fldb (o' := 2) rfl) (l_y rfl rfl (D5 hO rfl) ?_))
   refine l_y rfl rfl (y_fldb (o' := 2) rfl) (l_y rfl rfl (D5 hO rfl) ?_)
   refine Z2 (fun h3_4 => ?_) (fun h3_4 => ?_)
   ·refine V1 rfl rfl rfl (l_y rfl rfl (y_fldb (o' := 1) rfl) (l_y rfl rfl (D5 hO rfl) ?_))
    refine l_y rfl rfl (y_fldb (o' := 1) rfl) (l_y rfl rfl (D5 hO rfl) ?_)
    refine Z0 (fun h3_10 => ?_) (fun h3_10 => ?_)
    ·refine l_y rfl rfl (y_pick_t rfl rfl) (V1 rfl rfl rfl (l_y rfl rfl (y_fldb (o' := 1) rfl) (l_y rfl rfl (y_fldb (o' := 9) rfl) (l_y rfl rfl (D5 hO rfl) ?_))))
     refine l_y rfl rfl (y_fldb (o' := 1) rfl) (l_y rfl rfl (y_fldb (o' := 9) rfl) (l_y rfl rfl (D5 hO rfl) ?_))
     refine CK [] hO rfl (fun k' hx hr hO' => within_spec (hxs.ext hO hx) (hys.ext hO hx) hxl hyl (hO := hO')) ?_
     rintro _ _ w ⟨rfl, rfl⟩ hO
     simp only [List.cons_append, List.nil_append] at hO
     refine l_y rfl rfl (y_pick_t rfl rfl) (V1 rfl rfl rfl ?_)
     refine l_split 52 rfl (fun hg52 => ?_) (fun hg52 => ?_)
     ·refine l_y rfl rfl (y_fldb (o' := 1) rfl) (l_y rfl rfl (y_fldb (o' := 9) rfl) (l_y rfl rfl (D5 hO rfl) ?_))
      refine l_y rfl rfl (y_fldb (o' := 1) rfl) (l_y rfl rfl (y_fldb (o' := 9) rfl) (l_y rfl rfl (D5 hO rfl) ?_))
      refine CK [] hO rfl (fun k' hx hr hO' => within_spec (hys.ext hO hx) (hxs.ext hO hx) hyl hxl (hO := hO')) ?_
      rintro _ _ w ⟨rfl, rfl⟩ hO
      simp only [List.cons_append, List.nil_append] at hO
      refine l_y rfl rfl (y_pick_t rfl rfl) (V2 rfl rfl rfl (K2 (K3 (K6 ?_))))
      exact fin1 rfl rfl ⟨_, ⟨by rw [kinB, ← e1, ← e2, ← e3, ← e4]; first | simp [h3_4, h3_10, hg52] | simp [h3_4, h3_10] | simp [h3_4], rfl⟩, hO.only [.o a, .b s]⟩
     ·repeat refine M2 ?_
      refine l_y rfl rfl (y_pick_f rfl rfl) (V2 rfl rfl rfl (K2 (K3 (K6 ?_))))
      exact fin1 rfl rfl ⟨_, ⟨by rw [kinB, ← e1, ← e2, ← e3, ← e4]; first | simp [h3_4, h3_10, hg52] | simp [h3_4, h3_10] | simp [h3_4], rfl⟩, hO.only [.o a, .b s]⟩
    ·refine l_y rfl rfl (y_pick_t rfl rfl) (V1 rfl rfl rfl ?_)
     repeat refine M2 ?_
     refine l_y rfl rfl (y_pick_f rfl rfl) (V1 rfl rfl rfl ?_)
     repeat refine M2 ?_
     refine l_y rfl rfl (y_pick_f rfl rfl) (V2 rfl rfl rfl (K2 (K3 (K6 ?_))))
     exact fin1 rfl rfl ⟨_, ⟨by rw [kinB, ← e1, ← e2, ← e3, ← e4]; first | simp [h3_4, h3_10, hg52] | simp [h3_4, h3_10] | simp [h3_4], rfl⟩, hO.only [.o a, .b s]⟩
   ·refine V1 rfl rfl rfl ?_
    repeat refine M2 ?_
    refine l_y rfl rfl (y_pick_f rfl rfl) (V1 rfl rfl rfl ?_)
    repeat refine M2 ?_
    refine l_y rfl rfl (y_pick_f rfl rfl) (V1 rfl rfl rfl ?_)
    repeat refine M2 ?_
    refine l_y rfl rfl (y_pick_f rfl rfl) (V2 rfl rfl rfl (K2 (K3 (K6 ?_))))
    exact fin1 rfl rfl ⟨_, ⟨by rw [kinB, ← e1, ← e2, ← e3, ← e4]; first | simp [h3_4, h3_10, hg52] | simp [h3_4, h3_10] | simp [h3_4], rfl⟩, hO.only [.o a, .b s]⟩
def cutE (L : List Api_entry) (i : Nat) : List Api_entry := L.take i ++ L.drop (i + 1)
set_option maxHeartbeats 2000000 in
theorem remove_spec {i : Nat} (hi : i < L.length) (hg : Gs p L.length) (hlc : L.length ≤ c) (hl : L.length ≤ 2000000) (hO : Own k w [aB s a p L.length c, aI p c L]) :
  Tri Tryz.prog 60 #[.pointer (some ⟨s, 0, none⟩), .int .i64 ((i : Nat) : Int)] k w fun v m => v = .tuple #[] ∧ m = [actL s a (cutE L i)] := by
 refine enter (args := [.pointer (some ⟨s, 0, none⟩), .int .i64 ((i : Nat) : Int)]) Tryz.func60 rfl rfl ?_
 have e9 : ((i : Int) + 1).toNat = i + 1 := by omega
 have e8 : ((i : Int)).toNat = i := by omega
 refine da_region (by intro c a d v w h; cases d <;> exact h) ?_
 have hO := hO.drew
 refine da_phase _ [24] (SO.ks [.b s] hO) ?_
 refine dx_u 0 (by kernel_rfl) rfl rfl rfl (fun w => y_move rfl) ?_
 refine dx_u 1 (by kernel_rfl) rfl rfl rfl (fun w => y_move rfl) ?_
 refine dx_u 2 (by kernel_rfl) rfl rfl rfl (fun w => y_nilCheck rfl rfl) ?_
 refine dx_u 3 (by kernel_rfl) rfl rfl rfl (fun w => y_fldb (o' := 1) rfl) ?_
 refine dx_y 4 (by kernel_rfl) rfl rfl rfl (fun w ⟨m, hw⟩ => D5 hw rfl) ?_
 refine dx_u 5 (by kernel_rfl) rfl rfl rfl (fun w => y_move rfl) ?_
 refine dx_u 6 (by kernel_rfl) rfl rfl rfl (fun w => y_move rfl) ?_
 refine dx_u 7 (by kernel_rfl) rfl rfl rfl (fun w => y_nilCheck rfl rfl) ?_
 refine dx_u 8 (by kernel_rfl) rfl rfl rfl (fun w => y_fldb (o' := 1) rfl) ?_
 refine dx_y 9 (by kernel_rfl) rfl rfl rfl (fun w ⟨m, hw⟩ => D5 hw rfl) ?_
 refine dx_u 10 (by kernel_rfl) rfl rfl rfl (fun w => y_move rfl) ?_
 refine dx_y 11 (by kernel_rfl) rfl rfl rfl (fun w ⟨m, hw⟩ => y_tl i rfl rfl) ?_
 refine dx_u 12 (by kernel_rfl) rfl rfl rfl (fun w => y_move rfl) ?_
 refine dx_u 13 (by kernel_rfl) rfl rfl rfl (fun w => y_nilCheck rfl rfl) ?_
 refine dx_u 14 (by kernel_rfl) rfl rfl rfl (fun w => y_fldb (o' := 1) rfl) ?_
 refine dx_y 15 (by kernel_rfl) rfl rfl rfl (fun w ⟨m, hw⟩ => D5 hw rfl) ?_
 refine dx_u 16 (by kernel_rfl) rfl rfl rfl (fun w => y_move rfl) ?_
 refine dx_u 17 (by kernel_rfl) rfl rfl rfl (fun w => D4) ?_
 refine dx_y 18 (by kernel_rfl) rfl rfl rfl (fun w ⟨m, hw⟩ => y_tl (i + 1) rfl rfl) ?_
 refine dx_only 19 (by kernel_rfl) rfl rfl ?_
 refine s_cpTail (p := p) hO rfl rfl hi (fun w hO => ?_)
 refine o_done (⟨SO.ks [.b s] hO, ?_⟩)
 refine dx_u 20 (by kernel_rfl) rfl rfl rfl (fun w => D4) ?_
 refine dx_y 21 (by kernel_rfl) rfl rfl rfl (fun w ⟨m, hw⟩ => y_hd (L.length - 1) rfl rfl) ?_
 refine dx_u 22 (by kernel_rfl) rfl rfl rfl (fun w => y_nilCheck rfl rfl) ?_
 refine dx_u 23 (by kernel_rfl) rfl rfl rfl (fun w => y_fldb (o' := 1) rfl) ?_
 refine dx_close 24 (by kernel_rfl) rfl rfl ?_
 refine Y1 hO rfl rfl (fun w hO => ?_)
 simp only [List.set_cons_zero, List.set_cons_succ] at hO
 refine o_done (da_end (by kernel_rfl) ?_)
 have hcl : (cutE L i).length = L.length - 1 := by simp [cutE]; omega
 have hO := sls_cut (hO.ks [.p p]) (L.length - 1) c (by simp; omega) (by omega) (Nat.le_refl _)
 rw [show (L.take i ++ L.drop (i + 1) ++ L.drop (L.length - 1)).take (L.length - 1) = cutE L i from List.take_left' hcl] at hO
 exact fin0 rfl ⟨_, ⟨rfl, rfl⟩, (actL_shut (hO.ks [.b s, .p p]) hcl.symm).one⟩
def freshF (A : List Node_one) (L : List Api_entry) (id : Int) : Int := if elB A id = false then 6 else if 0 ≤ findE L id then 1 else 0
theorem afresh_spec {id : Int} (hn : 0 < A.length) (ha : AttrsOk A) (hg : Gs p L.length) (hl : L.length ≤ 2000000) (hO : Own k w [arenaL a A, aB s a p L.length c, aI p c L]) :
  Tri Tryz.prog 57 #[.pointer (some ⟨s, 0, none⟩), .int .i64 id] k w fun v m => v = .int .i64 (freshF A L id) ∧ m = [arenaL a A, aB s a p L.length c, aI p c L] := by
 refine enter (args := [.pointer (some ⟨s, 0, none⟩), .int .i64 id]) Tryz.func57 rfl rfl (K0 (K1 (V2 rfl rfl rfl (K2 (K3 (K0 (K0 (K1 (V1 rfl rfl rfl (CK [.b s] hO rfl (fun k' hx hr hO' => anone_spec (hO := hO')) ?_))))))))))
 rintro _ _ w ⟨rfl, rfl⟩ hO
 simp only [List.cons_append, List.nil_append] at hO
 refine K2 (K3 (L9 (K5 (K3 (K0 (K1 (V1 rfl rfl rfl (V3 rfl rfl rfl rfl (l_y rfl rfl (y_fldb (o' := 0) rfl) (l_y rfl rfl (D5 hO rfl) ?_))))))))))
 refine V1 rfl rfl rfl (CK [.o a] hO rfl (fun k' hx hr hO' => NodeD_spec hn ha (hO := hO')) ?_)
 rintro _ _ w ⟨n1, hn1, rfl, rfl⟩ hO
 simp only [List.cons_append, List.nil_append] at hO
 have hel := hn1.el
 refine V1 rfl rfl rfl (l_y rfl rfl (y_extract rfl rfl) (l_y rfl rfl (y_extract rfl rfl) (s_alloc (vs := [.int .i64 0, .int .i64 0, .string ⟨#[]⟩, .slice none 0 0, .string ⟨#[]⟩, .string ⟨#[]⟩, .int .i64 0, .int .i64 0, .int .i64 0, .int .i64 0, .int .i64 0, .int .i64 0]) hO rfl rfl rfl fun b5 w hO => ?_)))
 refine Y3 hO rfl rfl (fun w hO => ?_)
 refine V2 rfl rfl rfl (K2 (K3 (K0 (K4 (K0 (K1 (V1 rfl rfl rfl ?_)))))))
 refine Z1 (fun h4_1 => ?_) (fun h4_1 => ?_)
 ·refine V1 rfl rfl rfl ?_
  repeat refine M2 ?_
  refine l_y rfl rfl (y_pick_t rfl rfl) (V2 rfl rfl rfl (K2 (K3 (L8 (K0 (K1 (V2 rfl rfl rfl (K2 (K3 (K6 (L0 (K9 ?_))))))))))))
  have e : elB A id = false := by rw [hel]; first | simp [h4_1, h4_5] | simp [h4_1]
  exact fin1 rfl rfl ⟨_, ⟨by rw [freshF, if_pos e], rfl⟩, hO.only [.o a, .b s, .p p]⟩
 ·refine V1 rfl rfl rfl (l_y rfl rfl (y_fldb (o' := 0) rfl) (l_y rfl rfl (D5 hO rfl) ?_))
  refine Z1 (fun h4_5 => ?_) (fun h4_5 => ?_)
  ·refine l_y rfl rfl (y_pick_f rfl rfl) (V2 rfl rfl rfl (K2 (K3 (L8 (K0 (K1 (V2 rfl rfl rfl (K2 (K3 (K6 (L0 (K9 ?_))))))))))))
   have e : elB A id = false := by rw [hel]; first | simp [h4_1, h4_5] | simp [h4_1]
   exact fin1 rfl rfl ⟨_, ⟨by rw [freshF, if_pos e], rfl⟩, hO.only [.o a, .b s, .p p]⟩
  ·refine l_y rfl rfl (y_pick_f rfl rfl) (V2 rfl rfl rfl (K2 (K3 (L9 (K0 ?_)))))
   have e : elB A id = true := by rw [hel]; simp [h4_1, h4_5]
   refine K1 (V1 rfl rfl rfl (V1 rfl rfl rfl (CK [.b s, .p p] hO rfl (fun k' hx hr hO' => aFindB_spec hg hl (hO := hO')) ?_)))
   rintro _ _ w ⟨rfl, rfl⟩ hO
   simp only [List.cons_append, List.nil_append] at hO
   refine Z0 (fun h6_3 => ?_) (fun h6_3 => ?_)
   ·refine V2 rfl rfl rfl (K2 (K3 (L8 (K0 (K1 (V2 rfl rfl rfl (K2 (K3 (K6 (L0 (K9 ?_)))))))))))
    exact fin1 rfl rfl ⟨_, ⟨by rw [freshF, if_neg (by rw [e]; simp), if_pos h6_3], rfl⟩, hO.only [.o a, .b s, .p p]⟩
   ·refine V2 rfl rfl rfl (K2 (K3 (L9 (K5 (K8 (K3 (K0 (K1 (V2 rfl rfl rfl (K2 (K3 (K6 ?_))))))))))))
    exact fin1 rfl rfl ⟨_, ⟨by rw [freshF, if_neg (by rw [e]; simp), if_neg h6_3], rfl⟩, hO.only [.o a, .b s, .p p]⟩
/-- the places behind the last marker, the last one first -/
def bk (L : List Api_entry) : Nat → List Nat
 | 0 => []
 | n + 1 => if (at_ L n).Node = -1 then [] else n :: bk L n
theorem back_spec (hO : Own k w []) : Tri Tryz.prog 58 #[.pointer (some ⟨s, 0, none⟩)] k w fun v m => ∃ b, v = .func (.func 94) #[] #[.pointer (some ⟨b, 0, none⟩)] ∧ m = [blk b 24 [.pointer (some ⟨s, 0, none⟩)]] := by
 refine enter (args := [.pointer (some ⟨s, 0, none⟩)]) Tryz.func58 rfl rfl (K0 (K1 (s_box (vs := [.pointer (some ⟨s, 0, none⟩)]) hO rfl rfl rfl (by rfl) fun b1 w hO => ?_)))
 refine V2 rfl rfl rfl (K2 (K3 (K0 (K1 (l_y rfl rfl (y_makeFunc rfl rfl) (V2 rfl rfl rfl (K2 (K3 (K6 ?_)))))))))
 exact fin1 rfl rfl ⟨_, ⟨_, rfl, rfl⟩, hO⟩
abbrev bF (s a : Nat) (p : Option Addr) (c : Nat) (L : List Api_entry) (b : Nat) : List HP := [aB s a p L.length c, aI p c L, blk b 24 [.pointer (some ⟨s, 0, none⟩)]]
theorem biter_spec {b X D : Nat} {M0 : List HP} {B : List Nat → List HP → Prop} {stop : Code → List HP → Prop} {fn : FuncId} {tmps : Array Value} {ps : Array Tmp} {assign body : Code}
    (hg : Gs p L.length) (hl : L.length ≤ 2000000) (hps : ps.size = 2) (hB : B [] M0) (hO : Own k w (obj X (loopO .ready none fn tmps ps assign body D) :: (bF s a p c L b ++ M0)))
    (hround : ∀ pre (x : Nat) suf M w, bk L L.length = pre ++ x :: suf → x < L.length → (at_ L x).Node ≠ -1 → B pre M → Own k w (obj X (loopO .ready none fn tmps ps assign body D) :: (bF s a p c L b ++ M)) →
      RoundIn Fence.wide 0 Tryz.prog X fn ((ps.zip #[.int .i64 (x : Int), .agg (Api_entry.cells (at_ L x)).toArray]).foldl (fun tmps (t, a) => tmps.setIfInBounds t a) tmps) assign body w (RP k X fn tmps ps assign body D (fun M' => ∃ M, B (pre ++ [x]) M ∧ M' = bF s a p c L b ++ M) stop)) :
    Ret Tryz.prog 94 #[.func (.yield X) #[] #[], .pointer (some ⟨b, 0, none⟩)] w fun _ w2 =>
      (∃ M, (∃ M', B (bk L L.length) M' ∧ M = bF s a p c L b ++ M') ∧ Own k w2 (obj X (loopO .ready none fn tmps ps assign body D) :: M)) ∨ (∃ c M, stop c M ∧ Own k w2 (obj X (loopO .done (some c) fn tmps ps assign body D) :: M)) := by
  refine enter (args := [.func (.yield X) #[] #[], .pointer (some ⟨b, 0, none⟩)]) Tryz.func94 rfl rfl ?_
  simp only [List.cons_append, List.nil_append] at hO
  refine K0 (K1 (l_y rfl rfl (D5 hO rfl) ?_))
  refine V3 rfl rfl rfl rfl (l_y rfl rfl (y_fldb (o' := 1) rfl) (l_y rfl rfl (D5 hO rfl) ?_))
  refine l_y rfl rfl (y_lenL rfl) (l_y rfl rfl (D4) ?_)
  refine V2 rfl rfl rfl (K2 (K3 (K4 (c_rounds (X := Nat × List Nat × List HP) (fun x => [(0, .func (.yield X) #[] #[]), (1, .pointer (some ⟨b, 0, none⟩)), (3, .int .i64 ((x.1 : Int) - 1))]) (fun x w => Own k w (obj X (loopO .ready none fn tmps ps assign body D) :: aB s a p L.length c :: aI p c L :: blk b 24 [.pointer (some ⟨s, 0, none⟩)] :: x.2.2) ∧ (bk L L.length = x.2.1 ++ bk L x.1) ∧ (x.1 ≤ L.length) ∧ (B x.2.1 x.2.2)) (fun x => x.1) ((L.length, [], M0)) ⟨rfl, rfl, rfl, trivial⟩ ⟨hO, rfl, Nat.le_refl _, hB⟩ ?_))))
  rintro x w m hm ⟨hO, hx, hle, hb⟩
  refine K0 (K0 (K1 (V1 rfl rfl rfl ?_)))
  refine Z0 (fun h1_1 => ?_) (fun h1_1 => ?_)
  · obtain ⟨y, hy⟩ : ∃ y, x.1 = y + 1 := ⟨x.1 - 1, by omega⟩
    have ey : (x.1 : Int) - 1 = (y : Int) := by omega
    rw [ey]
    refine V1 rfl rfl rfl (l_y rfl rfl (D5 hO rfl) ?_)
    refine V3 rfl rfl rfl rfl (l_y rfl rfl (y_fldb (o' := 1) rfl) (l_y rfl rfl (D5 hO rfl) ?_))
    refine V1 rfl rfl rfl (l_y rfl rfl (y_idx rfl rfl) ?_)
    refine l_y rfl rfl (y_fld (j' := 0) rfl) ?_
    refine l_y rfl rfl (y_e1 (x0 := 0) hO rfl) ?_
    refine Z1 (fun h1_11 => ?_) (fun h1_11 => ?_)
    · refine l_y rfl rfl (y_pick_t rfl rfl) (K2 (K3 (L8 (K5 (K3 (K0 (K4 (K0 (x_region (x_y rfl rfl (y_move rfl) ?_))))))))))
      refine x_y rfl rfl (y_move rfl) ?_
      refine x_y rfl rfl (D5 hO rfl) ?_
      refine x_y rfl rfl (y_nilCheck rfl rfl) ?_
      refine x_y rfl rfl (y_fldb (o' := 1) rfl) ?_
      refine x_y rfl rfl (D5 hO rfl) ?_
      refine x_y rfl rfl (y_move rfl) ?_
      refine x_y rfl rfl (y_idx rfl rfl) ?_
      refine x_y rfl rfl (y_eA (x0 := 0) (cs := [.int .i64 (at_ L ((y : Int) : Int).toNat).Node, .int .i64 (at_ L ((y : Int) : Int).toNat).Token.Kind, .string (at_ L ((y : Int) : Int).toNat).Token.Name, .string (at_ L ((y : Int) : Int).toNat).Token.Data, .string (at_ L ((y : Int) : Int).toNat).Token.System, .int .i64 (at_ L ((y : Int) : Int).toNat).Token.Has, .bool (at_ L ((y : Int) : Int).toNat).Token.Quirks, .int .i32 (at_ L ((y : Int) : Int).toNat).Token.Char, .bool (at_ L ((y : Int) : Int).toNat).Token.Self, .slice (at_ L ((y : Int) : Int).toNat).Token.AttrsP (at_ L ((y : Int) : Int).toNat).Token.Attrs.length (at_ L ((y : Int) : Int).toNat).Token.AttrsC]) hO rfl) ?_
      have hs : bk L x.1 = y :: bk L y := by rw [hy, bk, if_neg (show ¬ (at_ L y).Node = -1 from h1_11)]
      refine x_yield hO rfl rfl (by simp [hps]) (hround x.2.1 y (bk L y) x.2.2 w (by rw [hx, hs]) (by omega) h1_11 hb hO) (fun w M2 hM hO => ?_) (fun w c2 M2 hM hO => ?_)
      · obtain ⟨M3, hb2, rfl⟩ := hM
        simp only [List.cons_append, List.nil_append] at hO
        refine x_y rfl rfl (y_not rfl rfl) ?_
        refine x_nil (K3 (L9 (K5 (K8 (K3 (K1 (V1 rfl rfl rfl (l_y rfl rfl (D4) ?_))))))))
        refine V2 rfl rfl rfl (K2 ?_)
        have hO : Own k w (obj X (loopO .ready none fn tmps ps assign body D) :: aB s a p L.length c :: aI p c L :: blk b 24 [.pointer (some ⟨s, 0, none⟩)] :: M3) := hO
        exact q_next ((y, x.2.1 ++ [y], M3)) ⟨rfl, rfl, rfl, trivial⟩ ⟨hO, (by dsimp only; simp [hx, hs]), (by dsimp only; omega), hb2⟩ (by dsimp only; omega)
      · refine x_y rfl rfl (y_not rfl rfl) ?_
        refine x_nil (K3 (L8 (K6 (L0 (K9 (K9 (L0 (fin_ret ?_))))))))
        exact fin0 rfl (.inr ⟨_, _, hM, hO⟩)
    · refine l_y rfl rfl (y_pick_t rfl rfl) (K2 (K3 (L9 (K7 (L1 (L1 (L2 ?_)))))))
      have he : bk L x.1 = [] := by
        first
          | rw [hy, bk, if_pos (show (at_ L y).Node = -1 from h1_11)]
          | rw [show x.1 = 0 by omega, bk]
      exact fin0 rfl (.inl ⟨_, ⟨x.2.2, by rw [hx, he, List.append_nil]; exact hb, rfl⟩, hO⟩)
  · refine V1 rfl rfl rfl ?_
    repeat refine M2 ?_
    refine l_y rfl rfl (y_pick_f rfl rfl) (K2 (K3 (L9 (K7 (L1 (L1 (L2 ?_)))))))
    have he : bk L x.1 = [] := by
      first
        | rw [hy, bk, if_pos (show (at_ L y).Node = -1 from h1_11)]
        | rw [show x.1 = 0 by omega, bk]
    exact fin0 rfl (.inl ⟨_, ⟨x.2.2, by rw [hx, he, List.append_nil]; exact hb, rfl⟩, hO⟩)
end
end Go.Proofs.YtoohapbaelmkcaaGreat
end
section
set_option maxRecDepth 100000
namespace Go.Proofs.YtoohapbaelmkcaaGreat
open Go Go.Hb Go.RowKit
section
variable {P : Program} {lo : List Oper} {Q : Exit → Act → World → Prop} {n : Nat} {ds : List Deferred} {E : Env} {w : World}
/-- a drawn region where nothing may panic -/
theorem da_regM [hm : Mixed P] {id : Nat} (h : DA P lo (fun e a w => (∀ c, e ≠ .panic c) ∧ Q e a w) n ds lo.length (List.replicate lo.length false).toArray E w.drew) : CW P Q n ds (.region id lo.toArray true) E w := by
 intro a ha
 exact wp_mono (da_region (fun c a d v w h => absurd rfl (h.1 c)) h a ha) (fun e a w h => h.2)
section
variable {ops : Array Oper} {md : Region.Mode} {X : Nat}
theorem op_in (hQ : ¬ LetsOut Q) (hd : ∀ o ∈ ops.toList, (match o.op with | .defer _ => false | _ => true) = true) {K K' : Act → World → Prop} (hK : ∀ a w, K a w → K' a w) {i : Nat} {a : Act} {w : World} (h : wpOp P ops Q i K a w) : wpOpIn (Fence.wide.inRound X) 0 P ops Q i K' a w := by
  unfold wpOp at h
  unfold wpOpIn
  cases ho : ops[i]? with
  | none => rw [ho] at h; exact hK _ _ h
  | some o =>
    rw [ho] at h
    have hdo := hd o (List.mem_of_getElem? (by rw [Array.getElem?_toList]; exact ho))
    simp only at h ⊢
    split
    · next hw =>
      rw [if_pos hw] at h
      rcases h with h | ⟨_, hout⟩
      · refine ⟨fun _ _ => trivial, ?_⟩
        rw [Oper.semAt_eq _ _ _ (fun c hc => by rw [hc] at hdo; exact absurd hdo (by simp))]
        unfold Oper.wp at h
        generalize (execOp a.eval o).run P w = r at h ⊢
        cases r with
        | ok x w1 =>
          cases x with
          | value v => exact hK _ _ h
          | skip => exact hK _ _ h
          | defer d => exact hK _ _ h
          | enter f args =>
            refine ⟨fun _ => by simp_all [Fence.inRound, Fence.wide], callsIn_round (Calls.mono h fun e w2 he => ?_)⟩
            cases e with
            | returned v => exact hK _ _ he
            | panicked c => exact he
            | outgrown => exact he
          | row r args =>
            refine ⟨fun _ => by simp_all [Fence.inRound, Fence.wide], rowsIn_any (.inr ⟨X, rfl⟩) ?_⟩
            intro c cs
            obtain ⟨v, w', r, s⟩ := h c cs
            exact ⟨v, w', hK _ _ r, s⟩
          | _ => exact h.elim
        | halt x w1 => cases x <;> first | exact h | exact h.elim
      · exact absurd hout hQ
    · next hw =>
      rw [if_neg hw] at h
      exact ⟨fun _ _ => trivial, hK _ _ h⟩
theorem any_in (hQ : ¬ LetsOut Q) (hd : ∀ o ∈ ops.toList, (match o.op with | .defer _ => false | _ => true) = true) : ∀ (f : Nat) (listed : Array Bool) (a : Act) (w : World), wpAny P md ops Q f listed a w → wpAnyIn (Fence.wide.inRound X) 0 P md ops Q f listed a w
 | 0, _, _, _, h => h
 | f + 1, _, _, _, h => ⟨h.1, fun i hi => op_in hQ hd (fun a w h => any_in hQ hd f _ a w h) (h.2 i hi)⟩
theorem noDefer_mem {l : List Oper} (h : noDefer l = true) : ∀ o ∈ l, (match o.op with | .defer _ => false | _ => true) = true := by
  induction l with
  | nil => intro o ho; cases ho
  | cons x l ih =>
    simp only [noDefer, Bool.and_eq_true] at h
    intro o ho
    rcases List.mem_cons.1 ho with rfl | ho
    · exact h.1
    · exact ih h.2 o ho
/-- a drawn region in a round -/
theorem CRa [hm : Mixed P] [hQ : NoOut Q] {id : Nat} (h : DA P lo (fun e a w => (∀ c, e ≠ .panic c) ∧ Q e a w) n [] lo.length (List.replicate lo.length false).toArray E w.drew) (hd : noDefer lo = true := by rfl) : CR P Q n X (.region id lo.toArray true) E w := by
 intro a ha
 have h1 := h (fun c a d v w h => absurd rfl (h.1 c)) a ha
 refine wpIn_mono (wpIn_region_any (Q := fun e a w => (∀ c, e ≠ .panic c) ∧ Q e a w) hm.eq ?_) (fun e a w h => h.2)
 rw [show Array.replicate lo.toArray.size false = (List.replicate lo.length false).toArray from by simp]
 exact any_in (fun ⟨a, w, h⟩ => hQ.no ⟨a, w, h.2⟩) (noDefer_mem hd) _ _ _ _ h1
end
theorem q_nopan (h : QW Q n ds .normal E w) : QW (fun e a w => (∀ c, e ≠ .panic c) ∧ Q e a w) n ds .normal E w := fun a ha => ⟨(fun c e => Exit.noConfusion e), h a ha⟩
end
section
variable {k : Ctx} {w : World} {s a c : Nat} {p : Option Addr} {L : List Api_entry} {A : List Node_one}
def pk (A : List Node_one) (L : List Api_entry) (e : Api_entry) (xs : List Nat) : Nat × Nat := xs.foldl (fun z i => if kinB A e (at_ L i) = true then (z.1 + 1, i) else z) (0, 0)
theorem pk_snoc {e : Api_entry} {xs : List Nat} {i : Nat} : pk A L e (xs ++ [i]) = if kinB A e (at_ L i) = true then ((pk A L e xs).1 + 1, i) else pk A L e xs := by
 rw [pk, List.foldl_append]; rfl
theorem bk_lt {n : Nat} : ∀ {i : Nat}, i ∈ bk L n → i < n := by
  induction n with
  | zero => intro i h; cases h
  | succ n ih =>
    intro i h
    rw [bk] at h
    split at h
    · cases h
    · rcases List.mem_cons.1 h with rfl | h
      · omega
      · have := ih h; omega
theorem pk_gen {e : Api_entry} (xs : List Nat) : ∀ z : Nat × Nat, (xs.foldl (fun z i => if kinB A e (at_ L i) = true then (z.1 + 1, i) else z) z).1 ≤ z.1 + xs.length ∧ ((xs.foldl (fun z i => if kinB A e (at_ L i) = true then (z.1 + 1, i) else z) z) = z ∨ (xs.foldl (fun z i => if kinB A e (at_ L i) = true then (z.1 + 1, i) else z) z).2 ∈ xs) := by
  induction xs with
  | nil => intro z; exact ⟨Nat.le_refl _, .inl rfl⟩
  | cons i xs ih =>
    intro z
    rw [List.foldl_cons]
    by_cases h : kinB A e (at_ L i) = true
    · rw [if_pos h]
      obtain ⟨h1, h2⟩ := ih (z.1 + 1, i)
      refine ⟨by simp only [List.length_cons] at *; omega, .inr ?_⟩
      rcases h2 with h2 | h2
      · rw [h2]; simp
      · exact List.mem_cons_of_mem _ h2
    · rw [if_neg h]
      obtain ⟨h1, h2⟩ := ih z
      exact ⟨by simp only [List.length_cons]; omega, h2.imp id (List.mem_cons_of_mem _)⟩
theorem pk_le {e : Api_entry} {xs : List Nat} : (pk A L e xs).1 ≤ xs.length := by have := (pk_gen (A := A) (L := L) (e := e) xs (0, 0)).1; simpa [pk] using this
theorem pk_mem {e : Api_entry} {xs : List Nat} (h : 0 < (pk A L e xs).1) : (pk A L e xs).2 ∈ xs := by
 rcases (pk_gen (A := A) (L := L) (e := e) xs (0, 0)).2 with h2 | h2
 ·rw [pk, h2] at h; exact absurd h (by decide)
 ·exact h2
theorem bk_len {n : Nat} : (bk L n).length ≤ n := by
 induction n with
 | zero => exact Nat.le_refl _
 | succ n ih => rw [bk]; split <;> simp <;> omega
def pushE (A : List Node_one) (L : List Api_entry) (e : Api_entry) : List Api_entry := (if 3 ≤ (pk A L e (bk L L.length)).1 then cutE L (pk A L e (bk L L.length)).2 else L) ++ [e]
abbrev pushM (s a b3 b5 b8 b9 b10 : Nat) (A : List Node_one) (es : List Api_entry) (tk : Api_token) (e : Api_entry) (pre : List Nat) : List HP :=
 [arenaL a A, blk b3 24 [.pointer (some ⟨s, 0, none⟩)], blk b5 53 (Api_token.cells tk), blk b8 55 (Api_entry.cells e), blk b9 3 [.int .i64 ((pk A es e pre).1 : Int)], blk b10 3 [.int .i64 ((pk A es e pre).2 : Int)]]
set_option maxHeartbeats 2000000 in
theorem aPush_spec {id : Int} {tk : Api_token} {es : List Api_entry} (hn : 0 < A.length) (ha : AttrsOk A) (hl : es.length ≤ 2000000) (hb : ∀ e ∈ es, e.Node ≠ -1 → hasB A e.Node = true) (hE : ∀ e ∈ es, EOk k e) (ht : EOk k ⟨id, tk⟩) (hO : Own k w [arenaL a A, actL s a es]) :
    Tri Tryz.prog 21 #[.pointer (some ⟨s, 0, none⟩), .int .i64 id, .agg (Api_token.cells tk).toArray] k w fun v m => v = .int .i64 (freshF A es id) ∧ m = [arenaL a A, actL s a (if freshF A es id = 0 then pushE A es ⟨id, tk⟩ else es)] := by
  refine enterM (args := [.pointer (some ⟨s, 0, none⟩), .int .i64 id, .agg (Api_token.cells tk).toArray]) Tryz.func21 rfl rfl ?_
  obtain ⟨p, c, hg, hlc, hO⟩ := actL_open (hO.ks [.o s])
  have hfr : freshF A es id = 0 → elB A id = true := by
    intro h; unfold freshF at h
    cases h2 : elB A id with
    | true => rfl
    | false => rw [if_pos h2] at h; exact absurd h (by decide)
  refine K0 (K1 (s_box (vs := [.pointer (some ⟨s, 0, none⟩)]) hO rfl rfl rfl (by rfl) fun b3 w hO => ?_))
  refine s_box (vs := [.int .i64 tk.Kind, .string tk.Name, .string tk.Data, .string tk.System, .int .i64 tk.Has, .bool tk.Quirks, .int .i32 tk.Char, .bool tk.Self, .slice tk.AttrsP tk.Attrs.length tk.AttrsC]) hO rfl rfl rfl (by rfl) fun b5 w hO => ?_
  refine V2 rfl rfl rfl (K2 (K3 (K0 (K0 (K1 (l_y rfl rfl (D5 hO rfl) ?_))))))
  refine V1 rfl rfl rfl (CK [.o a, .b s, .p p] hO rfl (fun k' hx hr hO' => afresh_spec hn ha hg hl (hO := hO')) ?_)
  rintro _ _ w ⟨rfl, rfl⟩ hO
  simp only [List.cons_append, List.nil_append] at hO
  refine V2 rfl rfl rfl (K2 (K3 (K0 (K1 (V1 rfl rfl rfl ?_)))))
  refine Z1 (fun h2_1 => ?_) (fun h2_1 => ?_)
  · refine K2 (K3 (L8 (K0 (K1 (V1 rfl rfl rfl (V2 rfl rfl rfl (K2 (K3 (K6 (K9 (finM0 (R := fun _ _ => True) ?_)))))))))))
    rw [if_neg h2_1]
    exact fin1 rfl rfl ⟨_, ⟨rfl, rfl⟩, ((actL_shut (hO.ks [.b s, .p p])).ks [.o a, .o s]).two⟩
  · refine K2 (K3 (L9 (K5 (K3 (K0 ?_)))))
    have hid := elB_has (hfr h2_1)
    refine K1 (V1 rfl rfl rfl (l_y rfl rfl (D8 (cs := [.int .i64 tk.Kind, .string tk.Name, .string tk.Data, .string tk.System, .int .i64 tk.Has, .bool tk.Quirks, .int .i32 tk.Char, .bool tk.Self, .slice tk.AttrsP tk.Attrs.length tk.AttrsC]) hO rfl) ?_))
    refine s_build (parts := [(0, .tmp 19), (1, .tmp 20)]) (cs := [.int .i64 id, .int .i64 tk.Kind, .string tk.Name, .string tk.Data, .string tk.System, .int .i64 tk.Has, .bool tk.Quirks, .int .i32 tk.Char, .bool tk.Self, .slice tk.AttrsP tk.Attrs.length tk.AttrsC]) rfl rfl (fun a ha => partsOf_sound ha _ _ rfl) (by kernel_rfl) (s_alloc (vs := [.int .i64 0, .int .i64 0, .string ⟨#[]⟩, .string ⟨#[]⟩, .string ⟨#[]⟩, .int .i64 0, .bool false, .int .i32 0, .bool false, .slice none 0 0]) hO rfl rfl rfl fun b8 w hO => ?_)
    refine Y3 hO rfl rfl (fun w hO => ?_)
    refine K2 (K3 (K0 (K1 (s_alloc (vs := [.int .i64 0]) hO rfl rfl rfl fun b9 w hO => ?_))))
    refine s_alloc (vs := [.int .i64 0]) hO rfl rfl rfl fun b10 w hO => ?_
    refine Y1 hO rfl rfl (fun w hO => ?_)
    simp only [List.set_cons_zero, List.set_cons_succ] at hO
    refine Y1 hO rfl rfl (fun w hO => ?_)
    simp only [List.set_cons_zero, List.set_cons_succ] at hO
    refine K2 (K3 (K0 (K0 (K1 (l_y rfl rfl (D5 hO rfl) ?_)))))
    refine CK [] hO rfl (fun k' hx hr hO' => back_spec (hO := hO')) ?_
    rintro _ _ w ⟨b, rfl, rfl⟩ hO
    simp only [List.cons_append, List.nil_append] at hO
    refine K2 (K3 (K4 ?_))
    refine c_range (gf := 94) (lb := [.pointer (some ⟨b, 0, none⟩)]) (done := fun M => M = bF s a p c es b ++ pushM s a b3 b5 b8 b9 b10 A es tk ⟨id, tk⟩ (bk es es.length)) (stop := fun _ _ => False) hO rfl (fun fn tmps L D w hF hO => ?_) (fun D w M hM hO => ?_) (fun D w c M hM hO => ?_)
    · have hO2 : Own k w (obj L (loopO .ready none fn tmps _ _ _ D) :: (bF s a p c es b ++ (pushM s a b3 b5 b8 b9 b10 A es tk ⟨id, tk⟩ [] ++ [obj D (.deferred (some []))]))) := hO.ks [.o L, .b s, .p p, .b b, .o a, .b b3, .b b5, .b b8, .b b9, .b b10, .o D]
      refine Ret.mono (biter_spec (B := fun pre M => M = pushM s a b3 b5 b8 b9 b10 A es tk ⟨id, tk⟩ pre ++ [obj D (.deferred (some []))]) (stop := fun _ _ => False) hg hl rfl rfl hO2 ?_) (fun v w2 h => ?_)
      rotate_left
      · rcases h with ⟨M, ⟨M', rfl, rfl⟩, hO⟩ | ⟨_, _, h, _⟩
        · exact .inl ⟨_, rfl, hO.ks [.o L, .o D]⟩
        · exact h.elim
      rintro pre x suf _ w hxs hxl hxm rfl hO
      have hpl : pre.length < es.length := by have := bk_len (L := es) (n := es.length); rw [hxs] at this; simp at this; omega
      have hpk := pk_le (A := A) (L := es) (e := ⟨id, tk⟩) (xs := pre)
      have hEx := hE _ (at_mem hxl)
      have hbx := hb _ (at_mem hxl) hxm
      simp only [List.cons_append, List.nil_append] at hO
      obtain ⟨y, hy⟩ : ∃ y, at_ es x = y := ⟨_, rfl⟩
      rw [hy] at hEx hbx ⊢
      refine round_ok (n := Tryz.f21.ntmps) (E := [(3, .pointer (some ⟨b3, 0, none⟩)), (8, .pointer (some ⟨b8, 0, none⟩)), (9, .pointer (some ⟨b9, 0, none⟩)), (10, .pointer (some ⟨b10, 0, none⟩)), (24, .int .i64 (x : Int)), (25, .agg [.int .i64 y.Node, .int .i64 y.Token.Kind, .string y.Token.Name, .string y.Token.Data, .string y.Token.System, .int .i64 y.Token.Has, .bool y.Token.Quirks, .int .i32 y.Token.Char, .bool y.Token.Self, .slice y.Token.AttrsP y.Token.Attrs.length y.Token.AttrsC].toArray)]) ?_ hO ?_
      · have e1 : (#[24, 25].zip #[Value.int .i64 x, .agg (Api_entry.cells y).toArray]).foldl (fun tmps (t, a) => tmps.setIfInBounds t a) tmps = (tmps.setIfInBounds 24 (.int .i64 x)).setIfInBounds 25 (.agg (Api_entry.cells y).toArray) := by simp
        rw [e1]
        exact ((hF.put (d := some 24) rfl (.int .i64 x)).put (d := some 25) rfl (.agg (Api_entry.cells y).toArray)).weaken (E' := [(3, .pointer (some ⟨b3, 0, none⟩)), (8, .pointer (some ⟨b8, 0, none⟩)), (9, .pointer (some ⟨b9, 0, none⟩)), (10, .pointer (some ⟨b10, 0, none⟩)), (24, .int .i64 x), (25, .agg (Api_entry.cells y).toArray)]) ⟨rfl, rfl, rfl, rfl, rfl, rfl, trivial⟩
      · refine CR0 (CR1 (V2 rfl rfl rfl (K2 (CR3 (CR1 (s_alloc (vs := [.int .i64 0, .int .i64 0, .string ⟨#[]⟩, .string ⟨#[]⟩, .string ⟨#[]⟩, .int .i64 0, .bool false, .int .i32 0, .bool false, .slice none 0 0]) hO rfl rfl rfl fun b12 w hO => ?_))))))
        refine Y3 hO rfl rfl (fun w hO => ?_)
        refine K2 (q_assign (hO.ks [.o L]) (fun w hO => ?_))
        refine CR4 (CR0 (CR1 (l_y rfl rfl (D5 hO rfl) ?_)))
        refine l_y rfl rfl (D8 (cs := [.int .i64 id, .int .i64 tk.Kind, .string tk.Name, .string tk.Data, .string tk.System, .int .i64 tk.Has, .bool tk.Quirks, .int .i32 tk.Char, .bool tk.Self, .slice tk.AttrsP tk.Attrs.length tk.AttrsC]) hO rfl) ?_
        refine l_y rfl rfl (D8 (cs := [.int .i64 y.Node, .int .i64 y.Token.Kind, .string y.Token.Name, .string y.Token.Data, .string y.Token.System, .int .i64 y.Token.Has, .bool y.Token.Quirks, .int .i32 y.Token.Char, .bool y.Token.Self, .slice y.Token.AttrsP y.Token.Attrs.length y.Token.AttrsC]) hO rfl) ?_
        refine CK [.o a, .b s] hO rfl (fun k' hx hr hO' => kin_spec (x := ⟨id, tk⟩) (y := y) hn ha hid hbx ⟨ht.1.ext hO hx, ht.2⟩ ⟨hEx.1.ext hO hx, hEx.2⟩ (hO := hO')) ?_
        rintro _ _ w ⟨rfl, rfl⟩ hO
        simp only [List.cons_append, List.nil_append] at hO
        refine K2 (CR3 ?_)
        refine CRs rfl (fun hc29 => ?_) (fun hc29 => ?_)
        · have hpkT : pk A es ⟨id, tk⟩ (pre ++ [x]) = ((pk A es ⟨id, tk⟩ pre).1 + 1, x) := by rw [pk_snoc, hy, if_pos hc29]
          refine CR1 (l_y rfl rfl (D5 hO rfl) ?_)
          refine l_y rfl rfl (v := .int .i64 ((pk A es ⟨id, tk⟩ (pre ++ [x])).1 : Int)) (by rw [hpkT]; exact D4) ?_
          refine l_y rfl rfl (v := .int .i64 ((pk A es ⟨id, tk⟩ (pre ++ [x])).2 : Int)) (by rw [hpkT]; exact y_move rfl) (Y1 hO rfl rfl (fun w hO => ?_))
          simp only [List.set_cons_zero, List.set_cons_succ] at hO
          refine Y1 hO rfl rfl (fun w hO => ?_)
          simp only [List.set_cons_zero, List.set_cons_succ] at hO
          refine K2 (K8 ?_)
          first
            | exact q_bodyend ⟨_, rfl, rfl⟩ (hO.only [.o L, .b s, .p p, .b b, .o a, .b b3, .b b5, .b b8, .b b9, .b b10, .o D])
            | (have hpkF : pk A es ⟨id, tk⟩ (pre ++ [x]) = pk A es ⟨id, tk⟩ pre := by rw [pk_snoc, hy, if_neg (by rw [hc29]; simp)]
               exact q_bodyend ⟨pushM s a b3 b5 b8 b9 b10 A es tk ⟨id, tk⟩ pre ++ [obj D (.deferred (some []))], by simp only [pushM, hpkF], rfl⟩ (hO.only [.o L, .b s, .p p, .b b, .o a, .b b3, .b b5, .b b8, .b b9, .b b10, .o D]))
        · refine CR5 (K8 ?_)
          first
            | exact q_bodyend ⟨_, rfl, rfl⟩ (hO.only [.o L, .b s, .p p, .b b, .o a, .b b3, .b b5, .b b8, .b b9, .b b10, .o D])
            | (have hpkF : pk A es ⟨id, tk⟩ (pre ++ [x]) = pk A es ⟨id, tk⟩ pre := by rw [pk_snoc, hy, if_neg (by rw [hc29]; simp)]
               exact q_bodyend ⟨pushM s a b3 b5 b8 b9 b10 A es tk ⟨id, tk⟩ pre ++ [obj D (.deferred (some []))], by simp only [pushM, hpkF], rfl⟩ (hO.only [.o L, .b s, .p p, .b b, .o a, .b b3, .b b5, .b b8, .b b9, .b b10, .o D]))
    · subst hM
      simp only [List.cons_append, List.nil_append] at hO
      refine K8 (K3 ?_)
      refine c_cut (X := Option Addr × Nat × List Api_entry) (fun z => [(3, .pointer (some ⟨b3, 0, none⟩)), (6, .int .i64 0), (8, .pointer (some ⟨b8, 0, none⟩))]) (fun z w => Own k w [arenaL a A, aB s a z.1 z.2.2.length z.2.1, aI z.1 z.2.1 z.2.2, blk b3 24 [.pointer (some ⟨s, 0, none⟩)], blk b8 55 (Api_entry.cells ⟨id, tk⟩), obj D (.deferred (some []))] ∧ (pushE A es ⟨id, tk⟩ = z.2.2 ++ [⟨id, tk⟩]) ∧ (z.2.2.length ≤ 2000000)) ?_ ?_
      · refine K0 (K1 (l_y rfl rfl (D5 hO rfl) ?_))
        refine Z0 (fun h11_1 => ?_) (fun h11_1 => ?_)
        · refine K2 (K3 (L8 (K1 (l_y rfl rfl (D5 hO rfl) ?_))))
          refine l_y rfl rfl (D5 hO rfl) ?_
          have hlt : (pk A es ⟨id, tk⟩ (bk es es.length)).2 < es.length := bk_lt (pk_mem (by omega))
          refine CK [.b s, .p p] hO rfl (fun k' hx hr hO' => remove_spec hlt hg hlc hl (hO := hO')) ?_
          rintro _ _ w ⟨rfl, rfl⟩ hO
          simp only [List.cons_append, List.nil_append] at hO
          obtain ⟨p2, c2, es2, hO, hpu, hl2⟩ : ∃ (p2 : Option Addr) (c2 : Nat) (es2 : List Api_entry), Own k w [arenaL a A, aB s a p2 es2.length c2, aI p2 c2 es2, blk b3 24 [.pointer (some ⟨s, 0, none⟩)], blk b8 55 (Api_entry.cells ⟨id, tk⟩), obj D (.deferred (some []))] ∧ pushE A es ⟨id, tk⟩ = es2 ++ [⟨id, tk⟩] ∧ es2.length ≤ 2000000 := by
            obtain ⟨p2, c2, hg2, hlc2, hO⟩ := actL_open (hO.ks [.o s])
            exact ⟨p2, c2, _, hO.only [.o a, .b s, .p p2, .b b3, .b b8, .o D], by rw [pushE, if_pos (by omega)], by simp [cutE]; omega⟩
          refine K2 ?_
          exact q_cut ((p2, c2, es2)) ⟨rfl, rfl, rfl, trivial⟩ ⟨hO.only [.o a, .b s, .p p2, .b b3, .b b8, .o D], hpu, hl2⟩
        · obtain ⟨p2, c2, es2, hO, hpu, hl2⟩ : ∃ (p2 : Option Addr) (c2 : Nat) (es2 : List Api_entry), Own k w [arenaL a A, aB s a p2 es2.length c2, aI p2 c2 es2, blk b3 24 [.pointer (some ⟨s, 0, none⟩)], blk b8 55 (Api_entry.cells ⟨id, tk⟩), obj D (.deferred (some []))] ∧ pushE A es ⟨id, tk⟩ = es2 ++ [⟨id, tk⟩] ∧ es2.length ≤ 2000000 := ⟨p, c, es, hO.only [.o a, .b s, .p p, .b b3, .b b8, .o D], by rw [pushE, if_neg (by omega)], hl⟩
          refine K2 (K3 (L9 (K5 ?_)))
          exact q_cut ((p2, c2, es2)) ⟨rfl, rfl, rfl, trivial⟩ ⟨hO.only [.o a, .b s, .p p2, .b b3, .b b8, .o D], hpu, hl2⟩
      · rintro z w ⟨hO, hz, hzl⟩
        refine K0 (da_regM ?_)
        have hO := hO.drew
        refine da_phase _ [10] (SO.ks [.b b3, .b s, .b b8] hO) ?_
        refine dx_y 0 (by kernel_rfl) rfl rfl rfl (fun w ⟨m, hw⟩ => D5 hw rfl) ?_
        refine dx_y 1 (by kernel_rfl) rfl rfl rfl (fun w ⟨m, hw⟩ => D5 hw rfl) ?_
        refine dx_u 2 (by kernel_rfl) rfl rfl rfl (fun w => y_nilCheck rfl rfl) ?_
        refine dx_u 3 (by kernel_rfl) rfl rfl rfl (fun w => y_fldb (o' := 1) rfl) ?_
        refine dx_y 4 (by kernel_rfl) rfl rfl rfl (fun w ⟨m, hw⟩ => D5 hw rfl) ?_
        refine dx_y 5 (by kernel_rfl) rfl rfl rfl (fun w ⟨m, hw⟩ => D8 (cs := [.int .i64 id, .int .i64 tk.Kind, .string tk.Name, .string tk.Data, .string tk.System, .int .i64 tk.Has, .bool tk.Quirks, .int .i32 tk.Char, .bool tk.Self, .slice tk.AttrsP tk.Attrs.length tk.AttrsC]) hw rfl) ?_
        refine dx_only 6 (by kernel_rfl) rfl rfl ?_
        refine s_lit (parts := [(0, .tmp 43)]) (enc := Api_entry.cells) [⟨id, ⟨tk.Kind, tk.Name, tk.Data, tk.System, tk.Has, tk.Quirks, tk.Char, tk.Self, tk.AttrsP, tk.Attrs, tk.AttrsC⟩⟩] [.agg [.int .i64 id, .int .i64 tk.Kind, .string tk.Name, .string tk.Data, .string tk.System, .int .i64 tk.Has, .bool tk.Quirks, .int .i32 tk.Char, .bool tk.Self, .slice tk.AttrsP tk.Attrs.length tk.AttrsC].toArray] hO rfl (fun b44 w hO => ?_)
        refine o_done (⟨SO.ks [.b b3, .b s, .b b8] hO, ?_⟩)
        refine dx_only 7 (by kernel_rfl) rfl rfl ?_
        refine s_app hO rfl rfl (src_own hO) (fun p45 c45 w hO gs45 => ?_)
        refine o_done (⟨SO.ks [.b b3, .b s, .b b8] hO, ?_⟩)
        refine dx_u 8 (by kernel_rfl) rfl rfl rfl (fun w => y_nilCheck rfl rfl) ?_
        refine dx_u 9 (by kernel_rfl) rfl rfl rfl (fun w => y_fldb (o' := 1) rfl) ?_
        refine dx_close 10 (by kernel_rfl) rfl rfl ?_
        refine Y1 hO rfl rfl (fun w hO => ?_)
        simp only [List.set_cons_zero, List.set_cons_succ] at hO
        refine o_done (da_end (by kernel_rfl) (q_nopan ?_))
        refine K3 (K0 (K1 (V2 rfl rfl rfl (K2 (K3 (K6 (finM (hO.ks [.o D]) (fun w hO => ?_))))))))
        rw [if_pos h2_1, hz]
        exact fin1 rfl rfl ⟨_, ⟨by rw [h2_1], rfl⟩, ((actL_shut (hO.ks [.b s, .p p45])).ks [.o a, .o s]).two⟩
    · exact hM.elim
theorem finS {P : Program} {E : Env} {n : Nat} {l : List HP} {fn : Func} {T' : Value → World → Prop} {t b : Nat} {ty T : TypeId} {v : Value} {vs : List Value} {M : HP → List HP} [hl : Lay P ty false 1] (hO : Own k w l) (hrs : fn.results = #[.cell t ty]) (hv : Hb.look E t = some (.pointer (some ⟨b, 0, none⟩))) [ha : AtB l b T vs M] (hT : T' v w) (hv0 : vs[0]? = some v := by rfl) :
    QW (bodyPost P fn fun e w' => ∃ v, e = .returned v ∧ T' v w') n [] .ret E w := fun c hc =>
  ⟨hc.defers, _, by
    obtain ⟨m, hm⟩ := ha.self
    have hh : Holds w ⟨b, 0, none⟩ [v] := hO.holds hm (.ofBlk1 hv0)
    have := hc.at_ t _ hv
    simp only [Array.getD_eq_getD_getElem?] at this
    have h1 : w.cell? ⟨b, 0, none⟩ = some v := by have := hh 0 v (by simp); simpa [Addr.add] using this
    simp [results, hrs, this, asAddr, loadVar, hl.isAgg, load, Sem.run, h1], _, rfl, hT⟩
/-- the last element of a name -/
def lastE (A : List Node_one) (L : List Api_entry) (nm : ByteArray) : List Nat → Int
 | [] => -1
 | i :: xs => if (nodeA A (at_ L i).Node).Space = 0 ∧ (nodeA A (at_ L i).Node).Name = nm then (at_ L i).Node else lastE A L nm xs
theorem lastE_skip {nm : ByteArray} {pre suf : List Nat} (h : ∀ i ∈ pre, ¬ ((nodeA A (at_ L i).Node).Space = 0 ∧ (nodeA A (at_ L i).Node).Name = nm)) : lastE A L nm (pre ++ suf) = lastE A L nm suf := by
 induction pre with
 | nil => rfl
 | cons i pre ih => rw [List.cons_append, lastE, if_neg (h i (by simp)), ih (fun j hj => h j (by simp [hj]))]
abbrev lastM (s a b2 b3 b4 : Nat) (A : List Node_one) (nm : ByteArray) (z : Int) : List HP :=
 [arenaL a A, blk b2 24 [.pointer (some ⟨s, 0, none⟩)], blk b3 9 [.string nm], blk b4 3 [.int .i64 z]]
set_option maxHeartbeats 2000000 in
theorem aLast_spec {nm : ByteArray} {es : List Api_entry} (hn : 0 < A.length) (ha : AttrsOk A) (hl : es.length ≤ 2000000) (hb : ∀ e ∈ es, e.Node ≠ -1 → hasB A e.Node = true) (hO : Own k w [arenaL a A, actL s a es]) :
    Tri Tryz.prog 73 #[.pointer (some ⟨s, 0, none⟩), .string nm] k w fun v m => v = .int .i64 (lastE A es nm (bk es es.length)) ∧ m = [arenaL a A, actL s a es] := by
  refine enterM (args := [.pointer (some ⟨s, 0, none⟩), .string nm]) Tryz.func73 rfl rfl ?_
  obtain ⟨p, c, hg, hlc, hO⟩ := actL_open (hO.ks [.o s])
  refine K0 (K1 (s_box (vs := [.pointer (some ⟨s, 0, none⟩)]) hO rfl rfl rfl (by rfl) fun b2 w hO => ?_))
  refine s_box (vs := [.string nm]) hO rfl rfl rfl (by rfl) fun b3 w hO => ?_
  refine s_alloc (vs := [.int .i64 0]) hO rfl rfl rfl fun b4 w hO => ?_
  refine K2 (K3 (K0 (K0 (K1 (l_y rfl rfl (D5 hO rfl) ?_)))))
  refine CK [.b s] hO rfl (fun k' hx hr hO' => anone_spec (hO := hO')) ?_
  rintro _ _ w ⟨rfl, rfl⟩ hO
  simp only [List.cons_append, List.nil_append] at hO
  refine K2 (K3 (L9 (K5 (K3 (K0 (K0 (K1 (l_y rfl rfl (D5 hO rfl) ?_))))))))
  refine CK [] hO rfl (fun k' hx hr hO' => back_spec (hO := hO')) ?_
  rintro _ _ w ⟨b, rfl, rfl⟩ hO
  simp only [List.cons_append, List.nil_append] at hO
  refine K2 (K3 (K4 ?_))
  refine c_range (gf := 94) (lb := [.pointer (some ⟨b, 0, none⟩)]) (done := fun M => M = bF s a p c es b ++ lastM s a b2 b3 b4 A nm 0 ∧ lastE A es nm (bk es es.length) = -1) (stop := fun c9 M => c9 = .ret ∧ M = bF s a p c es b ++ lastM s a b2 b3 b4 A nm (lastE A es nm (bk es es.length))) hO rfl (fun fn tmps L D w hF hO => ?_) (fun D w M hM hO => ?_) (fun D w c M hM hO => ?_)
  · have hO2 : Own k w (obj L (loopO .ready none fn tmps _ _ _ D) :: (bF s a p c es b ++ (lastM s a b2 b3 b4 A nm 0 ++ [obj D (.deferred (some []))]))) := hO.ks [.o L, .b s, .p p, .b b, .o a, .b b2, .b b3, .b b4, .o D]
    refine Ret.mono (biter_spec (B := fun pre M => M = lastM s a b2 b3 b4 A nm 0 ++ [obj D (.deferred (some []))] ∧ ∀ i ∈ pre, ¬ ((nodeA A (at_ es i).Node).Space = 0 ∧ (nodeA A (at_ es i).Node).Name = nm)) (stop := fun c9 M => c9 = .ret ∧ M = bF s a p c es b ++ (lastM s a b2 b3 b4 A nm (lastE A es nm (bk es es.length)) ++ [obj D (.deferred (some []))])) hg hl rfl ⟨rfl, fun i hi => by cases hi⟩ hO2 ?_) (fun v w2 h => ?_)
    rotate_left
    · rcases h with ⟨M, ⟨M', ⟨rfl, hs⟩, rfl⟩, hO⟩ | ⟨_, _, ⟨rfl, rfl⟩, hO⟩
      · exact .inl ⟨_, ⟨rfl, by have := lastE_skip (A := A) (L := es) (suf := []) hs; rw [List.append_nil] at this; exact this⟩, hO.ks [.o L, .o D]⟩
      · exact .inr ⟨_, _, ⟨rfl, rfl⟩, hO.ks [.o L, .o D]⟩
    rintro pre x suf _ w hxs hxl hxm ⟨rfl, hsk⟩ hO
    have hbx := hb _ (at_mem hxl) hxm
    simp only [List.cons_append, List.nil_append] at hO
    obtain ⟨y, hy⟩ : ∃ y, at_ es x = y := ⟨_, rfl⟩
    rw [hy] at hbx hxm ⊢
    refine round_ok (n := Tryz.f73.ntmps) (E := [(2, .pointer (some ⟨b2, 0, none⟩)), (3, .pointer (some ⟨b3, 0, none⟩)), (4, .pointer (some ⟨b4, 0, none⟩)), (13, .int .i64 (x : Int)), (14, .agg [.int .i64 y.Node, .int .i64 y.Token.Kind, .string y.Token.Name, .string y.Token.Data, .string y.Token.System, .int .i64 y.Token.Has, .bool y.Token.Quirks, .int .i32 y.Token.Char, .bool y.Token.Self, .slice y.Token.AttrsP y.Token.Attrs.length y.Token.AttrsC].toArray)]) ?_ hO ?_
    · have e1 : (#[13, 14].zip #[Value.int .i64 x, .agg (Api_entry.cells y).toArray]).foldl (fun tmps (t, a) => tmps.setIfInBounds t a) tmps = (tmps.setIfInBounds 13 (.int .i64 x)).setIfInBounds 14 (.agg (Api_entry.cells y).toArray) := by simp
      rw [e1]
      exact ((hF.put (d := some 13) rfl (.int .i64 x)).put (d := some 14) rfl (.agg (Api_entry.cells y).toArray)).weaken (E' := [(2, .pointer (some ⟨b2, 0, none⟩)), (3, .pointer (some ⟨b3, 0, none⟩)), (4, .pointer (some ⟨b4, 0, none⟩)), (13, .int .i64 x), (14, .agg (Api_entry.cells y).toArray)]) ⟨rfl, rfl, rfl, rfl, rfl, trivial⟩
    · refine CR1 (s_alloc (vs := [.int .i64 0, .int .i64 0, .string ⟨#[]⟩, .string ⟨#[]⟩, .string ⟨#[]⟩, .int .i64 0, .bool false, .int .i32 0, .bool false, .slice none 0 0]) hO rfl rfl rfl fun b6 w hO => ?_)
      refine Y3 hO rfl rfl (fun w hO => ?_)
      refine K2 (q_assign (hO.ks [.o L]) (fun w hO => ?_))
      refine CR4 (CR0 (CRa ?_))
      have hO := hO.drew
      refine da_phase _ [11] (SO.ks [.b b2, .b s, .b b6] hO) ?_
      refine dx_y 0 (by kernel_rfl) rfl rfl rfl (fun w ⟨m, hw⟩ => D5 hw rfl) ?_
      refine dx_u 1 (by kernel_rfl) rfl rfl rfl (fun w => y_nilCheck rfl rfl) ?_
      refine dx_u 2 (by kernel_rfl) rfl rfl rfl (fun w => y_fldb (o' := 0) rfl) ?_
      refine dx_y 3 (by kernel_rfl) rfl rfl rfl (fun w ⟨m, hw⟩ => D5 hw rfl) ?_
      refine dx_u 4 (by kernel_rfl) rfl rfl rfl (fun w => y_fldb (o' := 0) rfl) ?_
      refine dx_y 5 (by kernel_rfl) rfl rfl rfl (fun w ⟨m, hw⟩ => D5 hw rfl) ?_
      refine dx_two 6 10 (by kernel_rfl) rfl rfl rfl rfl ?_ ?_
      · refine CK [.o a] hO rfl (fun k' hx hr hO' => NodeD_spec hn ha (hO := hO')) ?_
        rintro _ _ w ⟨n1, hn1, rfl, rfl⟩ hO
        simp only [List.cons_append, List.nil_append] at hO
        refine o_done (⟨SO.ks [.b b2, .b s, .b b6] hO, ?_⟩)
        refine dx_u 7 (by kernel_rfl) rfl rfl rfl (fun w => y_move rfl) ?_
        refine dx_u 8 (by kernel_rfl) rfl rfl rfl (fun w => y_extract rfl rfl) ?_
        refine dx_u 9 (by kernel_rfl) rfl rfl rfl (fun w => y_extract rfl rfl) ?_
        refine dx_only 10 (by kernel_rfl) rfl rfl ?_
        refine s_alloc (vs := [.int .i64 0, .int .i64 0, .string ⟨#[]⟩, .slice none 0 0, .string ⟨#[]⟩, .string ⟨#[]⟩, .int .i64 0, .int .i64 0, .int .i64 0, .int .i64 0, .int .i64 0, .int .i64 0]) hO rfl rfl rfl fun b7 w hO => ?_
        refine o_done (⟨SO.ks [.b b2, .b s, .b b6] hO, ?_⟩)
        refine dx_close 11 (by kernel_rfl) rfl rfl ?_
        refine Y3 hO rfl rfl (fun w hO => ?_)
        refine o_done (da_phase _ [] (SO.ks [] hO) ?_)
        refine dx_u 12 (by kernel_rfl) rfl rfl rfl (fun w => y_assign rfl) ?_
        refine dx_end (by kernel_rfl) (q_nopan ?_)
        refine CR3 (CR0 ?_)
        have e2 : n1.Space = (nodeA A y.Node).Space := hn1.space hbx
        have e3 : n1.Name = (nodeA A y.Node).Name := hn1.name hbx
        refine CR1 (l_y rfl rfl (y_fldb (o' := 1) rfl) (l_y rfl rfl (D5 hO rfl) ?_))
        refine Z0 (fun h6_2 => ?_) (fun h6_2 => ?_)
        · refine V1 rfl rfl rfl (l_y rfl rfl (y_fldb (o' := 2) rfl) (l_y rfl rfl (D5 hO rfl) ?_))
          refine l_y rfl rfl (D5 hO rfl) ?_
          refine Z2 (fun h6_7 => ?_) (fun h6_7 => ?_)
          · refine l_y rfl rfl (y_pick_t rfl rfl) (K2 (CR3 (CR8 (CR0 ?_))))
            have hla : lastE A es nm (bk es es.length) = y.Node := by
              rw [hxs, lastE_skip hsk, lastE, hy, if_pos ⟨by rw [← e2]; exact h6_2, by rw [← e3]; exact h6_7⟩]
            rw [hla]
            refine CR1 (l_y rfl rfl (y_fldb (o' := 0) rfl) (l_y rfl rfl (D5 hO rfl) ?_))
            refine Y1 hO rfl rfl (fun w hO => ?_)
            simp only [List.set_cons_zero, List.set_cons_succ] at hO
            refine K2 (CR3 (CR6 (L0 ?_)))
            exact q_bodyret ⟨rfl, rfl⟩ (hO.only [.o L, .b s, .p p, .b b, .o a, .b b2, .b b3, .b b4, .o D])
          · refine l_y rfl rfl (y_pick_t rfl rfl) (K2 (CR3 (CR9 (CR5 (K8 ?_)))))
            have hno : ¬ ((nodeA A (at_ es x).Node).Space = 0 ∧ (nodeA A (at_ es x).Node).Name = nm) := by
              rw [hy, ← e2, ← e3]
              first | (intro h; exact h6_7 h.2) | (intro h; exact h6_2 h.1)
            exact q_bodyend ⟨_, ⟨rfl, fun i hi => (List.mem_append.1 hi).elim (hsk i) (fun h => by rw [List.mem_singleton.1 h]; exact hno)⟩, rfl⟩ (hO.only [.o L, .b s, .p p, .b b, .o a, .b b2, .b b3, .b b4, .o D])
        · refine V1 rfl rfl rfl ?_
          repeat refine M2 ?_
          refine l_y rfl rfl (y_pick_f rfl rfl) (K2 (CR3 (CR9 (CR5 (K8 ?_)))))
          have hno : ¬ ((nodeA A (at_ es x).Node).Space = 0 ∧ (nodeA A (at_ es x).Node).Name = nm) := by
            rw [hy, ← e2, ← e3]
            first | (intro h; exact h6_7 h.2) | (intro h; exact h6_2 h.1)
          exact q_bodyend ⟨_, ⟨rfl, fun i hi => (List.mem_append.1 hi).elim (hsk i) (fun h => by rw [List.mem_singleton.1 h]; exact hno)⟩, rfl⟩ (hO.only [.o L, .b s, .p p, .b b, .o a, .b b2, .b b3, .b b4, .o D])
      · refine s_alloc (vs := [.int .i64 0, .int .i64 0, .string ⟨#[]⟩, .slice none 0 0, .string ⟨#[]⟩, .string ⟨#[]⟩, .int .i64 0, .int .i64 0, .int .i64 0, .int .i64 0, .int .i64 0, .int .i64 0]) hO rfl rfl rfl fun b7 w hO => ?_
        refine o_done (⟨SO.ks [.b b2, .b s, .b b6] hO, ?_⟩)
        refine dx_only 6 (by kernel_rfl) rfl rfl ?_
        refine CK [.o a] hO rfl (fun k' hx hr hO' => NodeD_spec hn ha (hO := hO')) ?_
        rintro _ _ w ⟨n1, hn1, rfl, rfl⟩ hO
        simp only [List.cons_append, List.nil_append] at hO
        refine o_done (⟨SO.ks [.b b2, .b s, .b b6] hO, ?_⟩)
        refine dx_u 7 (by kernel_rfl) rfl rfl rfl (fun w => y_move rfl) ?_
        refine dx_u 8 (by kernel_rfl) rfl rfl rfl (fun w => y_extract rfl rfl) ?_
        refine dx_u 9 (by kernel_rfl) rfl rfl rfl (fun w => y_extract rfl rfl) ?_
        refine dx_close 11 (by kernel_rfl) rfl rfl ?_
        refine Y3 hO rfl rfl (fun w hO => ?_)
        refine o_done (da_phase _ [] (SO.ks [] hO) ?_)
        refine dx_u 12 (by kernel_rfl) rfl rfl rfl (fun w => y_assign rfl) ?_
        refine dx_end (by kernel_rfl) (q_nopan ?_)
        refine CR3 (CR0 ?_)
        have e2 : n1.Space = (nodeA A y.Node).Space := hn1.space hbx
        have e3 : n1.Name = (nodeA A y.Node).Name := hn1.name hbx
        refine CR1 (l_y rfl rfl (y_fldb (o' := 1) rfl) (l_y rfl rfl (D5 hO rfl) ?_))
        refine Z0 (fun h6_2 => ?_) (fun h6_2 => ?_)
        · refine V1 rfl rfl rfl (l_y rfl rfl (y_fldb (o' := 2) rfl) (l_y rfl rfl (D5 hO rfl) ?_))
          refine l_y rfl rfl (D5 hO rfl) ?_
          refine Z2 (fun h6_7 => ?_) (fun h6_7 => ?_)
          · refine l_y rfl rfl (y_pick_t rfl rfl) (K2 (CR3 (CR8 (CR0 ?_))))
            have hla : lastE A es nm (bk es es.length) = y.Node := by
              rw [hxs, lastE_skip hsk, lastE, hy, if_pos ⟨by rw [← e2]; exact h6_2, by rw [← e3]; exact h6_7⟩]
            rw [hla]
            refine CR1 (l_y rfl rfl (y_fldb (o' := 0) rfl) (l_y rfl rfl (D5 hO rfl) ?_))
            refine Y1 hO rfl rfl (fun w hO => ?_)
            simp only [List.set_cons_zero, List.set_cons_succ] at hO
            refine K2 (CR3 (CR6 (L0 ?_)))
            exact q_bodyret ⟨rfl, rfl⟩ (hO.only [.o L, .b s, .p p, .b b, .o a, .b b2, .b b3, .b b4, .o D])
          · refine l_y rfl rfl (y_pick_t rfl rfl) (K2 (CR3 (CR9 (CR5 (K8 ?_)))))
            have hno : ¬ ((nodeA A (at_ es x).Node).Space = 0 ∧ (nodeA A (at_ es x).Node).Name = nm) := by
              rw [hy, ← e2, ← e3]
              first | (intro h; exact h6_7 h.2) | (intro h; exact h6_2 h.1)
            exact q_bodyend ⟨_, ⟨rfl, fun i hi => (List.mem_append.1 hi).elim (hsk i) (fun h => by rw [List.mem_singleton.1 h]; exact hno)⟩, rfl⟩ (hO.only [.o L, .b s, .p p, .b b, .o a, .b b2, .b b3, .b b4, .o D])
        · refine V1 rfl rfl rfl ?_
          repeat refine M2 ?_
          refine l_y rfl rfl (y_pick_f rfl rfl) (K2 (CR3 (CR9 (CR5 (K8 ?_)))))
          have hno : ¬ ((nodeA A (at_ es x).Node).Space = 0 ∧ (nodeA A (at_ es x).Node).Name = nm) := by
            rw [hy, ← e2, ← e3]
            first | (intro h; exact h6_7 h.2) | (intro h; exact h6_2 h.1)
          exact q_bodyend ⟨_, ⟨rfl, fun i hi => (List.mem_append.1 hi).elim (hsk i) (fun h => by rw [List.mem_singleton.1 h]; exact hno)⟩, rfl⟩ (hO.only [.o L, .b s, .p p, .b b, .o a, .b b2, .b b3, .b b4, .o D])
  · obtain ⟨rfl, hle⟩ := hM
    simp only [List.cons_append, List.nil_append] at hO
    refine K8 (K3 (K0 (K1 (Y1 hO rfl rfl (fun w hO => ?_)))))
    simp only [List.set_cons_zero, List.set_cons_succ] at hO
    refine K2 (K3 (K6 (finM (hO.ks [.o D]) (fun w hO => ?_))))
    rw [hle]
    exact finS hO rfl rfl ⟨_, ⟨rfl, rfl⟩, ((actL_shut (hO.ks [.b s, .p p])).ks [.o a, .o s]).two⟩
  · obtain ⟨rfl, rfl⟩ := hM
    simp only [List.cons_append, List.nil_append] at hO
    refine K6 (L0 (K9 (finM (hO.ks [.o D]) (fun w hO => ?_))))
    exact finS hO rfl rfl ⟨_, ⟨rfl, rfl⟩, ((actL_shut (hO.ks [.b s, .p p])).ks [.o a, .o s]).two⟩
end
end Go.Proofs.YtoohapbaelmkcaaGreat
end
section
set_option maxRecDepth 100000
namespace Go.Proofs.YtoohapbaelmkcaaGreat
open Go Go.Hb Go.RowKit
section
variable {P : Program} {ops : Array Oper} {Q : Exit → Act → World → Prop} {n : Nat} {ds : List Deferred} {E : Env} {w : World} {k : Ctx} {l : List HP}
variable {rest : List Oper} {d : Option Tmp} {ty : TypeId} {pos : String} {aft : Array Edge} {g : Option (Nat × Bool)}
/-- copy(x[i+1:], x[i:]) of one's own x -/
theorem s_cpUp {t u T : TypeId} {agg : Bool} {sz : Nat} [hu : Und P t (.slice T)] [hl : Lay P T agg sz] {x y : Operand} {p : Option Addr} {c i : Nat} {α : Type} {enc : α → List Value} {xs : List α} {rl : List HP} (hO : Own k w l) (hx : ev E x = some (.slice (subp p c (i + 1) sz) (xs.length - (i + 1)) (c - (i + 1)))) (hy : ev E y = some (.slice (subp p c i sz) (xs.length - i) (c - i))) {sz' : Nat} [hp : PkP l p T α c sz' enc xs rl] [ho : OneC enc sz] (hi : i < xs.length)
    (h : ∀ w', Own k w' (sls p c T sz enc (xs.take (i + 1) ++ (xs.drop i).take (xs.length - (i + 1))) :: rl) → LW P ops Q n ds rest (E.put d (.int .i64 ((xs.length - (i + 1) : Nat) : Int))) w') (hsz : sz' = sz := by rfl) (hg : gd ops E g = some true := by rfl) (hd : dok n d = true := by rfl) : LW P ops Q n ds (⟨d, .call ⟨.builtin .copy, #[x, y], #[t, u]⟩, ty, pos, aft, g⟩ :: rest) E w := by
  subst hsz
  have hO1 := hO.pull hp.pull
  have hv := sls_sli (p := p) hO1
  have hf := sls_fct (p := p) hO1
  obtain ⟨b, o, rfl⟩ := hf.2 (by omega)
  obtain ⟨m, hm⟩ : ∃ m, m = xs.length - (i + 1) := ⟨_, rfl⟩
  have hlen : ((xs.drop i).take m).length = m := by simp; omega
  have hsrc : subp (some ⟨b, o, none⟩) c i sz' = some ⟨b, o + i * sz', none⟩ := by
    rw [subp, if_neg (by have := hf.1; omega)]; simp only [Option.map_some, Addr.add_lit]
  have hH : Holds w ⟨b, o + i * sz', none⟩ (((xs.drop i).take m).map enc).flatten := by
    have hv2 := sli_tl (cuts_holds w) hv i (by omega)
    rw [hsrc] at hv2
    have hv3 := sli_hd (cuts_holds w) hv2 m (c - i) (by omega) (by have := hf.1; omega)
    by_cases h0 : m = 0
    · intro j v hj; simp [h0] at hj
    · obtain ⟨p', c', he, _, h3⟩ := hv3
      obtain ⟨b', o', hp', hH⟩ := h3 (by intro e; rw [List.map_eq_nil_iff] at e; rw [e] at hlen; simp at hlen; omega)
      rw [hp'] at he
      injection he with he _ _
      injection he with he
      rw [he]; exact hH
  have hfl : (((xs.drop i).take m).map enc).flatten.length = m * sz' := by rw [OneC.flat, hlen]
  have hC : (Builtin.firstCells sz' m (.slice (some ⟨b, o + i * sz', none⟩) (xs.length - i) (c - i))).run P w = .ok (((xs.drop i).take m).map enc).flatten.toArray w := run_firstCells_some (P := P) w sz' m ⟨b, o + i * sz', none⟩ (xs.length - i) (c - i) _ hfl (fun j v hv => hH j v hv)
  have hmin : Nat.min (xs.length - i) m = m := Nat.min_eq_right (by omega)
  rw [hsrc] at hy
  rw [← hm] at hx h
  have e2 : ∀ ys : List α, ys = (xs.drop i).take m → (xs.map enc).take (i + 1) ++ ys.map enc ++ (xs.map enc).drop (i + 1 + ys.length) = (xs.take (i + 1) ++ ys).map enc := by
    intro ys he
    rw [he, hlen, show i + 1 + m = xs.length by omega]
    simp
  by_cases h0 : m = 0
  · obtain ⟨q, hq⟩ : ∃ q, subp (some ⟨b, o, none⟩) c (i + 1) sz' = some q := by
      rw [subp]; split
      · exact ⟨_, rfl⟩
      · exact ⟨_, rfl⟩
    rw [hq] at hx
    have hnil : (xs.drop i).take m = [] := by rw [h0]; simp
    have hr : (Builtin.copy_ #[t, u] ty #[.slice (some q) m (c - (i + 1)), .slice (some ⟨b, o + i * sz', none⟩) (xs.length - i) (c - i)]).run P w = .ok (.int .i64 m) w := by
      rw [hnil] at hC
      simp [Builtin.copy_, Builtin.lenOf, run_underlying hu.eq, hl.size, hmin, hC, storeCells, goInt]
    refine l_val (o := ⟨d, .call ⟨.builtin .copy, #[x, y], #[t, u]⟩, ty, pos, aft, g⟩) hg hd (fun a ha => ?_) (h w ?_)
    · simp [execOp, resolve, ha.eval hx, ha.eval hy, invoke, builtin, hr]
    · rw [hnil, List.append_nil, List.take_of_length_le (by omega)]; exact hO1
  · have hdst : subp (some ⟨b, o, none⟩) c (i + 1) sz' = some ⟨b, o + (i + 1) * sz', none⟩ := by
      rw [subp, if_neg (by have := hf.1; omega)]; simp only [Option.map_some, Addr.add_lit]
    rw [hdst] at hx
    have hO2 := arr_sls hO1 rfl
    obtain ⟨w', hst, hO3⟩ := hO2.store (P := P) (.hd _ _ _) (Upd.ofRows (i := i + 1) (news := ((xs.drop i).take m).map enc) (OneC.rows _) (by rw [List.length_map, List.length_map, hlen]; omega)) (by
      intro v hv
      obtain ⟨r, hr, hv⟩ := List.mem_flatten.1 hv
      exact OneC.cells _ r hr v hv)
    have hr : (Builtin.copy_ #[t, u] ty #[.slice (some ⟨b, o + (i + 1) * sz', none⟩) m (c - (i + 1)), .slice (some ⟨b, o + i * sz', none⟩) (xs.length - i) (c - i)]).run P w = .ok (.int .i64 m) w' := by
      generalize (((xs.drop i).take m).map enc).flatten = N at hC hst
      simp [Builtin.copy_, Builtin.lenOf, run_underlying hu.eq, hl.size, hmin, hC, hst, goInt]
    refine l_val (o := ⟨d, .call ⟨.builtin .copy, #[x, y], #[t, u]⟩, ty, pos, aft, g⟩) hg hd (fun a ha => ?_) (h w' ?_)
    · simp [execOp, resolve, ha.eval hx, ha.eval hy, invoke, builtin, hr]
    · rw [List.length_map] at hO3
      rw [e2 _ rfl] at hO3
      refine sls_mk (sl_shut hO3 rfl) ?_ rfl
      simp
end
section
variable {k : Ctx} {w : World} {s a c : Nat} {p : Option Addr} {L : List Api_entry} {A : List Node_one}
theorem findE_cases (L : List Api_entry) (x : Int) : findE L x = -1 ∨ ∃ i : Nat, findE L x = i ∧ i < L.length ∧ (at_ L i).Node = x ∧ x ≠ -1 := by
  by_cases h : x = -1
  · exact .inl (by rw [findE, if_pos h])
  · rcases idx_cases (fun y : Api_entry => decide (y.Node = x)) L with ⟨h1, _⟩ | ⟨i, h1, h2, h3, _⟩
    · exact .inl (by rw [findE, if_neg h]; exact h1)
    · exact .inr ⟨i, by rw [findE, if_neg h]; exact h1, h2, of_decide_eq_true h3, h⟩
def removeE (L : List Api_entry) (id : Int) : Int × List Api_entry := if findE L id < 0 then (6, L) else (0, cutE L (findE L id).toNat)
theorem aRemove_spec {id : Int} (hl : L.length ≤ 2000000) (hO : Own k w [actL s a L]) :
  Tri Tryz.prog 34 #[.pointer (some ⟨s, 0, none⟩), .int .i64 id] k w fun v m => v = .int .i64 (removeE L id).1 ∧ m = [actL s a (removeE L id).2] := by
 refine enter (args := [.pointer (some ⟨s, 0, none⟩), .int .i64 id]) Tryz.func34 rfl rfl ?_
 obtain ⟨p, c, hg, hlc, hO⟩ := actL_open hO
 refine K0 (K1 (V2 rfl rfl rfl (K2 (K3 (K0 (K1 (V1 rfl rfl rfl (V1 rfl rfl rfl (CK [.b s, .p p] hO rfl (fun k' hx hr hO' => aFindB_spec hg hl (hO := hO')) ?_)))))))))
 rintro _ _ w ⟨rfl, rfl⟩ hO
 simp only [List.cons_append, List.nil_append] at hO
 refine V2 rfl rfl rfl (K2 (K3 (K0 (K4 (K0 (K1 (V1 rfl rfl rfl (CK [.b s] hO rfl (fun k' hx hr hO' => anone_spec (hO := hO')) ?_))))))))
 rintro _ _ w ⟨rfl, rfl⟩ hO
 simp only [List.cons_append, List.nil_append] at hO
 refine V2 rfl rfl rfl (K2 (K3 (L9 (K0 (K1 (V1 rfl rfl rfl ?_))))))
 refine Z0 (fun h4_1 => ?_) (fun h4_1 => ?_)
 ·refine V2 rfl rfl rfl (K2 (K3 (L8 (K0 (K1 (V2 rfl rfl rfl (K2 (K3 (K6 (L0 (K9 ?_)))))))))))
  exact fin1 rfl rfl ⟨_, ⟨by rw [removeE, if_pos h4_1], rfl⟩, by rw [removeE, if_pos h4_1]; exact (actL_shut (hO.ks [.b s, .p p])).one⟩
 ·refine V2 rfl rfl rfl (K2 (K3 (L9 (K5 (K8 (K3 (K0 ?_)))))))
  obtain ⟨i, hi, hi2⟩ : ∃ i : Nat, findE L id = i ∧ i < L.length := by
   rcases findE_cases L id with h | ⟨i, h1, h2, _⟩
   ·omega
   ·exact ⟨i, h1, h2⟩
  have er : removeE L id = (0, cutE L i) := by rw [removeE, if_neg h4_1, hi]; rfl
  rw [er]
  refine K1 (V1 rfl rfl rfl (V1 rfl rfl rfl (CK [.b s, .p p] hO (by rw [hi]; rfl) (fun k' hx hr hO' => remove_spec hi2 hg hlc hl (hO := hO')) ?_)))
  rintro _ _ w ⟨rfl, rfl⟩ hO
  simp only [List.cons_append, List.nil_append] at hO
  refine K2 (K3 (K0 (K1 (V2 rfl rfl rfl (K2 (K3 (K6 ?_)))))))
  exact fin1 rfl rfl ⟨_, ⟨rfl, rfl⟩, hO.one⟩
def putE (A : List Node_one) (L : List Api_entry) (i : Int) (e : Api_entry) : Int × List Api_entry := if freshF A L e.Node ≠ 0 then (freshF A L e.Node, L) else if i < 0 ∨ (L.length : Int) < i then (1, L) else (0, L.take i.toNat ++ [e] ++ L.drop i.toNat)
theorem put_up {i : Nat} {e d : Api_entry} (hi : i ≤ L.length) : ((L ++ [d]).take (i + 1) ++ ((L ++ [d]).drop i).take ((L ++ [d]).length - (i + 1))).set i e = L.take i ++ [e] ++ L.drop i := by
 have h1 : ((L ++ [d]).drop i).take ((L ++ [d]).length - (i + 1)) = L.drop i := by
  rw [List.drop_append_of_le_length hi, List.length_append, List.length_singleton, show L.length + 1 - (i + 1) = (L.drop i).length by simp, List.take_left]
 rw [h1, take_succ_at (by simp; omega), List.take_append_of_le_length hi, List.append_assoc, List.set_append_right _ _ (by simp; omega)]
 simp [List.length_take, Nat.min_eq_left hi]
set_option maxHeartbeats 1000000 in
theorem aPut_spec {id i : Int} {tk : Api_token} (hn : 0 < A.length) (ha : AttrsOk A) (hl : L.length ≤ 2000000) (hO : Own k w [arenaL a A, actL s a L]) :
  Tri Tryz.prog 105 #[.pointer (some ⟨s, 0, none⟩), .int .i64 i, .int .i64 id, .agg (Api_token.cells tk).toArray] k w fun v m => v = .int .i64 (putE A L i ⟨id, tk⟩).1 ∧ m = [arenaL a A, actL s a (putE A L i ⟨id, tk⟩).2] := by
 refine enter (args := [.pointer (some ⟨s, 0, none⟩), .int .i64 i, .int .i64 id, .agg (Api_token.cells tk).toArray]) Tryz.func105 rfl rfl ?_
 obtain ⟨p, c, hg, hlc, hO⟩ := actL_open (hO.ks [.o s])
 refine K0 (K1 (s_box (vs := [.int .i64 tk.Kind, .string tk.Name, .string tk.Data, .string tk.System, .int .i64 tk.Has, .bool tk.Quirks, .int .i32 tk.Char, .bool tk.Self, .slice tk.AttrsP tk.Attrs.length tk.AttrsC]) hO rfl rfl rfl (by rfl) fun b7 w hO => ?_))
 refine V2 rfl rfl rfl (K2 (K3 (K0 (K0 (K1 (V1 rfl rfl rfl (V1 rfl rfl rfl (CK [.o a, .b s, .p p] hO rfl (fun k' hx hr hO' => afresh_spec hn ha hg hl (hO := hO')) ?_))))))))
 rintro _ _ w ⟨rfl, rfl⟩ hO
 simp only [List.cons_append, List.nil_append] at hO
 refine V2 rfl rfl rfl (K2 (K3 (K4 (K0 (K1 (V1 rfl rfl rfl ?_))))))
 refine Z1 (fun h2_1 => ?_) (fun h2_1 => ?_)
 ·refine V2 rfl rfl rfl (K2 (K3 (L8 (K0 (K1 (V1 rfl rfl rfl (V2 rfl rfl rfl (K2 (K3 (K6 (L0 (K9 ?_))))))))))))
  have er : putE A L i ⟨id, tk⟩ = (freshF A L id, L) := by rw [putE, if_pos h2_1]
  rw [er]
  exact fin1 rfl rfl ⟨_, ⟨rfl, rfl⟩, ((actL_shut (hO.ks [.b s, .p p])).ks [.o a, .o s]).two⟩
 ·refine V2 rfl rfl rfl (K2 (K3 (L9 (K0 (K1 (V1 rfl rfl rfl ?_))))))
  refine Z0 (fun h4_1 => ?_) (fun h4_1 => ?_)
  ·refine V1 rfl rfl rfl ?_
   repeat refine M2 ?_
   refine l_y rfl rfl (y_pick_t rfl rfl) (V2 rfl rfl rfl (K2 (K3 (L8 (K0 (K1 (V2 rfl rfl rfl (K2 (K3 (K6 (L0 (K9 ?_))))))))))))
   have er : putE A L i ⟨id, tk⟩ = (1, L) := by rw [putE, if_neg (by simpa using h2_1), if_pos (by omega)]
   rw [er]
   exact fin1 rfl rfl ⟨_, ⟨rfl, rfl⟩, ((actL_shut (hO.ks [.b s, .p p])).ks [.o a, .o s]).two⟩
  ·refine V1 rfl rfl rfl (V1 rfl rfl rfl (V1 rfl rfl rfl (V3 rfl rfl rfl rfl (l_y rfl rfl (y_fldb (o' := 1) rfl) (l_y rfl rfl (D5 hO rfl) ?_)))))
   refine l_y rfl rfl (y_lenL rfl) ?_
   refine Z0 (fun h4_9 => ?_) (fun h4_9 => ?_)
   ·refine l_y rfl rfl (y_pick_f rfl rfl) (V2 rfl rfl rfl (K2 (K3 (L8 (K0 (K1 (V2 rfl rfl rfl (K2 (K3 (K6 (L0 (K9 ?_))))))))))))
    have er : putE A L i ⟨id, tk⟩ = (1, L) := by rw [putE, if_neg (by simpa using h2_1), if_pos (by omega)]
    rw [er]
    exact fin1 rfl rfl ⟨_, ⟨rfl, rfl⟩, ((actL_shut (hO.ks [.b s, .p p])).ks [.o a, .o s]).two⟩
   ·refine l_y rfl rfl (y_pick_f rfl rfl) (V2 rfl rfl rfl (K2 (K3 (L9 (K5 (K8 (K3 (K0 ?_))))))))
    obtain ⟨j, rfl⟩ : ∃ j : Nat, i = j := ⟨i.toNat, by omega⟩
    have er : putE A L j ⟨id, tk⟩ = (0, L.take j ++ [⟨id, tk⟩] ++ L.drop j) := by rw [putE, if_neg (by simpa using h2_1), if_neg (by omega)]; rfl
    rw [er]
    refine K1 (V1 rfl rfl rfl (V1 rfl rfl rfl (V3 rfl rfl rfl rfl (l_y rfl rfl (y_fldb (o' := 1) rfl) (l_y rfl rfl (D5 hO rfl) ?_)))))
    refine s_build (parts := []) (cs := [.int .i64 0, .int .i64 0, .string ⟨#[]⟩, .string ⟨#[]⟩, .string ⟨#[]⟩, .int .i64 0, .bool false, .int .i32 0, .bool false, .slice none 0 0]) rfl rfl (fun a ha => partsOf_sound ha _ _ rfl) (by kernel_rfl) (s_lit (parts := [(0, .tmp 34)]) (enc := Api_entry.cells) [⟨0, ⟨0, ⟨#[]⟩, ⟨#[]⟩, ⟨#[]⟩, 0, false, 0, false, none, [], 0⟩⟩] [.agg [.int .i64 0, .int .i64 0, .string ⟨#[]⟩, .string ⟨#[]⟩, .string ⟨#[]⟩, .int .i64 0, .bool false, .int .i32 0, .bool false, .slice none 0 0].toArray] hO rfl (fun b35 w hO => ?_))
    refine s_app hO rfl rfl (src_own hO) (fun p36 c36 w hO gs36 => ?_)
    refine V3 rfl rfl rfl rfl (l_y rfl rfl (y_fldb (o' := 1) rfl) (Y1 hO rfl rfl (fun w hO => ?_)))
    simp only [List.set_cons_zero, List.set_cons_succ] at hO
    refine K2 (K3 (K0 ?_))
    obtain ⟨N, hN⟩ : ∃ N, N = L ++ [(⟨0, ⟨0, ⟨#[]⟩, ⟨#[]⟩, ⟨#[]⟩, 0, false, 0, false, none, [], 0⟩⟩ : Api_entry)] := ⟨_, rfl⟩
    have hNl : N.length = L.length + 1 := by rw [hN]; simp
    rw [← hN] at hO gs36
    have hNc := (sls_fct (p := p36) hO).1
    refine da_region (by intro c a d v w h; cases d <;> exact h) ?_
    have hO := hO.drew
    refine da_phase _ [13] (SO.ks [.b s] hO) ?_
    refine dx_u 0 (by kernel_rfl) rfl rfl rfl (fun w => y_move rfl) ?_
    refine dx_u 1 (by kernel_rfl) rfl rfl rfl (fun w => y_nilCheck rfl rfl) ?_
    refine dx_u 2 (by kernel_rfl) rfl rfl rfl (fun w => y_fldb (o' := 1) rfl) ?_
    refine dx_y 3 (by kernel_rfl) rfl rfl rfl (fun w ⟨m, hw⟩ => D5 hw rfl) ?_
    refine dx_u 4 (by kernel_rfl) rfl rfl rfl (fun w => y_move rfl) ?_
    refine dx_u 5 (by kernel_rfl) rfl rfl rfl (fun w => D4) ?_
    refine dx_y 6 (by kernel_rfl) rfl rfl rfl (fun w ⟨m, hw⟩ => y_tl (j + 1) rfl rfl) ?_
    refine dx_u 7 (by kernel_rfl) rfl rfl rfl (fun w => y_move rfl) ?_
    refine dx_u 8 (by kernel_rfl) rfl rfl rfl (fun w => y_nilCheck rfl rfl) ?_
    refine dx_u 9 (by kernel_rfl) rfl rfl rfl (fun w => y_fldb (o' := 1) rfl) ?_
    refine dx_y 10 (by kernel_rfl) rfl rfl rfl (fun w ⟨m, hw⟩ => D5 hw rfl) ?_
    refine dx_u 11 (by kernel_rfl) rfl rfl rfl (fun w => y_move rfl) ?_
    refine dx_y 12 (by kernel_rfl) rfl rfl rfl (fun w ⟨m, hw⟩ => y_tl j rfl rfl) ?_
    refine dx_close 13 (by kernel_rfl) rfl rfl ?_
    refine s_cpUp (p := p36) hO rfl rfl (by omega) (fun w hO => ?_)
    obtain ⟨N2, hN2⟩ : ∃ N2, N2 = N.take (j + 1) ++ (N.drop j).take (N.length - (j + 1)) := ⟨_, rfl⟩
    have hN2l : N2.length = N.length := by rw [hN2]; simp; omega
    rw [← hN2] at hO
    rw [← hN2l] at hO
    have hgN : Gs p36 N2.length := (sls_fct (p := p36) hO).2
    refine o_done (da_end (by kernel_rfl) ?_)
    refine K3 (K0 (da_region (by intro c a d v w h; cases d <;> exact h) ?_))
    have hO := hO.drew
    refine da_phase _ [9] (SO.ks [.b s, .b b7] hO) ?_
    refine dx_u 0 (by kernel_rfl) rfl rfl rfl (fun w => y_move rfl) ?_
    refine dx_u 1 (by kernel_rfl) rfl rfl rfl (fun w => y_nilCheck rfl rfl) ?_
    refine dx_u 2 (by kernel_rfl) rfl rfl rfl (fun w => y_fldb (o' := 1) rfl) ?_
    refine dx_y 3 (by kernel_rfl) rfl rfl rfl (fun w ⟨m, hw⟩ => D5 hw rfl) ?_
    refine dx_u 4 (by kernel_rfl) rfl rfl rfl (fun w => y_move rfl) ?_
    refine dx_u 5 (by kernel_rfl) rfl rfl rfl (fun w => y_move rfl) ?_
    refine dx_y 6 (by kernel_rfl) rfl rfl rfl (fun w ⟨m, hw⟩ => D8 (cs := [.int .i64 tk.Kind, .string tk.Name, .string tk.Data, .string tk.System, .int .i64 tk.Has, .bool tk.Quirks, .int .i32 tk.Char, .bool tk.Self, .slice tk.AttrsP tk.Attrs.length tk.AttrsC]) hw rfl) ?_
    refine dx_only 7 (by kernel_rfl) rfl rfl ?_
    refine s_build (parts := [(0, .tmp 58), (1, .tmp 59)]) (cs := [.int .i64 id, .int .i64 tk.Kind, .string tk.Name, .string tk.Data, .string tk.System, .int .i64 tk.Has, .bool tk.Quirks, .int .i32 tk.Char, .bool tk.Self, .slice tk.AttrsP tk.Attrs.length tk.AttrsC]) rfl rfl (fun a ha => partsOf_sound ha _ _ rfl) (by kernel_rfl) (o_done (⟨SO.ks [.b s, .b b7] hO, ?_⟩))
    refine dx_u 8 (by kernel_rfl) rfl rfl rfl (fun w => y_idx rfl rfl) ?_
    refine dx_close 9 (by kernel_rfl) rfl rfl ?_
    refine s_eA (⟨id, tk⟩ : Api_entry) hO rfl rfl (fun w hO => ?_)
    have hO : Own k w (aI p36 c36 (N2.set j ⟨id, tk⟩) :: _) := hO.ks [.p p36]
    have e7 : N2.set j ⟨id, tk⟩ = L.take j ++ [⟨id, tk⟩] ++ L.drop j := by rw [hN2, hN]; exact put_up (by omega)
    rw [e7] at hO
    refine o_done (da_end (by kernel_rfl) ?_)
    refine K3 (K0 (K1 (V2 rfl rfl rfl (K2 (K3 (K6 ?_))))))
    have hlf : N2.length = (L.take j ++ [(⟨id, tk⟩ : Api_entry)] ++ L.drop j).length := by rw [hN2l, hNl]; simp; omega
    rw [hlf] at hO
    exact fin1 rfl rfl ⟨_, ⟨rfl, rfl⟩, ((actL_shut (hO.ks [.b s, .p p36]) rfl).ks [.o a, .o s]).two⟩
def swapE (A : List Node_one) (L : List Api_entry) (old id : Int) : Int × List Api_entry := if elB A id = false ∨ findE L old < 0 then (6, L) else if freshF A L id = 0 then (0, L.set (findE L old).toNat { at_ L (findE L old).toNat with Node := id }) else (1, L)
theorem freshF_cases (A : List Node_one) (L : List Api_entry) (id : Int) : (freshF A L id = 6 ∧ elB A id = false) ∨ (freshF A L id = 1 ∧ elB A id = true ∧ 0 ≤ findE L id) ∨ (freshF A L id = 0 ∧ elB A id = true ∧ findE L id < 0) := by
  unfold freshF
  cases h : elB A id with
  | false => exact .inl ⟨rfl, rfl⟩
  | true =>
    right
    by_cases h2 : 0 ≤ findE L id
    · exact .inl ⟨by rw [if_neg (by simp), if_pos h2], rfl, h2⟩
    · exact .inr ⟨by rw [if_neg (by simp), if_neg h2], rfl, by omega⟩
theorem aSwap_spec {old id : Int} (hn : 0 < A.length) (ha : AttrsOk A) (hl : L.length ≤ 2000000) (hO : Own k w [arenaL a A, actL s a L]) :
  Tri Tryz.prog 123 #[.pointer (some ⟨s, 0, none⟩), .int .i64 old, .int .i64 id] k w fun v m => v = .int .i64 (swapE A L old id).1 ∧ m = [arenaL a A, actL s a (swapE A L old id).2] := by
 refine enter (args := [.pointer (some ⟨s, 0, none⟩), .int .i64 old, .int .i64 id]) Tryz.func123 rfl rfl ?_
 obtain ⟨p, c, hg, hlc, hO⟩ := actL_open (hO.ks [.o s])
 have hf := freshF_cases A L id
 refine K0 (K1 (V2 rfl rfl rfl (K2 (K3 (K0 (K1 (V1 rfl rfl rfl (V1 rfl rfl rfl (CK [.o a, .b s, .p p] hO rfl (fun k' hx hr hO' => afresh_spec hn ha hg hl (hO := hO')) ?_)))))))))
 rintro _ _ w ⟨rfl, rfl⟩ hO
 simp only [List.cons_append, List.nil_append] at hO
 refine V2 rfl rfl rfl (K2 (K3 (K0 (K1 (V1 rfl rfl rfl (V1 rfl rfl rfl (CK [.b s, .p p] hO rfl (fun k' hx hr hO' => aFindB_spec hg hl (hO := hO')) ?_)))))))
 rintro _ _ w ⟨rfl, rfl⟩ hO
 simp only [List.cons_append, List.nil_append] at hO
 refine V2 rfl rfl rfl (K2 (K3 (K0 (K4 (K0 (K1 (V1 rfl rfl rfl (N3 (V1 rfl rfl rfl (V1 rfl rfl rfl ?_))))))))))
 refine Z0 (fun h3_4 => ?_) (fun h3_4 => ?_)
 ·refine l_y rfl rfl (y_pick_f rfl rfl) (V2 rfl rfl rfl (K2 (K3 (L8 (K0 (K1 (V1 rfl rfl rfl (V2 rfl rfl rfl (K2 (K3 (K6 (L0 (K9 ?_)))))))))))))
  have hel : elB A id = false := by rcases hf with ⟨_, h⟩ | ⟨h, _, _⟩ | ⟨h, _, _⟩ <;> first | exact h | omega
  have er : swapE A L old id = (6, L) := by rw [swapE, if_pos (.inl hel)]
  rw [er]
  exact fin1 rfl rfl ⟨_, ⟨by simp [*], rfl⟩, ((actL_shut (hO.ks [.b s, .p p])).ks [.o a, .o s]).two⟩
 ·refine l_y rfl rfl (y_pick_f rfl rfl) (V2 rfl rfl rfl (K2 (K3 (L9 (K0 (K1 (V1 rfl rfl rfl ?_)))))))
  refine Z0 (fun h5_1 => ?_) (fun h5_1 => ?_)
  ·refine V2 rfl rfl rfl (K2 (K3 (L8 (K0 (K1 (V2 rfl rfl rfl (K2 (K3 (K6 (L0 (K9 ?_)))))))))))
   have er : swapE A L old id = (6, L) := by rw [swapE, if_pos (.inr h5_1)]
   rw [er]
   exact fin1 rfl rfl ⟨_, ⟨rfl, rfl⟩, ((actL_shut (hO.ks [.b s, .p p])).ks [.o a, .o s]).two⟩
  ·refine V2 rfl rfl rfl (K2 (K3 (L9 (K0 (K1 (V1 rfl rfl rfl ?_))))))
   refine Z0 (fun h7_1 => ?_) (fun h7_1 => ?_)
   ·refine V2 rfl rfl rfl (K2 (K3 (L8 ?_)))
    obtain ⟨i, hi, hfl⟩ : ∃ i : Nat, findE L old = i ∧ i < L.length := by
     rcases findE_cases L old with h | ⟨i, h1, h2, _⟩
     ·omega
     ·exact ⟨i, h1, h2⟩
    have hel : elB A id = true := by rcases hf with ⟨h, _⟩ | ⟨h, _, _⟩ | ⟨_, h, _⟩ <;> first | exact h | omega
    have er : swapE A L old id = (0, L.set i { at_ L i with Node := id }) := by rw [swapE, if_neg (by simp [hel]; omega), if_pos h7_1, hi]; rfl
    rw [er]
    refine K1 (V1 rfl rfl rfl (V3 rfl rfl rfl rfl (l_y rfl rfl (y_fldb (o' := 1) rfl) (l_y rfl rfl (D5 hO rfl) ?_))))
    refine l_y (v := .int .i64 (i : Int)) rfl rfl (by rw [← hi]; exact y_move rfl) (V1 rfl rfl rfl (l_y rfl rfl (y_idx rfl rfl) ?_))
    refine l_y rfl rfl (y_fld (j' := 0) rfl) ?_
    refine s_e1 (x0 := 0) hO rfl rfl (fun w hO => ?_)
    refine K2 (K8 (K3 (K0 (K1 (V1 rfl rfl rfl (V2 rfl rfl rfl (K2 (K3 (K6 ?_)))))))))
    have hls : L.length = (L.set i { at_ L i with Node := id }).length := by simp
    rw [hls] at hO
    exact fin1 rfl rfl ⟨_, ⟨by rw [h7_1], rfl⟩, ((actL_shut (hO.ks [.b s, .p p]) rfl).ks [.o a, .o s]).two⟩
   ·refine V2 rfl rfl rfl (K2 (K3 (L9 (K5 (K8 (K3 (K0 (K1 (V1 rfl rfl rfl (V2 rfl rfl rfl (K2 (K3 (K6 ?_)))))))))))))
    have hel : elB A id = true ∧ freshF A L id = 1 := by rcases hf with ⟨h, _⟩ | ⟨h, h2, _⟩ | ⟨h, _, _⟩ <;> first | exact ⟨h2, h⟩ | omega
    have er : swapE A L old id = (1, L) := by rw [swapE, if_neg (by simp [hel.1]; omega), if_neg h7_1]
    rw [er]
    exact fin1 rfl rfl ⟨_, ⟨by rw [hel.2], rfl⟩, ((actL_shut (hO.ks [.b s, .p p])).ks [.o a, .o s]).two⟩
end
end Go.Proofs.YtoohapbaelmkcaaGreat
end
section
set_option maxRecDepth 100000
namespace Go.Proofs.YtoohapbaelmkcaaGreat
open Go Go.Hb Go.RowKit
theorem findE_none {L : List Api_entry} {x : Int} (h : ∀ y ∈ L, y.Node ≠ x) : findE L x = -1 := by
 rw [findE]; split
 ·rfl
 ·exact idx_none fun j hj => decide_eq_false (h _ (at_mem hj))
section
variable {k : Ctx} {w : World}
end
end Go.Proofs.YtoohapbaelmkcaaGreat
end
section
set_option maxRecDepth 100000
namespace Go.Proofs.YtoohapbaelmkcaaGreat
open Go Go.Hb Go.RowKit
abbrev zB (z r : Nat) (q : Option Addr) (n d : Nat) : HP := blk z 100 [.pointer (some ⟨r, 0, none⟩), .slice q n d]
def ralL (z r : Nat) (l : List Api_entry) : HP := fun h => ∃ x : Option Addr × Nat, sep [zB z r x.1 l.length x.2, aI x.1 x.2 l] h
theorem ralL_open {k : Ctx} {w : World} {M : List HP} {z r : Nat} {L : List Api_entry} (hO : Own k w (ralL z r L :: M)) : ∃ q d, Gs q L.length ∧ L.length ≤ d ∧ Own k w (zB z r q L.length d :: aI q d L :: M) := by
 obtain ⟨⟨q, d⟩, hO⟩ := Own.ex (A := fun (x : Option Addr × Nat) => sep [zB z r x.1 L.length x.2, aI x.1 x.2 L]) hO
 have hO := Own.open hO
 simp only [List.cons_append, List.nil_append] at hO
 exact ⟨q, d, (sls_fct (p := q) hO).2, (sls_fct (p := q) hO).1, hO⟩
theorem ralL_shut {k : Ctx} {w : World} {M : List HP} {z r n : Nat} {L : List Api_entry} {q : Option Addr} {d : Nat} (hO : Own k w (zB z r q n d :: aI q d L :: M)) (hn : n = L.length := by first | rfl | simp) : Own k w (ralL z r L :: M) := by
 subst hn
 exact (Own.shut (l := [zB z r q L.length d, aI q d L]) hO).tell fun h hA => ⟨(q, d), hA⟩
instance (priority := high) AtK.hral (z r : Nat) (l : List Api_entry) (M : List HP) : AtK (ralL z r l :: M) (.o z) (ralL z r l) M := ⟨.hd _ M⟩
/-- but for markers no two entries are of one node -/
def DistN (L : List Api_entry) : Prop := ∀ i j, i < j → j < L.length → (at_ L i).Node = (at_ L j).Node → (at_ L j).Node = -1
section
variable {k : Ctx} {w : World} {z r d : Nat} {q : Option Addr} {L : List Api_entry}
theorem zNew_spec {p : Option Addr} (hO : Own k w []) :
  Tri Tryz.prog 27 #[.pointer (some ⟨r, 0, none⟩)] k w fun v m => ∃ z, v = .pointer (some ⟨z, 0, none⟩) ∧ m = [ralL z r []] := by
 refine enter (args := [.pointer (some ⟨r, 0, none⟩)]) Tryz.func27 rfl rfl (K0 (K1 (V2 rfl rfl rfl (K2 (K3 (K0 (K1 (V1 rfl rfl rfl (s_build (parts := [(0, .tmp 3)]) (cs := [.pointer (some ⟨r, 0, none⟩), .slice none 0 0]) rfl rfl (fun a ha => partsOf_sound ha _ _ rfl) (by kernel_rfl) (s_box (vs := [.pointer (some ⟨r, 0, none⟩), .slice none 0 0]) hO rfl rfl rfl (by rfl) fun b5 w hO => ?_))))))))))
 refine V2 rfl rfl rfl (K2 (K3 (K6 ?_)))
 have hO : Own k w (aI none 0 [] :: _) := sl_nil 55 10 hO
 exact fin1 rfl rfl ⟨_, ⟨_, rfl, rfl⟩, (ralL_shut (L := []) (hO.ks [.b b5, .p none]) rfl).one⟩
theorem zFindB_spec {x : Int} (hD : DistN L) (hg : Gs q L.length) (hl : L.length ≤ 2000000) (hO : Own k w [zB z r q L.length d, aI q d L]) :
  Tri Tryz.prog 41 #[.pointer (some ⟨z, 0, none⟩), .int .i64 x] k w fun v m => v = .int .i64 (findE L x) ∧ m = [zB z r q L.length d, aI q d L] := by
 refine enter (args := [.pointer (some ⟨z, 0, none⟩), .int .i64 x]) Tryz.func41 rfl rfl (K0 (K1 (V2 rfl rfl rfl (K2 (K3 (K0 (K0 (K1 (V1 rfl rfl rfl (V3 rfl rfl rfl rfl (l_y rfl rfl (y_fldb (o' := 1) rfl) (l_y rfl rfl (D5 hO rfl) ?_))))))))))))
 refine l_y rfl rfl (y_lenL rfl) (l_y rfl rfl (D4) ?_)
 refine V2 rfl rfl rfl (K2 (K3 (K4 (c_rounds (X := Nat) (fun i => [(0, .pointer (some ⟨z, 0, none⟩)), (1, .int .i64 x), (4, .int .i64 0), (5, .int .i64 ((i : Int) - 1))]) (fun i w => Own k w [zB z r q L.length d, aI q d L] ∧ (i ≤ L.length) ∧ (∀ j, i ≤ j → j < L.length → (at_ L j).Node ≠ x)) (fun i => i) (L.length) ⟨rfl, rfl, rfl, rfl, trivial⟩ ⟨hO.only [.b z, .p q], Nat.le_refl _, fun j h1 h2 => absurd h2 (by omega)⟩ ?_))))
 rintro i w m hm ⟨hO, hi, hn⟩
 refine K0 (K0 (K1 (V1 rfl rfl rfl ?_)))
 refine Z0 (fun h2_1 => ?_) (fun h2_1 => ?_)
 ·refine V1 rfl rfl rfl (V1 rfl rfl rfl ?_)
  refine Z1 (fun h2_4 => ?_) (fun h2_4 => ?_)
  ·refine l_y rfl rfl (y_pick_t rfl rfl) (K2 (K3 (L8 (K5 (K3 (K0 (K4 (K0 ?_))))))))
   obtain ⟨y, hy⟩ : ∃ y, i = y + 1 := ⟨i - 1, by omega⟩
   have ey : (i : Int) - 1 = (y : Int) := by omega
   rw [ey]
   refine K1 (V1 rfl rfl rfl (V3 rfl rfl rfl rfl (l_y rfl rfl (y_fldb (o' := 1) rfl) (l_y rfl rfl (D5 hO rfl) ?_))))
   refine V1 rfl rfl rfl (l_y rfl rfl (y_idx rfl rfl) ?_)
   refine l_y rfl rfl (y_fld (j' := 0) rfl) ?_
   refine l_y rfl rfl (y_e1 (x0 := 0) hO rfl) ?_
   refine V1 rfl rfl rfl ?_
   refine Z0 (fun h4_9 => ?_) (fun h4_9 => ?_)
   ·refine K2 (K3 (L8 (K0 (K1 (V1 rfl rfl rfl (V2 rfl rfl rfl (K2 (K3 (K6 (L0 (K9 (K9 (L0 (K9 ?_))))))))))))))
    rw [show findE L x = y by rw [findE, if_neg h2_4]; exact idx_at (p := fun e : Api_entry => decide (e.Node = x)) (i := y) (by omega) (decide_eq_true h4_9) (fun j hj => decide_eq_false (fun h => h2_4 (by have := hD j y hj (by omega) (h.trans h4_9.symm); rw [← this]; exact h4_9.symm)))]
    exact fin1 rfl rfl ⟨_, ⟨rfl, rfl⟩, hO.only [.b z, .p q]⟩
   ·refine K2 (K3 (L9 (K5 (K8 (K3 (K1 (V1 rfl rfl rfl (l_y rfl rfl (D4) ?_))))))))
    refine V2 rfl rfl rfl (K2 ?_)
    exact q_next (y) ⟨rfl, rfl, rfl, rfl, trivial⟩ ⟨hO.only [.b z, .p q], by omega, fun j h1 h2 => (by by_cases e : j = y; (subst e; exact h4_9); exact hn j (by omega) h2)⟩ (by omega)
  ·refine l_y rfl rfl (y_pick_t rfl rfl) (K2 (K3 (L9 (K7 (L1 (L1 (L2 (K3 (K0 (K1 (V2 rfl rfl rfl (K2 (K3 (K6 ?_))))))))))))))
   have e : findE L x = -1 := by
    first
     | exact findE_none (fun e he => by obtain ⟨j, hj, rfl⟩ := mem_at he; exact hn j (by omega) hj)
     | (rw [findE, if_pos]; first | assumption | (simpa using h2_4))
   rw [e]
   exact fin1 rfl rfl ⟨_, ⟨rfl, rfl⟩, hO.only [.b z, .p q]⟩
 ·refine V1 rfl rfl rfl ?_
  repeat refine M2 ?_
  refine l_y rfl rfl (y_pick_f rfl rfl) (K2 (K3 (L9 (K7 (L1 (L1 (L2 (K3 (K0 (K1 (V2 rfl rfl rfl (K2 (K3 (K6 ?_))))))))))))))
  have e : findE L x = -1 := by
   first
    | exact findE_none (fun e he => by obtain ⟨j, hj, rfl⟩ := mem_at he; exact hn j (by omega) hj)
    | (rw [findE, if_pos]; first | assumption | (simpa using h2_4))
  rw [e]
  exact fin1 rfl rfl ⟨_, ⟨rfl, rfl⟩, hO.only [.b z, .p q]⟩
theorem zFind_spec {x : Int} (hD : DistN L) (hl : L.length ≤ 2000000) (hO : Own k w [ralL z r L]) :
  Tri Tryz.prog 41 #[.pointer (some ⟨z, 0, none⟩), .int .i64 x] k w fun v m => v = .int .i64 (findE L x) ∧ m = [ralL z r L] := by
 obtain ⟨q, d, hg, hlc, hO⟩ := ralL_open hO
 refine Ret.mono (zFindB_spec hD hg hl hO) ?_
 rintro v w' ⟨m, ⟨rfl, rfl⟩, hO⟩
 exact ⟨_, ⟨rfl, rfl⟩, ralL_shut hO⟩
theorem zMark_spec (hl : L.length ≤ 2000000) (hO : Own k w [ralL z r L]) :
  Tri Tryz.prog 32 #[.pointer (some ⟨z, 0, none⟩)] k w fun v m => v = .tuple #[] ∧ m = [ralL z r (L ++ [markE])] := by
 refine enter (args := [.pointer (some ⟨z, 0, none⟩)]) Tryz.func32 rfl rfl ?_
 obtain ⟨q, d, hg, hlc, hO⟩ := ralL_open hO
 refine K1 (V1 rfl rfl rfl (V1 rfl rfl rfl (V3 rfl rfl rfl rfl (l_y rfl rfl (y_fldb (o' := 1) rfl) (l_y rfl rfl (D5 hO rfl) ?_)))))
 refine s_build (parts := [(0, .const (.int .i64 (-1)))]) (cs := [.int .i64 (-1), .int .i64 0, .string ⟨#[]⟩, .string ⟨#[]⟩, .string ⟨#[]⟩, .int .i64 0, .bool false, .int .i32 0, .bool false, .slice none 0 0]) rfl rfl (fun a ha => partsOf_sound ha _ _ rfl) (by kernel_rfl) (s_lit (parts := [(0, .tmp 7)]) (enc := Api_entry.cells) [⟨(-1), ⟨0, ⟨#[]⟩, ⟨#[]⟩, ⟨#[]⟩, 0, false, 0, false, none, [], 0⟩⟩] [.agg [.int .i64 (-1), .int .i64 0, .string ⟨#[]⟩, .string ⟨#[]⟩, .string ⟨#[]⟩, .int .i64 0, .bool false, .int .i32 0, .bool false, .slice none 0 0].toArray] hO rfl (fun b8 w hO => ?_))
 refine s_app hO rfl rfl (src_own hO) (fun p9 c9 w hO gs9 => ?_)
 refine V3 rfl rfl rfl rfl (l_y rfl rfl (y_fldb (o' := 1) rfl) (Y1 hO rfl rfl (fun w hO => ?_)))
 simp only [List.set_cons_zero, List.set_cons_succ] at hO
 refine K2 ?_
 exact fin0 rfl ⟨_, ⟨rfl, rfl⟩, (ralL_shut (hO.ks [.b z, .p p9]) rfl).one⟩
end
end Go.Proofs.YtoohapbaelmkcaaGreat
end
section
set_option maxRecDepth 100000
namespace Go.Proofs.YtoohapbaelmkcaaGreat
open Go Go.Hb Go.RowKit
section
variable {k : Ctx} {w : World} {z r d : Nat} {q : Option Addr} {L : List Api_entry}
theorem ahas_spec {xs : List Api_attr} {y : Api_attr} {px : Option Addr} {cx : Nat} (hx1 : Sli (Ro k) (.slice px xs.length cx) (xs.map Api_attr.cells)) (hxl : xs.length ≤ 9223372036854775807) (hO : Own k w []) :
    Tri Tryz.prog 117 #[.slice px xs.length cx, .agg (Api_attr.cells y).toArray] k w fun v m => ∃ n : Nat, v = .int .i64 (n : Int) ∧ (n = 0 ↔ (xs.any fun x => decide (y = x)) = false) ∧ m = [] := by
  refine enter (args := [.slice px xs.length cx, .agg (Api_attr.cells y).toArray]) Tryz.func117 rfl rfl ?_
  have hgx := sli_gs hx1
  refine K0 (K1 (s_box (vs := [.int .i64 y.Space, .string y.Prefix, .string y.Name, .string y.Value]) hO rfl rfl rfl (by rfl) fun b3 w hO => ?_))
  refine V2 rfl rfl rfl (K2 (K3 (K0 (K1 (V2 rfl rfl rfl (K2 (K3 (K0 (K0 (K1 (V2 rfl rfl rfl (K2 (K3 (K4 (c_rounds (X := Nat × Nat) (fun x => [(0, .slice px xs.length cx), (3, .pointer (some ⟨b3, 0, none⟩)), (4, .int .i64 0), (5, .int .i64 (x.2 : Int)), (6, .int .i64 (x.1 : Int))]) (fun x w => Own k w [blk b3 115 (Api_attr.cells y)] ∧ (x.1 ≤ xs.length) ∧ (x.2 ≤ x.1 ∧ (x.2 = 0 ↔ ((xs.take x.1).any fun x => decide (y = x)) = false))) (fun x => xs.length - x.1) ((0, 0)) ⟨rfl, rfl, rfl, rfl, rfl, trivial⟩ ⟨hO.only [.b b3], Nat.zero_le _, ⟨Nat.le_refl _, by simp⟩⟩ ?_)))))))))))))))
  rintro x w m hm ⟨hO, hi, hc⟩
  refine K0 (K0 (K1 (V1 rfl rfl rfl (V1 rfl rfl rfl (l_y rfl rfl (y_lenL rfl) ?_)))))
  refine Z0 (fun h3_3 => ?_) (fun h3_3 => ?_)
  · refine K2 (K3 (L8 (K5 (K3 (K0 (K4 (K0 (da_region (by intro c a d v w h; cases d <;> exact h) ?_))))))))
    have hO := hO.drew
    refine da_phase _ [] (SO.ks [.b b3] hO) ?_
    refine dx_u 0 (by kernel_rfl) rfl rfl rfl (fun w => y_move rfl) ?_
    refine dx_u 1 (by kernel_rfl) rfl rfl rfl (fun w => y_move rfl) ?_
    refine dx_u 2 (by kernel_rfl) rfl rfl rfl (fun w => y_idx rfl rfl) ?_
    refine dx_y 3 (by kernel_rfl) rfl rfl rfl (fun w ⟨m, hw⟩ => y_rA (x0 := 0) (enc := Api_attr.cells) (xs := xs) (cs := [.int .i64 (at_ xs ((x.1 : Int) : Int).toNat).Space, .string (at_ xs ((x.1 : Int) : Int).toNat).Prefix, .string (at_ xs ((x.1 : Int) : Int).toNat).Name, .string (at_ xs ((x.1 : Int) : Int).toNat).Value]) hw rfl) ?_
    refine dx_y 4 (by kernel_rfl) rfl rfl rfl (fun w ⟨m, hw⟩ => D8 (cs := [.int .i64 y.Space, .string y.Prefix, .string y.Name, .string y.Value]) hw rfl) ?_
    refine dx_y 5 (by kernel_rfl) rfl rfl rfl (fun w ⟨m, hw⟩ => y_eqA (enc := Api_attr.cells) (a := at_ xs x.1) (b := y) (c := decide (y = at_ xs x.1)) rfl rfl (decide_eq_decide.2 eq_comm)) ?_
    refine dx_end (by kernel_rfl) ?_
    refine K3 ?_
    refine c_split rfl (fun hc18 => ?_) (fun hc18 => ?_)
    · refine K1 (V1 rfl rfl rfl (l_y rfl rfl (D4) ?_))
      refine V2 rfl rfl rfl (K2 (K8 (K3 (K1 (V1 rfl rfl rfl (l_y rfl rfl (D4) ?_))))))
      refine V2 rfl rfl rfl (K2 ?_)
      have hcn : ∀ b : Bool, decide (y = at_ xs x.1) = b → ((xs.take (x.1 + 1)).any fun x => decide (y = x)) = (((xs.take x.1).any fun x => decide (y = x)) || b) := fun b hb => by rw [any_snoc (by omega), hb]
      first
        | exact q_next (x.1 + 1, x.2 + 1) ⟨rfl, rfl, rfl, rfl, rfl, trivial⟩ ⟨hO.only [.b b3], by dsimp only; omega, ⟨by dsimp only; omega, by dsimp only; rw [hcn true hc18]; simp⟩⟩ (by dsimp only; omega)
        | exact q_next (x.1 + 1, x.2) ⟨rfl, rfl, rfl, rfl, rfl, trivial⟩ ⟨hO.only [.b b3], by dsimp only; omega, ⟨by dsimp only; omega, by dsimp only; rw [hcn false hc18, Bool.or_false]; exact hc.2⟩⟩ (by dsimp only; omega)
    · refine K5 (K8 (K3 (K1 (V1 rfl rfl rfl (l_y rfl rfl (D4) ?_)))))
      refine V2 rfl rfl rfl (K2 ?_)
      have hcn : ∀ b : Bool, decide (y = at_ xs x.1) = b → ((xs.take (x.1 + 1)).any fun x => decide (y = x)) = (((xs.take x.1).any fun x => decide (y = x)) || b) := fun b hb => by rw [any_snoc (by omega), hb]
      first
        | exact q_next (x.1 + 1, x.2 + 1) ⟨rfl, rfl, rfl, rfl, rfl, trivial⟩ ⟨hO.only [.b b3], by dsimp only; omega, ⟨by dsimp only; omega, by dsimp only; rw [hcn true hc18]; simp⟩⟩ (by dsimp only; omega)
        | exact q_next (x.1 + 1, x.2) ⟨rfl, rfl, rfl, rfl, rfl, trivial⟩ ⟨hO.only [.b b3], by dsimp only; omega, ⟨by dsimp only; omega, by dsimp only; rw [hcn false hc18, Bool.or_false]; exact hc.2⟩⟩ (by dsimp only; omega)
  · refine K2 (K3 (L9 (K7 (L1 (L1 (L2 (K3 (K0 (K1 (V1 rfl rfl rfl (V2 rfl rfl rfl (K2 (K3 (K6 ?_))))))))))))))
    exact fin1 rfl rfl ⟨_, ⟨x.2, rfl, by rw [hc.2, List.take_of_length_le (by omega)], rfl⟩, hO.only []⟩
theorem sets_spec {xs ys : List Api_attr} {px py : Option Addr} {cx cy : Nat} (hx1 : Sli (Ro k) (.slice px xs.length cx) (xs.map Api_attr.cells)) (hy1 : Sli (Ro k) (.slice py ys.length cy) (ys.map Api_attr.cells)) (hxl : xs.length ≤ 9223372036854775807) (hyl : ys.length ≤ 9223372036854775807) (hO : Own k w []) :
  Tri Tryz.prog 96 #[.slice px xs.length cx, .slice py ys.length cy] k w fun v m => v = .bool (withinB xs ys && withinB ys xs) ∧ m = [] := by
 refine enter (args := [.slice px xs.length cx, .slice py ys.length cy]) Tryz.func96 rfl rfl ?_
 have hgx := sli_gs hx1
 have hgy := sli_gs hy1
 have wf : ∀ {us vs : List Api_attr} {i : Nat}, i < us.length → (vs.any fun y => decide (at_ us i = y)) = false → withinB us vs = false := fun hi h => List.all_eq_false.2 ⟨_, at_mem hi, by rw [h]; simp⟩
 have ws : ∀ {us vs : List Api_attr} {i : Nat}, i < us.length → withinB (us.take i) vs = true → ¬ (vs.any fun y => decide (at_ us i = y)) = false → withinB (us.take (i + 1)) vs = true := fun hi h1 h2 => by
  rw [take_succ_at hi]
  simp only [withinB, List.all_append, List.all_cons, List.all_nil, Bool.and_true, Bool.and_eq_true]
  exact ⟨h1, by simpa using h2⟩
 refine K0 (K1 (V2 rfl rfl rfl (K2 (K3 (K0 (K0 (K1 (V2 rfl rfl rfl (K2 (K3 (K4 (c_rounds (X := Nat) (fun i => [(0, .slice px xs.length cx), (1, .slice py ys.length cy), (4, .bool false), (5, .int .i64 (i : Int))]) (fun i w => Own k w [] ∧ (i ≤ xs.length) ∧ (withinB (xs.take i) ys = true)) (fun i => xs.length - i) (0) ⟨rfl, rfl, rfl, rfl, trivial⟩ ⟨hO.only [], Nat.zero_le _, rfl⟩ ?_))))))))))))
 rintro i w m hm ⟨hO, hi, hn⟩
 refine K0 (K0 (K1 (V1 rfl rfl rfl (V1 rfl rfl rfl (l_y rfl rfl (y_lenL rfl) ?_)))))
 refine Z0 (fun h2_3 => ?_) (fun h2_3 => ?_)
 ·refine K2 (K3 (L8 (K5 (K3 (K0 (K4 (K0 (K1 (V1 rfl rfl rfl (V1 rfl rfl rfl (V1 rfl rfl rfl (l_y rfl rfl (y_idx rfl rfl) ?_))))))))))))
  refine l_y rfl rfl (y_rA (x0 := 0) (enc := Api_attr.cells) (xs := xs) (cs := [.int .i64 (at_ xs ((i : Int) : Int).toNat).Space, .string (at_ xs ((i : Int) : Int).toNat).Prefix, .string (at_ xs ((i : Int) : Int).toNat).Name, .string (at_ xs ((i : Int) : Int).toNat).Value]) hO rfl) (CK [] hO rfl (fun k' hx hr hO' => ahas_spec (y := at_ xs i) (hy1.ext hO hx) hyl (hO := hO')) ?_)
  rintro _ _ w ⟨n8, rfl, n9, rfl⟩ hO
  simp only [List.cons_append, List.nil_append] at hO
  refine Z0 (fun h4_6 => ?_) (fun h4_6 => ?_)
  ·refine K2 (K3 (L8 (K0 (K1 (V2 rfl rfl rfl (K2 (K3 (K6 (L0 (K9 (K9 (L0 (K9 ?_)))))))))))))
   have e : withinB xs ys = false := wf (i := i) (by omega) (n9.1 (by omega))
   exact fin1 rfl rfl ⟨_, ⟨by rw [e]; rfl, rfl⟩, hO.only []⟩
  ·refine K2 (K3 (L9 (K5 (K8 (K3 (K1 (V1 rfl rfl rfl (l_y rfl rfl (D4) ?_))))))))
   refine V2 rfl rfl rfl (K2 ?_)
   exact q_next (i + 1) ⟨rfl, rfl, rfl, rfl, trivial⟩ ⟨hO.only [], by omega, ws (by omega) hn (fun h => h4_6 (by rw [n9.2 h]; rfl))⟩ (by omega)
 ·refine K2 (K3 (L9 (K7 (L1 (L1 (L2 (K3 (K0 (K0 (K1 (V2 rfl rfl rfl (K2 (K3 (K4 (c_rounds (X := Nat) (fun j => [(0, .slice px xs.length cx), (1, .slice py ys.length cy), (4, .bool false), (6, .int .i64 (j : Int))]) (fun j w => Own k w [] ∧ (j ≤ ys.length) ∧ (withinB (ys.take j) xs = true)) (fun j => ys.length - j) (0) ⟨rfl, rfl, rfl, rfl, trivial⟩ ⟨hO.only [], Nat.zero_le _, rfl⟩ ?_)))))))))))))))
  rintro j w m hm ⟨hO, hj, hm2⟩
  refine K0 (K0 (K1 (V1 rfl rfl rfl (V1 rfl rfl rfl (l_y rfl rfl (y_lenL rfl) ?_)))))
  refine Z0 (fun h7_3 => ?_) (fun h7_3 => ?_)
  ·refine K2 (K3 (L8 (K5 (K3 (K0 (K4 (K0 (K1 (V1 rfl rfl rfl (V1 rfl rfl rfl (V1 rfl rfl rfl (l_y rfl rfl (y_idx rfl rfl) ?_))))))))))))
   refine l_y rfl rfl (y_rA (x0 := 0) (enc := Api_attr.cells) (xs := ys) (cs := [.int .i64 (at_ ys ((j : Int) : Int).toNat).Space, .string (at_ ys ((j : Int) : Int).toNat).Prefix, .string (at_ ys ((j : Int) : Int).toNat).Name, .string (at_ ys ((j : Int) : Int).toNat).Value]) hO rfl) (CK [] hO rfl (fun k' hx hr hO' => ahas_spec (y := at_ ys j) (hx1.ext hO hx) hxl (hO := hO')) ?_)
   rintro _ _ w ⟨n8, rfl, n9, rfl⟩ hO
   simp only [List.cons_append, List.nil_append] at hO
   refine Z0 (fun h9_6 => ?_) (fun h9_6 => ?_)
   ·refine K2 (K3 (L8 (K0 (K1 (V2 rfl rfl rfl (K2 (K3 (K6 (L0 (K9 (K9 (L0 (K9 ?_)))))))))))))
    have e : withinB ys xs = false := wf (i := j) (by omega) (n9.1 (by omega))
    exact fin1 rfl rfl ⟨_, ⟨by rw [e, Bool.and_false], rfl⟩, hO.only []⟩
   ·refine K2 (K3 (L9 (K5 (K8 (K3 (K1 (V1 rfl rfl rfl (l_y rfl rfl (D4) ?_))))))))
    refine V2 rfl rfl rfl (K2 ?_)
    exact q_next (j + 1) ⟨rfl, rfl, rfl, rfl, trivial⟩ ⟨hO.only [], by omega, ws (by omega) hm2 (fun h => h9_6 (by rw [n9.2 h]; rfl))⟩ (by omega)
  ·refine K2 (K3 (L9 (K7 (L1 (L1 (L2 (K3 (K0 (K1 (V2 rfl rfl rfl (K2 (K3 (K6 ?_)))))))))))))
   have e1 : withinB xs ys = true := by rw [← hn, List.take_of_length_le (by omega)]
   have e2 : withinB ys xs = true := by rw [← hm2, List.take_of_length_le (by omega)]
   exact fin1 rfl rfl ⟨_, ⟨by rw [e1, e2]; rfl, rfl⟩, hO.only []⟩
set_option maxHeartbeats 1000000 in
theorem alike_spec {p : Option Addr} {c n : Nat} {A : List Node_one} {K : Int → List Int} {R : List Ref01_one} {x y : Api_entry} (sm : Sim A K R) (hg : Gs p R.length) (hbx : hasB A x.Node = true) (hby : hasB A y.Node = true) (hx1 : EOk k x) (hy1 : EOk k y) (hO : Own k w [rB r p R.length c, rS p c R, zB z r q n d]) :
  Tri Tryz.prog 70 #[.pointer (some ⟨z, 0, none⟩), .agg (Api_entry.cells x).toArray, .agg (Api_entry.cells y).toArray] k w fun v m => v = .bool (kinB A y x) ∧ m = [rB r p R.length c, rS p c R, zB z r q n d] := by
 refine enter (args := [.pointer (some ⟨z, 0, none⟩), .agg (Api_entry.cells x).toArray, .agg (Api_entry.cells y).toArray]) Tryz.func70 rfl rfl ?_
 have hxs := hx1.1
 have hys := hy1.1
 have hxl := hx1.2
 have hyl := hy1.2
 have hlen := sm.len
 have hx0 := hasB_true hbx
 have hy0 := hasB_true hby
 have sx := sm.atB hbx
 have sy := sm.atB hby
 refine K0 (K1 (s_box (vs := [.int .i64 x.Node, .int .i64 x.Token.Kind, .string x.Token.Name, .string x.Token.Data, .string x.Token.System, .int .i64 x.Token.Has, .bool x.Token.Quirks, .int .i32 x.Token.Char, .bool x.Token.Self, .slice x.Token.AttrsP x.Token.Attrs.length x.Token.AttrsC]) hO rfl rfl rfl (by rfl) fun b4 w hO => ?_))
 refine s_box (vs := [.int .i64 y.Node, .int .i64 y.Token.Kind, .string y.Token.Name, .string y.Token.Data, .string y.Token.System, .int .i64 y.Token.Has, .bool y.Token.Quirks, .int .i32 y.Token.Char, .bool y.Token.Self, .slice y.Token.AttrsP y.Token.Attrs.length y.Token.AttrsC]) hO rfl rfl rfl (by rfl) fun b5 w hO => ?_
 refine V2 rfl rfl rfl (K2 (K3 (K0 (da_region (by intro c a d v w h; cases d <;> exact h) ?_))))
 have hO := hO.drew
 refine da_phase _ [12] (SO.ks [.b z, .b r, .b b4, .p p] hO) ?_
 refine dx_u 0 (by kernel_rfl) rfl rfl rfl (fun w => y_move rfl) ?_
 refine dx_u 1 (by kernel_rfl) rfl rfl rfl (fun w => y_nilCheck rfl rfl) ?_
 refine dx_u 2 (by kernel_rfl) rfl rfl rfl (fun w => y_fldb (o' := 0) rfl) ?_
 refine dx_y 3 (by kernel_rfl) rfl rfl rfl (fun w ⟨m, hw⟩ => D5 hw rfl) ?_
 refine dx_u 4 (by kernel_rfl) rfl rfl rfl (fun w => y_nilCheck rfl rfl) ?_
 refine dx_u 5 (by kernel_rfl) rfl rfl rfl (fun w => y_fldb (o' := 0) rfl) ?_
 refine dx_y 6 (by kernel_rfl) rfl rfl rfl (fun w ⟨m, hw⟩ => D5 hw rfl) ?_
 refine dx_u 7 (by kernel_rfl) rfl rfl rfl (fun w => y_fldb (o' := 0) rfl) ?_
 refine dx_y 8 (by kernel_rfl) rfl rfl rfl (fun w ⟨m, hw⟩ => D5 hw rfl) ?_
 refine dx_u 9 (by kernel_rfl) rfl rfl rfl (fun w => y_idx rfl rfl) ?_
 refine dx_y 10 (by kernel_rfl) rfl rfl rfl (fun w ⟨m, hw⟩ => y_eA (x0 := 0) (cs := [.int .i64 (at_ R (x.Node : Int).toNat).Kind, .int .i64 (at_ R (x.Node : Int).toNat).Space, .string (at_ R (x.Node : Int).toNat).Name, .slice (at_ R (x.Node : Int).toNat).AttrsP (at_ R (x.Node : Int).toNat).Attrs.length (at_ R (x.Node : Int).toNat).AttrsC, .string (at_ R (x.Node : Int).toNat).Data, .string (at_ R (x.Node : Int).toNat).System, .int .i64 (at_ R (x.Node : Int).toNat).Inner, .int .i64 (at_ R (x.Node : Int).toNat).Host, .int .i64 (at_ R (x.Node : Int).toNat).Up, .slice (at_ R (x.Node : Int).toNat).KidsP (at_ R (x.Node : Int).toNat).Kids.length (at_ R (x.Node : Int).toNat).KidsC]) hw rfl) ?_
 refine dx_only 11 (by kernel_rfl) rfl rfl ?_
 refine s_alloc (vs := [.int .i64 0, .int .i64 0, .string ⟨#[]⟩, .slice none 0 0, .string ⟨#[]⟩, .string ⟨#[]⟩, .int .i64 0, .int .i64 0, .int .i64 0, .slice none 0 0]) hO rfl rfl rfl fun b7 w hO => ?_
 refine o_done (⟨SO.ks [.b z, .b r, .b b4, .p p] hO, ?_⟩)
 refine dx_close 12 (by kernel_rfl) rfl rfl ?_
 refine Y3 hO rfl rfl (fun w hO => ?_)
 refine o_done (da_end (by kernel_rfl) ?_)
 refine K3 (K0 (da_region (by intro c a d v w h; cases d <;> exact h) ?_))
 have hO := hO.drew
 refine da_phase _ [12] (SO.ks [.b z, .b r, .b b5, .p p] hO) ?_
 refine dx_u 0 (by kernel_rfl) rfl rfl rfl (fun w => y_move rfl) ?_
 refine dx_u 1 (by kernel_rfl) rfl rfl rfl (fun w => y_nilCheck rfl rfl) ?_
 refine dx_u 2 (by kernel_rfl) rfl rfl rfl (fun w => y_fldb (o' := 0) rfl) ?_
 refine dx_y 3 (by kernel_rfl) rfl rfl rfl (fun w ⟨m, hw⟩ => D5 hw rfl) ?_
 refine dx_u 4 (by kernel_rfl) rfl rfl rfl (fun w => y_nilCheck rfl rfl) ?_
 refine dx_u 5 (by kernel_rfl) rfl rfl rfl (fun w => y_fldb (o' := 0) rfl) ?_
 refine dx_y 6 (by kernel_rfl) rfl rfl rfl (fun w ⟨m, hw⟩ => D5 hw rfl) ?_
 refine dx_u 7 (by kernel_rfl) rfl rfl rfl (fun w => y_fldb (o' := 0) rfl) ?_
 refine dx_y 8 (by kernel_rfl) rfl rfl rfl (fun w ⟨m, hw⟩ => D5 hw rfl) ?_
 refine dx_u 9 (by kernel_rfl) rfl rfl rfl (fun w => y_idx rfl rfl) ?_
 refine dx_y 10 (by kernel_rfl) rfl rfl rfl (fun w ⟨m, hw⟩ => y_eA (x0 := 0) (cs := [.int .i64 (at_ R (y.Node : Int).toNat).Kind, .int .i64 (at_ R (y.Node : Int).toNat).Space, .string (at_ R (y.Node : Int).toNat).Name, .slice (at_ R (y.Node : Int).toNat).AttrsP (at_ R (y.Node : Int).toNat).Attrs.length (at_ R (y.Node : Int).toNat).AttrsC, .string (at_ R (y.Node : Int).toNat).Data, .string (at_ R (y.Node : Int).toNat).System, .int .i64 (at_ R (y.Node : Int).toNat).Inner, .int .i64 (at_ R (y.Node : Int).toNat).Host, .int .i64 (at_ R (y.Node : Int).toNat).Up, .slice (at_ R (y.Node : Int).toNat).KidsP (at_ R (y.Node : Int).toNat).Kids.length (at_ R (y.Node : Int).toNat).KidsC]) hw rfl) ?_
 refine dx_only 11 (by kernel_rfl) rfl rfl ?_
 refine s_alloc (vs := [.int .i64 0, .int .i64 0, .string ⟨#[]⟩, .slice none 0 0, .string ⟨#[]⟩, .string ⟨#[]⟩, .int .i64 0, .int .i64 0, .int .i64 0, .slice none 0 0]) hO rfl rfl rfl fun b8 w hO => ?_
 refine o_done (⟨SO.ks [.b z, .b r, .b b5, .p p] hO, ?_⟩)
 refine dx_close 12 (by kernel_rfl) rfl rfl ?_
 refine Y3 hO rfl rfl (fun w hO => ?_)
 refine o_done (da_end (by kernel_rfl) ?_)
 refine K3 (K0 (K1 (l_y rfl rfl (y_fldb (o' := 2) rfl) (l_y rfl rfl (D5 hO rfl) ?_))))
 refine l_y rfl rfl (y_fldb (o' := 2) rfl) (l_y rfl rfl (D5 hO rfl) ?_)
 refine Z2 (fun h3_4 => ?_) (fun h3_4 => ?_)
 ·refine V1 rfl rfl rfl (l_y rfl rfl (y_fldb (o' := 1) rfl) (l_y rfl rfl (D5 hO rfl) ?_))
  refine l_y rfl rfl (y_fldb (o' := 1) rfl) (l_y rfl rfl (D5 hO rfl) ?_)
  refine Z0 (fun h3_10 => ?_) (fun h3_10 => ?_)
  ·refine l_y rfl rfl (y_pick_t rfl rfl) (V1 rfl rfl rfl (l_y rfl rfl (y_fldb (o' := 1) rfl) (l_y rfl rfl (y_fldb (o' := 9) rfl) (l_y rfl rfl (D5 hO rfl) ?_))))
   refine l_y rfl rfl (y_fldb (o' := 1) rfl) (l_y rfl rfl (y_fldb (o' := 9) rfl) (l_y rfl rfl (D5 hO rfl) ?_))
   refine CK [] hO rfl (fun k' hx hr hO' => sets_spec (hxs.ext hO hx) (hys.ext hO hx) hxl hyl (hO := hO')) ?_
   rintro _ _ w ⟨rfl, rfl⟩ hO
   simp only [List.cons_append, List.nil_append] at hO
   refine l_y rfl rfl (y_pick_t rfl rfl) (V2 rfl rfl rfl (K2 (K3 (K6 ?_))))
   have n1 : (nodeA A x.Node).Name = (at_ R x.Node.toNat).Name := by first | exact sx.name | exact sx.name.symm
   have n2 : (nodeA A y.Node).Name = (at_ R y.Node.toNat).Name := by first | exact sy.name | exact sy.name.symm
   have n3 : (nodeA A x.Node).Space = (at_ R x.Node.toNat).Space := by first | exact sx.space | exact sx.space.symm
   have n4 : (nodeA A y.Node).Space = (at_ R y.Node.toNat).Space := by first | exact sy.space | exact sy.space.symm
   refine fin1 rfl rfl ⟨_, ⟨?_, rfl⟩, hO.only [.b r, .p p, .b z]⟩
   rw [kinB, n1, n2, n3, n4]
   first
    | (rw [decide_eq_true h3_4.symm, decide_eq_true h3_10.symm, Bool.true_and, Bool.true_and, Bool.and_comm]; done)
    | (simp [show ¬ (at_ R y.Node.toNat).Space = (at_ R x.Node.toNat).Space from fun h => h3_10 h.symm]; done)
    | (simp [show ¬ (at_ R y.Node.toNat).Name = (at_ R x.Node.toNat).Name from fun h => h3_4 h.symm]; done)
  ·refine l_y rfl rfl (y_pick_t rfl rfl) (V1 rfl rfl rfl ?_)
   repeat refine M2 ?_
   refine l_y rfl rfl (y_pick_f rfl rfl) (V2 rfl rfl rfl (K2 (K3 (K6 ?_))))
   have n1 : (nodeA A x.Node).Name = (at_ R x.Node.toNat).Name := by first | exact sx.name | exact sx.name.symm
   have n2 : (nodeA A y.Node).Name = (at_ R y.Node.toNat).Name := by first | exact sy.name | exact sy.name.symm
   have n3 : (nodeA A x.Node).Space = (at_ R x.Node.toNat).Space := by first | exact sx.space | exact sx.space.symm
   have n4 : (nodeA A y.Node).Space = (at_ R y.Node.toNat).Space := by first | exact sy.space | exact sy.space.symm
   refine fin1 rfl rfl ⟨_, ⟨?_, rfl⟩, hO.only [.b r, .p p, .b z]⟩
   rw [kinB, n1, n2, n3, n4]
   first
    | (rw [decide_eq_true h3_4.symm, decide_eq_true h3_10.symm, Bool.true_and, Bool.true_and, Bool.and_comm]; done)
    | (simp [show ¬ (at_ R y.Node.toNat).Space = (at_ R x.Node.toNat).Space from fun h => h3_10 h.symm]; done)
    | (simp [show ¬ (at_ R y.Node.toNat).Name = (at_ R x.Node.toNat).Name from fun h => h3_4 h.symm]; done)
 ·refine V1 rfl rfl rfl ?_
  repeat refine M2 ?_
  refine l_y rfl rfl (y_pick_f rfl rfl) (V1 rfl rfl rfl ?_)
  repeat refine M2 ?_
  refine l_y rfl rfl (y_pick_f rfl rfl) (V2 rfl rfl rfl (K2 (K3 (K6 ?_))))
  have n1 : (nodeA A x.Node).Name = (at_ R x.Node.toNat).Name := by first | exact sx.name | exact sx.name.symm
  have n2 : (nodeA A y.Node).Name = (at_ R y.Node.toNat).Name := by first | exact sy.name | exact sy.name.symm
  have n3 : (nodeA A x.Node).Space = (at_ R x.Node.toNat).Space := by first | exact sx.space | exact sx.space.symm
  have n4 : (nodeA A y.Node).Space = (at_ R y.Node.toNat).Space := by first | exact sy.space | exact sy.space.symm
  refine fin1 rfl rfl ⟨_, ⟨?_, rfl⟩, hO.only [.b r, .p p, .b z]⟩
  rw [kinB, n1, n2, n3, n4]
  first
   | (rw [decide_eq_true h3_4.symm, decide_eq_true h3_10.symm, Bool.true_and, Bool.true_and, Bool.and_comm]; done)
   | (simp [show ¬ (at_ R y.Node.toNat).Space = (at_ R x.Node.toNat).Space from fun h => h3_10 h.symm]; done)
   | (simp [show ¬ (at_ R y.Node.toNat).Name = (at_ R x.Node.toNat).Name from fun h => h3_4 h.symm]; done)
end
end Go.Proofs.YtoohapbaelmkcaaGreat
end
section
set_option maxRecDepth 100000
namespace Go.Proofs.YtoohapbaelmkcaaGreat
open Go Go.Hb Go.RowKit
theorem Sim.el13 {A : List Node_one} {K : Int → List Int} {R : List Ref01_one} (s : Sim A K R) {id : Int} : elB A id = (hasR R id && decide ((at_ R id.toNat).Kind = 1)) := by
 rw [elB, ← s.has]
 cases h : hasR R id with
 | false => rfl
 | true => rw [(s.atB (by rw [← s.has]; exact h)).kind]
section
variable {k : Ctx} {w : World} {z r c d : Nat} {p q : Option Addr} {L : List Api_entry} {A : List Node_one} {K : Int → List Int} {R : List Ref01_one} {id : Int}
theorem zEl_spec (s : Sim A K R) (hg : Gs p R.length) (hO : Own k w [rB r p R.length c, rS p c R]) :
  Tri Tryz.prog 68 #[.pointer (some ⟨r, 0, none⟩), .int .i64 id] k w fun v m => v = .bool (elB A id) ∧ m = [rB r p R.length c, rS p c R] := by
 refine enter (args := [.pointer (some ⟨r, 0, none⟩), .int .i64 id]) Tryz.func68 rfl rfl (K0 (K1 (V2 rfl rfl rfl (K2 (K3 (K0 (K1 (V1 rfl rfl rfl (V1 rfl rfl rfl (CK [.b r, .p p] hO rfl (fun k' hx hr hO' => Is_spec (hO := hO')) ?_))))))))))
 rintro _ _ w ⟨rfl, rfl⟩ hO
 simp only [List.cons_append, List.nil_append] at hO
 refine V1 rfl rfl rfl ?_
 refine l_split 8 rfl (fun hg8 => ?_) (fun hg8 => ?_)
 ·have hid := hasR_true hg8
  refine V1 rfl rfl rfl (V3 rfl rfl rfl rfl (l_y rfl rfl (y_fldb (o' := 0) rfl) (l_y rfl rfl (D5 hO rfl) ?_)))
  refine V1 rfl rfl rfl (l_y rfl rfl (y_idx rfl rfl) ?_)
  refine l_y rfl rfl (y_fld (j' := 0) rfl) ?_
  refine l_y rfl rfl (y_e1 (x0 := 0) hO rfl) ?_
  refine Z0 (fun h1_12 => ?_) (fun h1_12 => ?_)
  ·refine l_y rfl rfl (y_pick_t rfl rfl) (V2 rfl rfl rfl (K2 (K3 (K6 ?_))))
   exact fin1 rfl rfl ⟨_, ⟨by rw [s.el13]; simp [*], rfl⟩, hO.only [.b r, .p p]⟩
  ·refine l_y rfl rfl (y_pick_t rfl rfl) (V2 rfl rfl rfl (K2 (K3 (K6 ?_))))
   exact fin1 rfl rfl ⟨_, ⟨by rw [s.el13]; simp [*], rfl⟩, hO.only [.b r, .p p]⟩
 ·repeat refine M2 ?_
  refine l_y rfl rfl (y_pick_f rfl rfl) (V2 rfl rfl rfl (K2 (K3 (K6 ?_))))
  exact fin1 rfl rfl ⟨_, ⟨by rw [s.el13]; simp [*], rfl⟩, hO.only [.b r, .p p]⟩
theorem zremove_spec {i : Nat} (hi : i < L.length) (hg : Gs q L.length) (hlc : L.length ≤ d) (hl : L.length ≤ 2000000) (hO : Own k w [zB z r q L.length d, aI q d L]) :
  Tri Tryz.prog 71 #[.pointer (some ⟨z, 0, none⟩), .int .i64 ((i : Nat) : Int)] k w fun v m => v = .tuple #[] ∧ m = [ralL z r (cutE L i)] := by
 refine enter (args := [.pointer (some ⟨z, 0, none⟩), .int .i64 ((i : Nat) : Int)]) Tryz.func71 rfl rfl (K0 (K1 (s_lit0 Api_entry.cells hO (fun b5 w hO => ?_))))
 refine V1 rfl rfl rfl (V3 rfl rfl rfl rfl (l_y rfl rfl (y_fldb (o' := 1) rfl) (l_y rfl rfl (D5 hO rfl) ?_)))
 refine V1 rfl rfl rfl ?_
 have hv0 := sls_sli (p := q) hO
 refine l_y rfl rfl (y_hd i rfl rfl) ?_
 have hv := sli_hd (cuts_holds w) hv0 i d (by omega) (by omega)
 have hti : (L.take i).length = i := by simp; omega
 refine s_app0 (ys := L.take i) hO rfl rfl (src_sli hv) (fun p12 c12 w hO gs12 => ?_)
 refine V2 rfl rfl rfl (K2 (K3 (K1 (V1 rfl rfl rfl (V1 rfl rfl rfl (V1 rfl rfl rfl (V3 rfl rfl rfl rfl (l_y rfl rfl (y_fldb (o' := 1) rfl) (l_y rfl rfl (D5 hO rfl) ?_)))))))))
 refine V1 rfl rfl rfl (l_y rfl rfl (D4) ?_)
 refine l_y rfl rfl (y_tl (i + 1) rfl rfl) ?_
 have hv1 := sls_sli (p := q) hO
 have hv2 := sli_tl (cuts_holds w) hv1 (i + 1) (by omega)
 have htd : (L.drop (i + 1)).length = L.length - (i + 1) := by simp
 refine s_app (xs := L.take i) (ys := L.drop (i + 1)) hO rfl rfl (src_sli hv2) (fun p22 c22 w hO gs22 => ?_) rfl (by omega) (by omega)
 refine V3 rfl rfl rfl rfl (l_y rfl rfl (y_fldb (o' := 1) rfl) (Y1 hO rfl rfl (fun w hO => ?_)))
 simp only [List.set_cons_zero, List.set_cons_succ] at hO
 refine K2 ?_
 exact fin0 rfl ⟨_, ⟨rfl, rfl⟩, (ralL_shut (hO.ks [.b z, .p p22]) rfl).one⟩
set_option maxHeartbeats 4000000 in
theorem zPush_spec {tk : Api_token} (t : Two A K R) (hD : DistN L) (hl : L.length ≤ 2000000) (hb : ∀ e ∈ L, e.Node ≠ -1 → hasB A e.Node = true) (hE : ∀ e ∈ L, EOk k e) (ht : EOk k ⟨id, tk⟩) (hO : Own k w [rarL r R, ralL z r L]) :
    Tri Tryz.prog 33 #[.pointer (some ⟨z, 0, none⟩), .int .i64 id, .agg (Api_token.cells tk).toArray] k w fun v m => v = .int .i64 (freshF A L id) ∧ m = [rarL r R, ralL z r (if freshF A L id = 0 then pushE A L ⟨id, tk⟩ else L)] := by
  refine enter (args := [.pointer (some ⟨z, 0, none⟩), .int .i64 id, .agg (Api_token.cells tk).toArray]) Tryz.func33 rfl rfl ?_
  obtain ⟨p, c, F, hg, hF, hO⟩ := rarL_open hO
  obtain ⟨q, d, hgq, hlq, hO⟩ := ralL_open (hO.ks [.o z])
  refine K0 (K1 (s_box (vs := [.int .i64 tk.Kind, .string tk.Name, .string tk.Data, .string tk.System, .int .i64 tk.Has, .bool tk.Quirks, .int .i32 tk.Char, .bool tk.Self, .slice tk.AttrsP tk.Attrs.length tk.AttrsC]) hO rfl rfl rfl (by rfl) fun b5 w hO => ?_))
  refine V2 rfl rfl rfl (K2 (K3 (K0 (K0 (K1 (V1 rfl rfl rfl (V3 rfl rfl rfl rfl (l_y rfl rfl (y_fldb (o' := 0) rfl) (l_y rfl rfl (D5 hO rfl) ?_)))))))))
  refine V1 rfl rfl rfl (CK [.b r, .p p] hO rfl (fun k' hx hr hO' => zEl_spec t.sim hg (hO := hO')) ?_)
  rintro _ _ w ⟨rfl, rfl⟩ hO
  simp only [List.cons_append, List.nil_append] at hO
  refine l_y rfl rfl (y_not rfl rfl) (K2 (K3 ?_))
  refine c_split rfl (fun hc17 => ?_) (fun hc17 => ?_)
  · simp only [Bool.not_eq_true', Bool.not_eq_false'] at hc17
    refine K0 (K1 (V2 rfl rfl rfl (K2 (K3 (K6 (K9 ?_))))))
    have hel : elB A id = false := by simpa using hc17
    have e : freshF A L id = 6 := by rw [freshF, if_pos hel]
    rw [e, if_neg (by decide)]
    exact fin1 rfl rfl ⟨_, ⟨rfl, rfl⟩, ((rarL_shut hF ((ralL_shut (hO.ks [.b z, .p q])).ks [.b r, .p p, .f])).ks [.o r, .o z]).two⟩
  · simp only [Bool.not_eq_true', Bool.not_eq_false'] at hc17
    refine K5 (K3 (K0 (K0 (K1 (V1 rfl rfl rfl (V1 rfl rfl rfl (CK [.b z, .p q] hO rfl (fun k' hx hr hO' => zFindB_spec hD hgq hl (hO := hO')) ?_)))))))
    rintro _ _ w ⟨rfl, rfl⟩ hO
    simp only [List.cons_append, List.nil_append] at hO
    refine Z0 (fun h3_3 => ?_) (fun h3_3 => ?_)
    · refine K2 (K3 (L8 (K0 (K1 (V2 rfl rfl rfl (K2 (K3 (K6 (K9 ?_)))))))))
      have hel : elB A id = true := by simpa using hc17
      have e : freshF A L id = 1 := by rw [freshF, if_neg (by rw [hel]; simp), if_pos h3_3]
      rw [e, if_neg (by decide)]
      exact fin1 rfl rfl ⟨_, ⟨rfl, rfl⟩, ((rarL_shut hF ((ralL_shut (hO.ks [.b z, .p q])).ks [.b r, .p p, .f])).ks [.o r, .o z]).two⟩
    · refine K2 (K3 (L9 (K5 (K3 (K0 ?_)))))
      have hel : elB A id = true := by simpa using hc17
      have e0 : freshF A L id = 0 := by rw [freshF, if_neg (by rw [hel]; simp), if_neg h3_3]
      have hid := elB_has hel
      refine K1 (V1 rfl rfl rfl (l_y rfl rfl (D8 (cs := [.int .i64 tk.Kind, .string tk.Name, .string tk.Data, .string tk.System, .int .i64 tk.Has, .bool tk.Quirks, .int .i32 tk.Char, .bool tk.Self, .slice tk.AttrsP tk.Attrs.length tk.AttrsC]) hO rfl) ?_))
      refine s_build (parts := [(0, .tmp 22), (1, .tmp 23)]) (cs := [.int .i64 id, .int .i64 tk.Kind, .string tk.Name, .string tk.Data, .string tk.System, .int .i64 tk.Has, .bool tk.Quirks, .int .i32 tk.Char, .bool tk.Self, .slice tk.AttrsP tk.Attrs.length tk.AttrsC]) rfl rfl (fun a ha => partsOf_sound ha _ _ rfl) (by kernel_rfl) (s_alloc (vs := [.int .i64 0, .int .i64 0, .string ⟨#[]⟩, .string ⟨#[]⟩, .string ⟨#[]⟩, .int .i64 0, .bool false, .int .i32 0, .bool false, .slice none 0 0]) hO rfl rfl rfl fun b7 w hO => ?_)
      refine Y3 hO rfl rfl (fun w hO => ?_)
      refine K2 (K3 (K0 (K1 (V2 rfl rfl rfl (K2 (K3 (K0 (K1 (V2 rfl rfl rfl (K2 (K3 (K0 (K0 (K1 (V1 rfl rfl rfl (V3 rfl rfl rfl rfl (l_y rfl rfl (y_fldb (o' := 1) rfl) (l_y rfl rfl (D5 hO rfl) ?_))))))))))))))))))
      refine l_y rfl rfl (y_lenL rfl) (l_y rfl rfl (D4) ?_)
      refine V2 rfl rfl rfl (K2 (K3 (K4 (c_rounds (X := Nat × List Nat × Int) (fun x => [(0, .pointer (some ⟨z, 0, none⟩)), (6, .int .i64 0), (7, .pointer (some ⟨b7, 0, none⟩)), (8, .int .i64 ((pk A L ⟨id, tk⟩ x.2.1).1 : Int)), (9, .int .i64 x.2.2), (10, .int .i64 ((x.1 : Int) - 1))]) (fun x w => Own k w [rB r p R.length c, rS p c R, zB z r q L.length d, aI q d L, blk b7 55 (Api_entry.cells ⟨id, tk⟩), pool F] ∧ (bk L L.length = x.2.1 ++ bk L x.1) ∧ (x.1 ≤ L.length) ∧ (0 < (pk A L ⟨id, tk⟩ x.2.1).1 → x.2.2 = ((pk A L ⟨id, tk⟩ x.2.1).2 : Int))) (fun x => x.1) ((L.length, [], -1)) ⟨rfl, rfl, rfl, rfl, rfl, rfl, trivial⟩ ⟨hO.only [.b r, .p p, .b z, .p q, .b b7, .f], rfl, Nat.le_refl _, (fun h => absurd h (Nat.lt_irrefl 0))⟩ ?_))))
      rintro x w m hm ⟨hO, hx, hle, hf⟩
      refine K0 (K0 (K1 (V1 rfl rfl rfl ?_)))
      refine Z0 (fun h9_1 => ?_) (fun h9_1 => ?_)
      · obtain ⟨y, hy⟩ : ∃ y, x.1 = y + 1 := ⟨x.1 - 1, by omega⟩
        have ey : (x.1 : Int) - 1 = (y : Int) := by omega
        rw [ey]
        refine V1 rfl rfl rfl (V1 rfl rfl rfl (V3 rfl rfl rfl rfl (l_y rfl rfl (y_fldb (o' := 1) rfl) (l_y rfl rfl (D5 hO rfl) ?_))))
        refine V1 rfl rfl rfl (l_y rfl rfl (y_idx rfl rfl) ?_)
        refine l_y rfl rfl (y_fld (j' := 0) rfl) ?_
        refine l_y rfl rfl (y_e1 (x0 := 0) hO rfl) ?_
        refine Z1 (fun h9_11 => ?_) (fun h9_11 => ?_)
        · refine l_y rfl rfl (y_pick_t rfl rfl) (K2 (K3 (L8 (K5 (K3 (K0 (K4 (K0 ?_))))))))
          have hs : bk L x.1 = y :: bk L y := by rw [hy, bk, if_neg (show ¬ (at_ L y).Node = -1 from h9_11)]
          have hEy := hE _ (at_mem (xs := L) (i := y) (by omega))
          have hby := hb _ (at_mem (xs := L) (i := y) (by omega)) h9_11
          refine da_region (by intro c a d v w h; cases d <;> exact h) ?_
          have hO := hO.drew
          refine da_phase _ [9] (SO.ks [.b z, .p q, .b b7] hO) ?_
          refine dx_u 0 (by kernel_rfl) rfl rfl rfl (fun w => y_move rfl) ?_
          refine dx_u 1 (by kernel_rfl) rfl rfl rfl (fun w => y_move rfl) ?_
          refine dx_u 2 (by kernel_rfl) rfl rfl rfl (fun w => y_nilCheck rfl rfl) ?_
          refine dx_u 3 (by kernel_rfl) rfl rfl rfl (fun w => y_fldb (o' := 1) rfl) ?_
          refine dx_y 4 (by kernel_rfl) rfl rfl rfl (fun w ⟨m, hw⟩ => D5 hw rfl) ?_
          refine dx_u 5 (by kernel_rfl) rfl rfl rfl (fun w => y_move rfl) ?_
          refine dx_u 6 (by kernel_rfl) rfl rfl rfl (fun w => y_idx rfl rfl) ?_
          refine dx_y 7 (by kernel_rfl) rfl rfl rfl (fun w ⟨m, hw⟩ => y_eA (x0 := 0) (cs := [.int .i64 (at_ L ((y : Int) : Int).toNat).Node, .int .i64 (at_ L ((y : Int) : Int).toNat).Token.Kind, .string (at_ L ((y : Int) : Int).toNat).Token.Name, .string (at_ L ((y : Int) : Int).toNat).Token.Data, .string (at_ L ((y : Int) : Int).toNat).Token.System, .int .i64 (at_ L ((y : Int) : Int).toNat).Token.Has, .bool (at_ L ((y : Int) : Int).toNat).Token.Quirks, .int .i32 (at_ L ((y : Int) : Int).toNat).Token.Char, .bool (at_ L ((y : Int) : Int).toNat).Token.Self, .slice (at_ L ((y : Int) : Int).toNat).Token.AttrsP (at_ L ((y : Int) : Int).toNat).Token.Attrs.length (at_ L ((y : Int) : Int).toNat).Token.AttrsC]) hw rfl) ?_
          refine dx_y 8 (by kernel_rfl) rfl rfl rfl (fun w ⟨m, hw⟩ => D8 (cs := [.int .i64 id, .int .i64 tk.Kind, .string tk.Name, .string tk.Data, .string tk.System, .int .i64 tk.Has, .bool tk.Quirks, .int .i32 tk.Char, .bool tk.Self, .slice tk.AttrsP tk.Attrs.length tk.AttrsC]) hw rfl) ?_
          refine dx_close 9 (by kernel_rfl) rfl rfl ?_
          refine CK [.b r, .p p, .b z] hO rfl (fun k' hx hr hO' => alike_spec (x := at_ L y) (y := ⟨id, tk⟩) t.sim hg hby hid ⟨hEy.1.ext hO hx, hEy.2⟩ ⟨ht.1.ext hO hx, ht.2⟩ (hO := hO')) ?_
          rintro _ _ w ⟨rfl, rfl⟩ hO
          simp only [List.cons_append, List.nil_append] at hO
          refine o_done (da_end (by kernel_rfl) ?_)
          refine K3 ?_
          refine c_split rfl (fun hc55 => ?_) (fun hc55 => ?_)
          · refine K0 ?_
            have hpl2 : (pk A L ⟨id, tk⟩ x.2.1).1 ≤ 2000000 := by
              have h1 := pk_le (A := A) (L := L) (e := ⟨id, tk⟩) (xs := x.2.1)
              have h2 := bk_len (L := L) (n := L.length)
              rw [hx, List.length_append] at h2
              omega
            refine K1 (V1 rfl rfl rfl (l_y rfl rfl (v := .int .i64 ((pk A L ⟨id, tk⟩ (x.2.1 ++ [y])).1 : Int)) (by rw [pk_snoc, if_pos hc55]; exact D4) ?_))
            refine V2 rfl rfl rfl (K2 (K3 (K1 (V1 rfl rfl rfl (V2 rfl rfl rfl (K2 (K8 (K3 (K1 (V1 rfl rfl rfl (l_y rfl rfl (D4) ?_)))))))))))
            refine V2 rfl rfl rfl (K2 ?_)
            first
              | exact q_next (y, x.2.1 ++ [y], (y : Int)) (by (repeat (first | exact trivial | refine ⟨rfl, ?_⟩))) ⟨hO.only [.b r, .p p, .b z, .p q, .b b7, .f], by dsimp only; rw [hx, hs]; simp, by dsimp only; omega, fun _ => by dsimp only; rw [pk_snoc, if_pos hc55]⟩ (by dsimp only; omega)
              | (have hpkF : pk A L ⟨id, tk⟩ x.2.1 = pk A L ⟨id, tk⟩ (x.2.1 ++ [y]) := by rw [pk_snoc, if_neg (by rw [hc55]; simp)]
                 rw [hpkF] at hf ⊢
                 exact q_next (y, x.2.1 ++ [y], x.2.2) (by (repeat (first | exact trivial | refine ⟨rfl, ?_⟩))) ⟨hO.only [.b r, .p p, .b z, .p q, .b b7, .f], by dsimp only; rw [hx, hs]; simp, by dsimp only; omega, hf⟩ (by dsimp only; omega))
          · refine K5 (K8 (K3 (K1 (V1 rfl rfl rfl (l_y rfl rfl (D4) ?_)))))
            refine V2 rfl rfl rfl (K2 ?_)
            first
              | exact q_next (y, x.2.1 ++ [y], (y : Int)) (by (repeat (first | exact trivial | refine ⟨rfl, ?_⟩))) ⟨hO.only [.b r, .p p, .b z, .p q, .b b7, .f], by dsimp only; rw [hx, hs]; simp, by dsimp only; omega, fun _ => by dsimp only; rw [pk_snoc, if_pos hc55]⟩ (by dsimp only; omega)
              | (have hpkF : pk A L ⟨id, tk⟩ x.2.1 = pk A L ⟨id, tk⟩ (x.2.1 ++ [y]) := by rw [pk_snoc, if_neg (by rw [hc55]; simp)]
                 rw [hpkF] at hf ⊢
                 exact q_next (y, x.2.1 ++ [y], x.2.2) (by (repeat (first | exact trivial | refine ⟨rfl, ?_⟩))) ⟨hO.only [.b r, .p p, .b z, .p q, .b b7, .f], by dsimp only; rw [hx, hs]; simp, by dsimp only; omega, hf⟩ (by dsimp only; omega))
        · refine l_y rfl rfl (y_pick_t rfl rfl) (K2 (K3 (L9 (K7 (L1 (L1 (L2 (K3 ?_))))))))
          refine c_cut (X := Option Addr × Nat × List Api_entry) (fun y9 => [(0, .pointer (some ⟨z, 0, none⟩)), (6, .int .i64 0), (7, .pointer (some ⟨b7, 0, none⟩))]) (fun y9 w => Own k w [rB r p R.length c, rS p c R, zB z r y9.1 y9.2.2.length y9.2.1, aI y9.1 y9.2.1 y9.2.2, blk b7 55 (Api_entry.cells ⟨id, tk⟩), pool F] ∧ (pushE A L ⟨id, tk⟩ = y9.2.2 ++ [⟨id, tk⟩]) ∧ (y9.2.2.length ≤ 2000000)) ?_ ?_
          · refine K0 ?_
            have he : bk L x.1 = [] := by
              first
                | rw [hy, bk, if_pos (show (at_ L y).Node = -1 from h9_11)]
                | rw [show x.1 = 0 by omega, bk]
            rw [he, List.append_nil] at hx
            have hpl : (pk A L ⟨id, tk⟩ (bk L L.length)).1 ≤ L.length := Nat.le_trans pk_le bk_len
            rw [← hx] at hf ⊢
            refine K1 (V1 rfl rfl rfl ?_)
            refine Z0 (fun h14_1 => ?_) (fun h14_1 => ?_)
            · refine K2 (K3 (L8 (K1 (V1 rfl rfl rfl (V1 rfl rfl rfl ?_)))))
              have hlt : (pk A L ⟨id, tk⟩ (bk L L.length)).2 < L.length := bk_lt (pk_mem (by omega))
              refine CK [.b z, .p q] hO (by rw [hf (by omega)]; rfl) (fun k' hx hr hO' => zremove_spec hlt hgq hlq hl (hO := hO')) ?_
              rintro _ _ w ⟨rfl, rfl⟩ hO
              simp only [List.cons_append, List.nil_append] at hO
              obtain ⟨q2, d2, L2, hO, hpu, hl2⟩ : ∃ (q2 : Option Addr) (d2 : Nat) (L2 : List Api_entry), Own k w [rB r p R.length c, rS p c R, zB z r q2 L2.length d2, aI q2 d2 L2, blk b7 55 (Api_entry.cells ⟨id, tk⟩), pool F] ∧ pushE A L ⟨id, tk⟩ = L2 ++ [⟨id, tk⟩] ∧ L2.length ≤ 2000000 := by
                obtain ⟨q2, d2, hg2, hlc2, hO⟩ := ralL_open (hO.ks [.o z])
                exact ⟨q2, d2, _, hO.only [.b r, .p p, .b z, .p q2, .b b7, .f], by rw [pushE, if_pos (by omega)], by simp [cutE]; omega⟩
              refine K2 ?_
              exact q_cut ((q2, d2, L2)) ⟨rfl, rfl, rfl, trivial⟩ ⟨hO.only [.b r, .p p, .b z, .p q2, .b b7, .f], hpu, hl2⟩
            · obtain ⟨q2, d2, L2, hO, hpu, hl2⟩ : ∃ (q2 : Option Addr) (d2 : Nat) (L2 : List Api_entry), Own k w [rB r p R.length c, rS p c R, zB z r q2 L2.length d2, aI q2 d2 L2, blk b7 55 (Api_entry.cells ⟨id, tk⟩), pool F] ∧ pushE A L ⟨id, tk⟩ = L2 ++ [⟨id, tk⟩] ∧ L2.length ≤ 2000000 := ⟨q, d, L, hO.only [.b r, .p p, .b z, .p q, .b b7, .f], by rw [pushE, if_neg (by omega)], hl⟩
              refine K2 (K3 (L9 (K5 ?_)))
              exact q_cut ((q2, d2, L2)) ⟨rfl, rfl, rfl, trivial⟩ ⟨hO.only [.b r, .p p, .b z, .p q2, .b b7, .f], hpu, hl2⟩
          · rintro y9 w ⟨hO, hz, hzl⟩
            refine K0 (da_region (by intro c a d v w h; cases d <;> exact h) ?_)
            have hO := hO.drew
            refine da_phase _ [7] (SO.ks [.b z, .b b7] hO) ?_
            refine dx_u 0 (by kernel_rfl) rfl rfl rfl (fun w => y_move rfl) ?_
            refine dx_u 1 (by kernel_rfl) rfl rfl rfl (fun w => y_move rfl) ?_
            refine dx_u 2 (by kernel_rfl) rfl rfl rfl (fun w => y_nilCheck rfl rfl) ?_
            refine dx_u 3 (by kernel_rfl) rfl rfl rfl (fun w => y_fldb (o' := 1) rfl) ?_
            refine dx_y 4 (by kernel_rfl) rfl rfl rfl (fun w ⟨m, hw⟩ => D5 hw rfl) ?_
            refine dx_y 5 (by kernel_rfl) rfl rfl rfl (fun w ⟨m, hw⟩ => D8 (cs := [.int .i64 id, .int .i64 tk.Kind, .string tk.Name, .string tk.Data, .string tk.System, .int .i64 tk.Has, .bool tk.Quirks, .int .i32 tk.Char, .bool tk.Self, .slice tk.AttrsP tk.Attrs.length tk.AttrsC]) hw rfl) ?_
            refine dx_only 6 (by kernel_rfl) rfl rfl ?_
            refine s_lit (parts := [(0, .tmp 69)]) (enc := Api_entry.cells) [⟨id, ⟨tk.Kind, tk.Name, tk.Data, tk.System, tk.Has, tk.Quirks, tk.Char, tk.Self, tk.AttrsP, tk.Attrs, tk.AttrsC⟩⟩] [.agg [.int .i64 id, .int .i64 tk.Kind, .string tk.Name, .string tk.Data, .string tk.System, .int .i64 tk.Has, .bool tk.Quirks, .int .i32 tk.Char, .bool tk.Self, .slice tk.AttrsP tk.Attrs.length tk.AttrsC].toArray] hO rfl (fun b70 w hO => ?_)
            refine o_done (⟨SO.ks [.b z, .b b7] hO, ?_⟩)
            refine dx_close 7 (by kernel_rfl) rfl rfl ?_
            refine s_app hO rfl rfl (src_own hO) (fun p71 c71 w hO gs71 => ?_)
            refine o_done (da_phase _ [10] (SO.ks [] hO) ?_)
            refine dx_u 8 (by kernel_rfl) rfl rfl rfl (fun w => y_nilCheck rfl rfl) ?_
            refine dx_u 9 (by kernel_rfl) rfl rfl rfl (fun w => y_fldb (o' := 1) rfl) ?_
            refine dx_close 10 (by kernel_rfl) rfl rfl ?_
            refine Y1 hO rfl rfl (fun w hO => ?_)
            simp only [List.set_cons_zero, List.set_cons_succ] at hO
            refine o_done (da_end (by kernel_rfl) ?_)
            refine K3 (K0 (K1 (V2 rfl rfl rfl (K2 (K3 (K6 ?_))))))
            rw [e0, if_pos rfl, hz]
            exact fin1 rfl rfl ⟨_, ⟨rfl, rfl⟩, ((rarL_shut hF ((ralL_shut (hO.ks [.b z, .p p71]) rfl).ks [.b r, .p p, .f])).ks [.o r, .o z]).two⟩
      · refine V1 rfl rfl rfl ?_
        repeat refine M2 ?_
        refine l_y rfl rfl (y_pick_f rfl rfl) (K2 (K3 (L9 (K7 (L1 (L1 (L2 (K3 ?_))))))))
        refine c_cut (X := Option Addr × Nat × List Api_entry) (fun y9 => [(0, .pointer (some ⟨z, 0, none⟩)), (6, .int .i64 0), (7, .pointer (some ⟨b7, 0, none⟩))]) (fun y9 w => Own k w [rB r p R.length c, rS p c R, zB z r y9.1 y9.2.2.length y9.2.1, aI y9.1 y9.2.1 y9.2.2, blk b7 55 (Api_entry.cells ⟨id, tk⟩), pool F] ∧ (pushE A L ⟨id, tk⟩ = y9.2.2 ++ [⟨id, tk⟩]) ∧ (y9.2.2.length ≤ 2000000)) ?_ ?_
        · refine K0 ?_
          have he : bk L x.1 = [] := by
            first
              | rw [hy, bk, if_pos (show (at_ L y).Node = -1 from h9_11)]
              | rw [show x.1 = 0 by omega, bk]
          rw [he, List.append_nil] at hx
          have hpl : (pk A L ⟨id, tk⟩ (bk L L.length)).1 ≤ L.length := Nat.le_trans pk_le bk_len
          rw [← hx] at hf ⊢
          refine K1 (V1 rfl rfl rfl ?_)
          refine Z0 (fun h14_1 => ?_) (fun h14_1 => ?_)
          · refine K2 (K3 (L8 (K1 (V1 rfl rfl rfl (V1 rfl rfl rfl ?_)))))
            have hlt : (pk A L ⟨id, tk⟩ (bk L L.length)).2 < L.length := bk_lt (pk_mem (by omega))
            refine CK [.b z, .p q] hO (by rw [hf (by omega)]; rfl) (fun k' hx hr hO' => zremove_spec hlt hgq hlq hl (hO := hO')) ?_
            rintro _ _ w ⟨rfl, rfl⟩ hO
            simp only [List.cons_append, List.nil_append] at hO
            obtain ⟨q2, d2, L2, hO, hpu, hl2⟩ : ∃ (q2 : Option Addr) (d2 : Nat) (L2 : List Api_entry), Own k w [rB r p R.length c, rS p c R, zB z r q2 L2.length d2, aI q2 d2 L2, blk b7 55 (Api_entry.cells ⟨id, tk⟩), pool F] ∧ pushE A L ⟨id, tk⟩ = L2 ++ [⟨id, tk⟩] ∧ L2.length ≤ 2000000 := by
              obtain ⟨q2, d2, hg2, hlc2, hO⟩ := ralL_open (hO.ks [.o z])
              exact ⟨q2, d2, _, hO.only [.b r, .p p, .b z, .p q2, .b b7, .f], by rw [pushE, if_pos (by omega)], by simp [cutE]; omega⟩
            refine K2 ?_
            exact q_cut ((q2, d2, L2)) ⟨rfl, rfl, rfl, trivial⟩ ⟨hO.only [.b r, .p p, .b z, .p q2, .b b7, .f], hpu, hl2⟩
          · obtain ⟨q2, d2, L2, hO, hpu, hl2⟩ : ∃ (q2 : Option Addr) (d2 : Nat) (L2 : List Api_entry), Own k w [rB r p R.length c, rS p c R, zB z r q2 L2.length d2, aI q2 d2 L2, blk b7 55 (Api_entry.cells ⟨id, tk⟩), pool F] ∧ pushE A L ⟨id, tk⟩ = L2 ++ [⟨id, tk⟩] ∧ L2.length ≤ 2000000 := ⟨q, d, L, hO.only [.b r, .p p, .b z, .p q, .b b7, .f], by rw [pushE, if_neg (by omega)], hl⟩
            refine K2 (K3 (L9 (K5 ?_)))
            exact q_cut ((q2, d2, L2)) ⟨rfl, rfl, rfl, trivial⟩ ⟨hO.only [.b r, .p p, .b z, .p q2, .b b7, .f], hpu, hl2⟩
        · rintro y9 w ⟨hO, hz, hzl⟩
          refine K0 (da_region (by intro c a d v w h; cases d <;> exact h) ?_)
          have hO := hO.drew
          refine da_phase _ [7] (SO.ks [.b z, .b b7] hO) ?_
          refine dx_u 0 (by kernel_rfl) rfl rfl rfl (fun w => y_move rfl) ?_
          refine dx_u 1 (by kernel_rfl) rfl rfl rfl (fun w => y_move rfl) ?_
          refine dx_u 2 (by kernel_rfl) rfl rfl rfl (fun w => y_nilCheck rfl rfl) ?_
          refine dx_u 3 (by kernel_rfl) rfl rfl rfl (fun w => y_fldb (o' := 1) rfl) ?_
          refine dx_y 4 (by kernel_rfl) rfl rfl rfl (fun w ⟨m, hw⟩ => D5 hw rfl) ?_
          refine dx_y 5 (by kernel_rfl) rfl rfl rfl (fun w ⟨m, hw⟩ => D8 (cs := [.int .i64 id, .int .i64 tk.Kind, .string tk.Name, .string tk.Data, .string tk.System, .int .i64 tk.Has, .bool tk.Quirks, .int .i32 tk.Char, .bool tk.Self, .slice tk.AttrsP tk.Attrs.length tk.AttrsC]) hw rfl) ?_
          refine dx_only 6 (by kernel_rfl) rfl rfl ?_
          refine s_lit (parts := [(0, .tmp 69)]) (enc := Api_entry.cells) [⟨id, ⟨tk.Kind, tk.Name, tk.Data, tk.System, tk.Has, tk.Quirks, tk.Char, tk.Self, tk.AttrsP, tk.Attrs, tk.AttrsC⟩⟩] [.agg [.int .i64 id, .int .i64 tk.Kind, .string tk.Name, .string tk.Data, .string tk.System, .int .i64 tk.Has, .bool tk.Quirks, .int .i32 tk.Char, .bool tk.Self, .slice tk.AttrsP tk.Attrs.length tk.AttrsC].toArray] hO rfl (fun b70 w hO => ?_)
          refine o_done (⟨SO.ks [.b z, .b b7] hO, ?_⟩)
          refine dx_close 7 (by kernel_rfl) rfl rfl ?_
          refine s_app hO rfl rfl (src_own hO) (fun p71 c71 w hO gs71 => ?_)
          refine o_done (da_phase _ [10] (SO.ks [] hO) ?_)
          refine dx_u 8 (by kernel_rfl) rfl rfl rfl (fun w => y_nilCheck rfl rfl) ?_
          refine dx_u 9 (by kernel_rfl) rfl rfl rfl (fun w => y_fldb (o' := 1) rfl) ?_
          refine dx_close 10 (by kernel_rfl) rfl rfl ?_
          refine Y1 hO rfl rfl (fun w hO => ?_)
          simp only [List.set_cons_zero, List.set_cons_succ] at hO
          refine o_done (da_end (by kernel_rfl) ?_)
          refine K3 (K0 (K1 (V2 rfl rfl rfl (K2 (K3 (K6 ?_))))))
          rw [e0, if_pos rfl, hz]
          exact fin1 rfl rfl ⟨_, ⟨rfl, rfl⟩, ((rarL_shut hF ((ralL_shut (hO.ks [.b z, .p p71]) rfl).ks [.b r, .p p, .f])).ks [.o r, .o z]).two⟩
end
end Go.Proofs.YtoohapbaelmkcaaGreat
end
