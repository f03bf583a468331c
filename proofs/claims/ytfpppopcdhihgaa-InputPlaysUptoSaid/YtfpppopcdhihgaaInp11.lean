/- The walks of the document's stream: Peek, Next, Write. -/
import Derived.Test.YtfpppopcdhihgaaInp10
set_option linter.unusedVariables false
set_option linter.unusedSimpArgs false
namespace Go.Proofs.Ytfpppopcdhihgaa
open Go Go.Hb Go.RowKit
theorem rPeek_spec (k : Ctx) (w : World) (s : Nat) (σ : St) (hf : σ.Fine) (hO : Own k w [rst s σ]) :
    Tri Try.prog 37 #[.pointer (some ⟨s, 0, none⟩)] k w fun r m => r = .tuple #[.int .i32 (peekS σ).1, .bool (peekS σ).2] ∧ m = [rst s σ] := by
  refine enter (args := [.pointer (some ⟨s, 0, none⟩)]) Try.func37 rfl rfl ?_
  obtain ⟨pl, cl, pm, cm, hO⟩ := rst_open hO
  obtain ⟨hL, hM⟩ := hf
  obtain ⟨L, M, cr, o, g⟩ := σ
  dsimp only at hO hL hM
  unfold peekS
  dsimp only
  have h0 : ([] : List Int).length = 0 := rfl
  rcases last_cases M with rfl | ⟨Ms, z, rfl⟩
  · repeat (first | (with_reducible first | refine K0 ?_ | refine K1 ?_ | refine K2 ?_ | refine K3 ?_ | refine K4 ?_ | refine K5 ?_ | refine K6 ?_ | refine K7 ?_ | refine K8 ?_ | refine K9 ?_ | refine L0 ?_ | refine L1 ?_ | refine L2 ?_ | refine L3 ?_ | refine L4 ?_ | refine L5 ?_ | refine L6 ?_) | refine Y0 hO rfl ?_ | refine Y1 hO rfl rfl (fun w hO => ?_) | refine Y2 hO rfl ?_ | refine Y3 hO rfl rfl (fun w hO => ?_) | refine l_y rfl rfl (y_index rfl rfl (by omega) (by omega)) ?_ | refine l_y rfl rfl (y_indexA rfl rfl (by omega) (by omega)) ?_ | refine L7 ?_ | refine L8 ?_ | refine L9 ?_ | refine M0 ?_ | refine M1 ?_ | refine M2 ?_ | refine M3 ?_ | refine M4 ?_ | refine M5 ?_ | refine M6 ?_ | refine M7 ?_ | refine M8 ?_ | refine M9 ?_ | refine N0 ?_ | refine N1 ?_ | refine N2 ?_ | refine N3 ?_ | refine N4 ?_ | refine N5 ?_ | refine N6 ?_ | refine N7 ?_ | refine N8 ?_ | refine N9 ?_ | refine R0 ?_ | refine R1 ?_ | refine R2 ?_ | refine R3 ?_ | refine R4 ?_ | refine R5 ?_ | refine R6 ?_ | refine R7 ?_ | refine R8 ?_ | refine R9 ?_ | refine S0 ?_)
    refine dl_start (SO k [rblk s (.slice pl L.length cl) (.slice pm ([] : List Int).length cm) cr o g]) (by intro c a d v w h; cases d <;> exact h) (SO.of hO.drew (.cons (.hd _ _) (.nil _))) ?_
    repeat (first | refine dl_y (by kernel_rfl) rfl rfl (fun w ⟨m, hw⟩ => by first | exact y_move rfl | exact y_assign rfl | exact y_nilCheck rfl rfl | exact y_fieldAddr_row rfl | exact y_fieldAddr rfl | exact y_lenL rfl | exact y_lenS rfl | exact y_extract rfl rfl | exact y_pick_t rfl rfl | exact y_pick_f rfl rfl | exact D5 hw rfl | exact D4 | exact D0 | exact D1 | exact D2 | exact D3 | exact D6 | exact D7 | exact y_index rfl rfl (by omega) (by omega) | exact y_indexA rfl rfl (by omega) (by omega) | exact D8 hw rfl | exact y_not rfl rfl | exact y_eqPnil rfl rfl rfl | exact y_nePnil rfl rfl rfl | exact y_convS rfl | exact y_eqB rfl rfl rfl | exact y_neB rfl rfl rfl) ?_ | refine dl_pass (by kernel_rfl) rfl rfl ?_)
    refine dl_end (by kernel_rfl) ?_
    have hO := hO.drew
    rw [if_neg (by simp)]
    cases L with
    | nil =>
      cases o
      · repeat (first | (with_reducible first | refine K0 ?_ | refine K1 ?_ | refine K2 ?_ | refine K3 ?_ | refine K4 ?_ | refine K5 ?_ | refine K6 ?_ | refine K7 ?_ | refine K8 ?_ | refine K9 ?_ | refine L0 ?_ | refine L1 ?_ | refine L2 ?_ | refine L3 ?_ | refine L4 ?_ | refine L5 ?_ | refine L6 ?_) | refine Y0 hO rfl ?_ | refine Y1 hO rfl rfl (fun w hO => ?_) | refine Y2 hO rfl ?_ | refine Y3 hO rfl rfl (fun w hO => ?_) | refine l_y rfl rfl (y_index rfl rfl (by omega) (by omega)) ?_ | refine l_y rfl rfl (y_indexA rfl rfl (by omega) (by omega)) ?_ | refine L7 ?_ | refine L8 ?_ | refine L9 ?_ | refine M0 ?_ | refine M1 ?_ | refine M2 ?_ | refine M3 ?_ | refine M4 ?_ | refine M5 ?_ | refine M6 ?_ | refine M7 ?_ | refine M8 ?_ | refine M9 ?_ | refine N0 ?_ | refine N1 ?_ | refine N2 ?_ | refine N3 ?_ | refine N4 ?_ | refine N5 ?_ | refine N6 ?_ | refine N7 ?_ | refine N8 ?_ | refine N9 ?_ | refine R0 ?_ | refine R1 ?_ | refine R2 ?_ | refine R3 ?_ | refine R4 ?_ | refine R5 ?_ | refine R6 ?_ | refine R7 ?_ | refine R8 ?_ | refine R9 ?_ | refine S0 ?_)
        exact fin2 rfl rfl rfl ⟨_, ⟨rfl, rfl⟩, rst_shut (L := []) (M := []) hO rfl⟩
      · repeat (first | (with_reducible first | refine K0 ?_ | refine K1 ?_ | refine K2 ?_ | refine K3 ?_ | refine K4 ?_ | refine K5 ?_ | refine K6 ?_ | refine K7 ?_ | refine K8 ?_ | refine K9 ?_ | refine L0 ?_ | refine L1 ?_ | refine L2 ?_ | refine L3 ?_ | refine L4 ?_ | refine L5 ?_ | refine L6 ?_) | refine Y0 hO rfl ?_ | refine Y1 hO rfl rfl (fun w hO => ?_) | refine Y2 hO rfl ?_ | refine Y3 hO rfl rfl (fun w hO => ?_) | refine l_y rfl rfl (y_index rfl rfl (by omega) (by omega)) ?_ | refine l_y rfl rfl (y_indexA rfl rfl (by omega) (by omega)) ?_ | refine L7 ?_ | refine L8 ?_ | refine L9 ?_ | refine M0 ?_ | refine M1 ?_ | refine M2 ?_ | refine M3 ?_ | refine M4 ?_ | refine M5 ?_ | refine M6 ?_ | refine M7 ?_ | refine M8 ?_ | refine M9 ?_ | refine N0 ?_ | refine N1 ?_ | refine N2 ?_ | refine N3 ?_ | refine N4 ?_ | refine N5 ?_ | refine N6 ?_ | refine N7 ?_ | refine N8 ?_ | refine N9 ?_ | refine R0 ?_ | refine R1 ?_ | refine R2 ?_ | refine R3 ?_ | refine R4 ?_ | refine R5 ?_ | refine R6 ?_ | refine R7 ?_ | refine R8 ?_ | refine R9 ?_ | refine S0 ?_)
        exact fin2 rfl rfl rfl ⟨_, ⟨rfl, rfl⟩, rst_shut (L := []) (M := []) hO rfl⟩
    | cons r L =>
      have hlen : (r :: L).length = L.length + 1 := by simp
      obtain ⟨b, q, hp, hH⟩ := (sl_sli hO (.tl _ (.hd _ _))).get (cuts_holds _) (iv_one _ _) (iv_get (i := 0) rfl)
      subst hp
      repeat (first | (with_reducible first | refine K0 ?_ | refine K1 ?_ | refine K2 ?_ | refine K3 ?_ | refine K4 ?_ | refine K5 ?_ | refine K6 ?_ | refine K7 ?_ | refine K8 ?_ | refine K9 ?_ | refine L0 ?_ | refine L1 ?_ | refine L2 ?_ | refine L3 ?_ | refine L4 ?_ | refine L5 ?_ | refine L6 ?_) | refine Y0 hO rfl ?_ | refine Y1 hO rfl rfl (fun w hO => ?_) | refine Y2 hO rfl ?_ | refine Y3 hO rfl rfl (fun w hO => ?_) | refine l_y rfl rfl (y_index rfl rfl (by omega) (by omega)) ?_ | refine l_y rfl rfl (y_indexA rfl rfl (by omega) (by omega)) ?_ | refine L7 ?_ | refine L8 ?_ | refine L9 ?_ | refine M0 ?_ | refine M1 ?_ | refine M2 ?_ | refine M3 ?_ | refine M4 ?_ | refine M5 ?_ | refine M6 ?_ | refine M7 ?_ | refine M8 ?_ | refine M9 ?_ | refine N0 ?_ | refine N1 ?_ | refine N2 ?_ | refine N3 ?_ | refine N4 ?_ | refine N5 ?_ | refine N6 ?_ | refine N7 ?_ | refine N8 ?_ | refine N9 ?_ | refine R0 ?_ | refine R1 ?_ | refine R2 ?_ | refine R3 ?_ | refine R4 ?_ | refine R5 ?_ | refine R6 ?_ | refine R7 ?_ | refine R8 ?_ | refine R9 ?_ | refine S0 ?_)
      refine l_y rfl rfl (y_load1 rfl hH) ?_
      repeat (first | (with_reducible first | refine K0 ?_ | refine K1 ?_ | refine K2 ?_ | refine K3 ?_ | refine K4 ?_ | refine K5 ?_ | refine K6 ?_ | refine K7 ?_ | refine K8 ?_ | refine K9 ?_ | refine L0 ?_ | refine L1 ?_ | refine L2 ?_ | refine L3 ?_ | refine L4 ?_ | refine L5 ?_ | refine L6 ?_) | refine Y0 hO rfl ?_ | refine Y1 hO rfl rfl (fun w hO => ?_) | refine Y2 hO rfl ?_ | refine Y3 hO rfl rfl (fun w hO => ?_) | refine l_y rfl rfl (y_index rfl rfl (by omega) (by omega)) ?_ | refine l_y rfl rfl (y_indexA rfl rfl (by omega) (by omega)) ?_ | refine L7 ?_ | refine L8 ?_ | refine L9 ?_ | refine M0 ?_ | refine M1 ?_ | refine M2 ?_ | refine M3 ?_ | refine M4 ?_ | refine M5 ?_ | refine M6 ?_ | refine M7 ?_ | refine M8 ?_ | refine M9 ?_ | refine N0 ?_ | refine N1 ?_ | refine N2 ?_ | refine N3 ?_ | refine N4 ?_ | refine N5 ?_ | refine N6 ?_ | refine N7 ?_ | refine N8 ?_ | refine N9 ?_ | refine R0 ?_ | refine R1 ?_ | refine R2 ?_ | refine R3 ?_ | refine R4 ?_ | refine R5 ?_ | refine R6 ?_ | refine R7 ?_ | refine R8 ?_ | refine R9 ?_ | refine S0 ?_)
      exact fin2 rfl rfl rfl ⟨_, ⟨rfl, rfl⟩, rst_shut (M := []) hO rfl⟩
  · have hlen : (Ms ++ [z]).length = Ms.length + 1 := by simp
    obtain ⟨mb, mo, hp, _⟩ := (sl_sli hO (.tl _ (.tl _ (.hd _ _)))).get (cuts_holds _) (iv_one _ _) (iv_get (i := Ms.length) (x := z) (by simp))
    subst hp
    have e : (((Ms ++ [z]).length : Int) - 1).toNat = Ms.length := by omega
    repeat (first | (with_reducible first | refine K0 ?_ | refine K1 ?_ | refine K2 ?_ | refine K3 ?_ | refine K4 ?_ | refine K5 ?_ | refine K6 ?_ | refine K7 ?_ | refine K8 ?_ | refine K9 ?_ | refine L0 ?_ | refine L1 ?_ | refine L2 ?_ | refine L3 ?_ | refine L4 ?_ | refine L5 ?_ | refine L6 ?_) | refine Y0 hO rfl ?_ | refine Y1 hO rfl rfl (fun w hO => ?_) | refine Y2 hO rfl ?_ | refine Y3 hO rfl rfl (fun w hO => ?_) | refine l_y rfl rfl (y_index rfl rfl (by omega) (by omega)) ?_ | refine l_y rfl rfl (y_indexA rfl rfl (by omega) (by omega)) ?_ | refine L7 ?_ | refine L8 ?_ | refine L9 ?_ | refine M0 ?_ | refine M1 ?_ | refine M2 ?_ | refine M3 ?_ | refine M4 ?_ | refine M5 ?_ | refine M6 ?_ | refine M7 ?_ | refine M8 ?_ | refine M9 ?_ | refine N0 ?_ | refine N1 ?_ | refine N2 ?_ | refine N3 ?_ | refine N4 ?_ | refine N5 ?_ | refine N6 ?_ | refine N7 ?_ | refine N8 ?_ | refine N9 ?_ | refine R0 ?_ | refine R1 ?_ | refine R2 ?_ | refine R3 ?_ | refine R4 ?_ | refine R5 ?_ | refine R6 ?_ | refine R7 ?_ | refine R8 ?_ | refine R9 ?_ | refine S0 ?_)
    refine dl_start (SO k [rblk s (.slice pl L.length cl) (.slice (some ⟨mb, mo, none⟩) (Ms ++ [z]).length cm) cr o g, isl (.slice (some ⟨mb, mo, none⟩) (Ms ++ [z]).length cm) (Ms ++ [z])]) (by intro c a d v w h; cases d <;> exact h) (SO.of hO.drew (.cons (.hd _ _) (.cons (.tl _ (.hd _ _)) (.nil _)))) ?_
    repeat (first | refine dl_y (by kernel_rfl) rfl rfl (fun w ⟨m, hw⟩ => by first | exact y_move rfl | exact y_assign rfl | exact y_nilCheck rfl rfl | exact y_fieldAddr_row rfl | exact y_fieldAddr rfl | exact y_lenL rfl | exact y_lenS rfl | exact y_extract rfl rfl | exact y_pick_t rfl rfl | exact y_pick_f rfl rfl | exact D5 hw rfl | exact D4 | exact D0 | exact D1 | exact D2 | exact D3 | exact D6 | exact D7 | exact y_index rfl rfl (by omega) (by omega) | exact y_indexA rfl rfl (by omega) (by omega) | exact D8 hw rfl | exact y_not rfl rfl | exact y_eqPnil rfl rfl rfl | exact y_nePnil rfl rfl rfl | exact y_convS rfl | exact y_eqB rfl rfl rfl | exact y_neB rfl rfl rfl) ?_ | refine dl_pass (by kernel_rfl) rfl rfl ?_)
    refine dl_y (by kernel_rfl) rfl rfl (fun w ⟨m, hw⟩ => y_load1 (v := .int .i64 z) rfl (by
      obtain ⟨b, q, hp, hH⟩ := (sl_sli hw (.tl _ (.hd _ _))).get (cuts_holds _) (iv_one _ _) (iv_get (i := Ms.length) (x := z) (by simp))
      cases hp
      rw [e]; exact hH)) ?_
    have hO := hO.drew
    have hlast : (Ms ++ [z]).getLast? = some z := by simp
    rw [hlast]
    by_cases hz : z = 0
    · subst hz
      rw [if_pos rfl]
      repeat (first | refine dl_y (by kernel_rfl) rfl rfl (fun w ⟨m, hw⟩ => by first | exact y_move rfl | exact y_assign rfl | exact y_nilCheck rfl rfl | exact y_fieldAddr_row rfl | exact y_fieldAddr rfl | exact y_lenL rfl | exact y_lenS rfl | exact y_extract rfl rfl | exact y_pick_t rfl rfl | exact y_pick_f rfl rfl | exact D5 hw rfl | exact D4 | exact D0 | exact D1 | exact D2 | exact D3 | exact D6 | exact D7 | exact y_index rfl rfl (by omega) (by omega) | exact y_indexA rfl rfl (by omega) (by omega) | exact D8 hw rfl | exact y_not rfl rfl | exact y_eqPnil rfl rfl rfl | exact y_nePnil rfl rfl rfl | exact y_convS rfl | exact y_eqB rfl rfl rfl | exact y_neB rfl rfl rfl) ?_ | refine dl_pass (by kernel_rfl) rfl rfl ?_)
      refine dl_end (by kernel_rfl) ?_
      repeat (first | (with_reducible first | refine K0 ?_ | refine K1 ?_ | refine K2 ?_ | refine K3 ?_ | refine K4 ?_ | refine K5 ?_ | refine K6 ?_ | refine K7 ?_ | refine K8 ?_ | refine K9 ?_ | refine L0 ?_ | refine L1 ?_ | refine L2 ?_ | refine L3 ?_ | refine L4 ?_ | refine L5 ?_ | refine L6 ?_) | refine Y0 hO rfl ?_ | refine Y1 hO rfl rfl (fun w hO => ?_) | refine Y2 hO rfl ?_ | refine Y3 hO rfl rfl (fun w hO => ?_) | refine l_y rfl rfl (y_index rfl rfl (by omega) (by omega)) ?_ | refine l_y rfl rfl (y_indexA rfl rfl (by omega) (by omega)) ?_ | refine L7 ?_ | refine L8 ?_ | refine L9 ?_ | refine M0 ?_ | refine M1 ?_ | refine M2 ?_ | refine M3 ?_ | refine M4 ?_ | refine M5 ?_ | refine M6 ?_ | refine M7 ?_ | refine M8 ?_ | refine M9 ?_ | refine N0 ?_ | refine N1 ?_ | refine N2 ?_ | refine N3 ?_ | refine N4 ?_ | refine N5 ?_ | refine N6 ?_ | refine N7 ?_ | refine N8 ?_ | refine N9 ?_ | refine R0 ?_ | refine R1 ?_ | refine R2 ?_ | refine R3 ?_ | refine R4 ?_ | refine R5 ?_ | refine R6 ?_ | refine R7 ?_ | refine R8 ?_ | refine R9 ?_ | refine S0 ?_)
      exact fin2 rfl rfl rfl ⟨_, ⟨rfl, rfl⟩, rst_shut hO rfl⟩
    · rw [if_neg (by simpa using hz)]
      repeat (first | refine dl_y (by kernel_rfl) rfl rfl (fun w ⟨m, hw⟩ => by first | exact y_move rfl | exact y_assign rfl | exact y_nilCheck rfl rfl | exact y_fieldAddr_row rfl | exact y_fieldAddr rfl | exact y_lenL rfl | exact y_lenS rfl | exact y_extract rfl rfl | exact y_pick_t rfl rfl | exact y_pick_f rfl rfl | exact D5 hw rfl | exact D4 | exact D0 | exact D1 | exact D2 | exact D3 | exact D6 | exact D7 | exact y_index rfl rfl (by omega) (by omega) | exact y_indexA rfl rfl (by omega) (by omega) | exact D8 hw rfl | exact y_not rfl rfl | exact y_eqPnil rfl rfl rfl | exact y_nePnil rfl rfl rfl | exact y_convS rfl | exact y_eqB rfl rfl rfl | exact y_neB rfl rfl rfl) ?_ | refine dl_pass (by kernel_rfl) rfl rfl ?_)
      refine dl_end (by kernel_rfl) ?_
      cases L with
      | nil =>
        rw [if_neg (by simp)]
        cases o
        · repeat (first | (with_reducible first | refine K0 ?_ | refine K1 ?_ | refine K2 ?_ | refine K3 ?_ | refine K4 ?_ | refine K5 ?_ | refine K6 ?_ | refine K7 ?_ | refine K8 ?_ | refine K9 ?_ | refine L0 ?_ | refine L1 ?_ | refine L2 ?_ | refine L3 ?_ | refine L4 ?_ | refine L5 ?_ | refine L6 ?_) | refine Y0 hO rfl ?_ | refine Y1 hO rfl rfl (fun w hO => ?_) | refine Y2 hO rfl ?_ | refine Y3 hO rfl rfl (fun w hO => ?_) | refine l_y rfl rfl (y_index rfl rfl (by omega) (by omega)) ?_ | refine l_y rfl rfl (y_indexA rfl rfl (by omega) (by omega)) ?_ | refine L7 ?_ | refine L8 ?_ | refine L9 ?_ | refine M0 ?_ | refine M1 ?_ | refine M2 ?_ | refine M3 ?_ | refine M4 ?_ | refine M5 ?_ | refine M6 ?_ | refine M7 ?_ | refine M8 ?_ | refine M9 ?_ | refine N0 ?_ | refine N1 ?_ | refine N2 ?_ | refine N3 ?_ | refine N4 ?_ | refine N5 ?_ | refine N6 ?_ | refine N7 ?_ | refine N8 ?_ | refine N9 ?_ | refine R0 ?_ | refine R1 ?_ | refine R2 ?_ | refine R3 ?_ | refine R4 ?_ | refine R5 ?_ | refine R6 ?_ | refine R7 ?_ | refine R8 ?_ | refine R9 ?_ | refine S0 ?_)
          exact fin2 rfl rfl rfl ⟨_, ⟨rfl, rfl⟩, rst_shut (L := []) hO rfl⟩
        · repeat (first | (with_reducible first | refine K0 ?_ | refine K1 ?_ | refine K2 ?_ | refine K3 ?_ | refine K4 ?_ | refine K5 ?_ | refine K6 ?_ | refine K7 ?_ | refine K8 ?_ | refine K9 ?_ | refine L0 ?_ | refine L1 ?_ | refine L2 ?_ | refine L3 ?_ | refine L4 ?_ | refine L5 ?_ | refine L6 ?_) | refine Y0 hO rfl ?_ | refine Y1 hO rfl rfl (fun w hO => ?_) | refine Y2 hO rfl ?_ | refine Y3 hO rfl rfl (fun w hO => ?_) | refine l_y rfl rfl (y_index rfl rfl (by omega) (by omega)) ?_ | refine l_y rfl rfl (y_indexA rfl rfl (by omega) (by omega)) ?_ | refine L7 ?_ | refine L8 ?_ | refine L9 ?_ | refine M0 ?_ | refine M1 ?_ | refine M2 ?_ | refine M3 ?_ | refine M4 ?_ | refine M5 ?_ | refine M6 ?_ | refine M7 ?_ | refine M8 ?_ | refine M9 ?_ | refine N0 ?_ | refine N1 ?_ | refine N2 ?_ | refine N3 ?_ | refine N4 ?_ | refine N5 ?_ | refine N6 ?_ | refine N7 ?_ | refine N8 ?_ | refine N9 ?_ | refine R0 ?_ | refine R1 ?_ | refine R2 ?_ | refine R3 ?_ | refine R4 ?_ | refine R5 ?_ | refine R6 ?_ | refine R7 ?_ | refine R8 ?_ | refine R9 ?_ | refine S0 ?_)
          exact fin2 rfl rfl rfl ⟨_, ⟨rfl, rfl⟩, rst_shut (L := []) hO rfl⟩
      | cons r L =>
        have hlen : (r :: L).length = L.length + 1 := by simp
        obtain ⟨b, q, hp, hH⟩ := (sl_sli hO (.tl _ (.hd _ _))).get (cuts_holds _) (iv_one _ _) (iv_get (i := 0) rfl)
        subst hp
        repeat (first | (with_reducible first | refine K0 ?_ | refine K1 ?_ | refine K2 ?_ | refine K3 ?_ | refine K4 ?_ | refine K5 ?_ | refine K6 ?_ | refine K7 ?_ | refine K8 ?_ | refine K9 ?_ | refine L0 ?_ | refine L1 ?_ | refine L2 ?_ | refine L3 ?_ | refine L4 ?_ | refine L5 ?_ | refine L6 ?_) | refine Y0 hO rfl ?_ | refine Y1 hO rfl rfl (fun w hO => ?_) | refine Y2 hO rfl ?_ | refine Y3 hO rfl rfl (fun w hO => ?_) | refine l_y rfl rfl (y_index rfl rfl (by omega) (by omega)) ?_ | refine l_y rfl rfl (y_indexA rfl rfl (by omega) (by omega)) ?_ | refine L7 ?_ | refine L8 ?_ | refine L9 ?_ | refine M0 ?_ | refine M1 ?_ | refine M2 ?_ | refine M3 ?_ | refine M4 ?_ | refine M5 ?_ | refine M6 ?_ | refine M7 ?_ | refine M8 ?_ | refine M9 ?_ | refine N0 ?_ | refine N1 ?_ | refine N2 ?_ | refine N3 ?_ | refine N4 ?_ | refine N5 ?_ | refine N6 ?_ | refine N7 ?_ | refine N8 ?_ | refine N9 ?_ | refine R0 ?_ | refine R1 ?_ | refine R2 ?_ | refine R3 ?_ | refine R4 ?_ | refine R5 ?_ | refine R6 ?_ | refine R7 ?_ | refine R8 ?_ | refine R9 ?_ | refine S0 ?_)
        refine l_y rfl rfl (y_load1 rfl hH) ?_
        repeat (first | (with_reducible first | refine K0 ?_ | refine K1 ?_ | refine K2 ?_ | refine K3 ?_ | refine K4 ?_ | refine K5 ?_ | refine K6 ?_ | refine K7 ?_ | refine K8 ?_ | refine K9 ?_ | refine L0 ?_ | refine L1 ?_ | refine L2 ?_ | refine L3 ?_ | refine L4 ?_ | refine L5 ?_ | refine L6 ?_) | refine Y0 hO rfl ?_ | refine Y1 hO rfl rfl (fun w hO => ?_) | refine Y2 hO rfl ?_ | refine Y3 hO rfl rfl (fun w hO => ?_) | refine l_y rfl rfl (y_index rfl rfl (by omega) (by omega)) ?_ | refine l_y rfl rfl (y_indexA rfl rfl (by omega) (by omega)) ?_ | refine L7 ?_ | refine L8 ?_ | refine L9 ?_ | refine M0 ?_ | refine M1 ?_ | refine M2 ?_ | refine M3 ?_ | refine M4 ?_ | refine M5 ?_ | refine M6 ?_ | refine M7 ?_ | refine M8 ?_ | refine M9 ?_ | refine N0 ?_ | refine N1 ?_ | refine N2 ?_ | refine N3 ?_ | refine N4 ?_ | refine N5 ?_ | refine N6 ?_ | refine N7 ?_ | refine N8 ?_ | refine N9 ?_ | refine R0 ?_ | refine R1 ?_ | refine R2 ?_ | refine R3 ?_ | refine R4 ?_ | refine R5 ?_ | refine R6 ?_ | refine R7 ?_ | refine R8 ?_ | refine R9 ?_ | refine S0 ?_)
        exact fin2 rfl rfl rfl ⟨_, ⟨rfl, rfl⟩, rst_shut hO rfl⟩
theorem map_step {M : List Int} {n : Int} {i : Nat} {x : Int} (hx : M[i]? = some x) : ((M.take i).map (· + n) ++ M.drop i)[i]? = some x ∧ ((M.take i).map (· + n) ++ M.drop i).set i (x + n) = (M.take (i + 1)).map (· + n) ++ M.drop (i + 1) := by
  have hlt : i < M.length := (List.getElem?_eq_some_iff.1 hx).1
  constructor
  · rw [List.getElem?_append_right (by simp; omega), List.getElem?_drop]
    simp only [List.length_map, List.length_take]
    rw [Nat.min_eq_left (by omega), Nat.sub_self, Nat.add_zero]; exact hx
  · have h1 : M.drop i = x :: M.drop (i + 1) := by
      rw [List.drop_eq_getElem_cons hlt]; congr 1; rw [List.getElem?_eq_getElem hlt] at hx; exact Option.some.inj hx
    have h2 : M.take (i + 1) = M.take i ++ [x] := by rw [List.take_add_one, hx]; rfl
    rw [h1, h2, List.set_append_right _ _ (by simp; omega)]
    simp only [List.length_map, List.length_take]
    rw [Nat.min_eq_left (by omega), Nat.sub_self]
    simp
theorem sl_arr {k : Ctx} {w : World} {p : Option Addr} {m c i : Nat} {T : TypeId} {M : List Int} {n : Int} {l : List HP} (hO : Own k w (sl (.slice p m c) T 1 (iv .i64 ((M.take i).map (· + n) ++ M.drop i)) :: l)) (hlt : i < M.length) : ∃ b o, p = some ⟨b, o, none⟩ ∧ Own k w (arr b o c T 1 (iv .i64 ((M.take i).map (· + n) ++ M.drop i)) :: l) := by
  rcases sl_open hO with ⟨hv, hz0, _⟩ | ⟨mb, mo, cap, hv, hO⟩
  · exfalso
    have := congrArg List.length hz0
    simp [iv_length] at this
    omega
  · simp only [Value.slice.injEq] at hv
    obtain ⟨rfl, _, rfl⟩ := hv
    exact ⟨mb, mo, rfl, hO⟩
theorem rNext_spec (k : Ctx) (w : World) (s : Nat) (σ : St) (hf : σ.Fine) (hM : ∀ x ∈ σ.M, -1000000000 ≤ x ∧ x ≤ 1000000000) (hO : Own k w [rst s σ]) :
    Tri Try.prog 36 #[.pointer (some ⟨s, 0, none⟩)] k w fun r m => r = .tuple #[.int .i32 (nextS σ).1.1, .bool (nextS σ).1.2] ∧ m = [rst s (nextS σ).2] := by
  refine enter (args := [.pointer (some ⟨s, 0, none⟩)]) Try.func36 rfl rfl ?_
  repeat (first | (with_reducible first | refine K0 ?_ | refine K1 ?_ | refine K2 ?_ | refine K3 ?_ | refine K4 ?_ | refine K5 ?_ | refine K6 ?_ | refine K7 ?_ | refine K8 ?_ | refine K9 ?_ | refine L0 ?_ | refine L1 ?_ | refine L2 ?_ | refine L3 ?_ | refine L4 ?_ | refine L5 ?_ | refine L6 ?_) | refine Y0 hO rfl ?_ | refine Y1 hO rfl rfl (fun w hO => ?_) | refine Y2 hO rfl ?_ | refine Y3 hO rfl rfl (fun w hO => ?_) | refine l_y rfl rfl (y_index rfl rfl (by omega) (by omega)) ?_ | refine l_y rfl rfl (y_indexA rfl rfl (by omega) (by omega)) ?_ | refine L7 ?_ | refine L8 ?_ | refine L9 ?_ | refine M0 ?_ | refine M1 ?_ | refine M2 ?_ | refine M3 ?_ | refine M4 ?_ | refine M5 ?_ | refine M6 ?_ | refine M7 ?_ | refine M8 ?_ | refine M9 ?_ | refine N0 ?_ | refine N1 ?_ | refine N2 ?_ | refine N3 ?_ | refine N4 ?_ | refine N5 ?_ | refine N6 ?_ | refine N7 ?_ | refine N8 ?_ | refine N9 ?_ | refine R0 ?_ | refine R1 ?_ | refine R2 ?_ | refine R3 ?_ | refine R4 ?_ | refine R5 ?_ | refine R6 ?_ | refine R7 ?_ | refine R8 ?_ | refine R9 ?_ | refine S0 ?_)
  refine s_callO hO (Pulls.refl_app [_] []) rfl rfl rfl (fun k' hx hr hO => rPeek_spec k' _ s σ hf hO) ?_
  rintro _ _ w ⟨rfl, rfl⟩ hO
  unfold nextS
  obtain ⟨pk, hpk⟩ : ∃ pk, pk = peekS σ := ⟨_, rfl⟩
  rw [← hpk]
  obtain ⟨r, b⟩ := pk
  dsimp only
  cases b
  · rw [if_neg (by simp)]
    repeat (first | (with_reducible first | refine K0 ?_ | refine K1 ?_ | refine K2 ?_ | refine K3 ?_ | refine K4 ?_ | refine K5 ?_ | refine K6 ?_ | refine K7 ?_ | refine K8 ?_ | refine K9 ?_ | refine L0 ?_ | refine L1 ?_ | refine L2 ?_ | refine L3 ?_ | refine L4 ?_ | refine L5 ?_ | refine L6 ?_) | refine Y0 hO rfl ?_ | refine Y1 hO rfl rfl (fun w hO => ?_) | refine Y2 hO rfl ?_ | refine Y3 hO rfl rfl (fun w hO => ?_) | refine l_y rfl rfl (y_index rfl rfl (by omega) (by omega)) ?_ | refine l_y rfl rfl (y_indexA rfl rfl (by omega) (by omega)) ?_ | refine L7 ?_ | refine L8 ?_ | refine L9 ?_ | refine M0 ?_ | refine M1 ?_ | refine M2 ?_ | refine M3 ?_ | refine M4 ?_ | refine M5 ?_ | refine M6 ?_ | refine M7 ?_ | refine M8 ?_ | refine M9 ?_ | refine N0 ?_ | refine N1 ?_ | refine N2 ?_ | refine N3 ?_ | refine N4 ?_ | refine N5 ?_ | refine N6 ?_ | refine N7 ?_ | refine N8 ?_ | refine N9 ?_ | refine R0 ?_ | refine R1 ?_ | refine R2 ?_ | refine R3 ?_ | refine R4 ?_ | refine R5 ?_ | refine R6 ?_ | refine R7 ?_ | refine R8 ?_ | refine R9 ?_ | refine S0 ?_)
    exact fin2 rfl rfl rfl ⟨_, ⟨rfl, rfl⟩, hO⟩
  · obtain ⟨pl, cl, pm, cm, hO⟩ := rst_open hO
    have hO : Own k w [_, _, _] := hO
    obtain ⟨hL, hM2⟩ := hf
    obtain ⟨L, M, cr, o, g⟩ := σ
    dsimp only at hO hL hM hM2
    have h0 : ([] : List Int).length = 0 := rfl
    cases L with
    | nil =>
      rw [if_neg (by simp)]
      repeat (first | (with_reducible first | refine K0 ?_ | refine K1 ?_ | refine K2 ?_ | refine K3 ?_ | refine K4 ?_ | refine K5 ?_ | refine K6 ?_ | refine K7 ?_ | refine K8 ?_ | refine K9 ?_ | refine L0 ?_ | refine L1 ?_ | refine L2 ?_ | refine L3 ?_ | refine L4 ?_ | refine L5 ?_ | refine L6 ?_) | refine Y0 hO rfl ?_ | refine Y1 hO rfl rfl (fun w hO => ?_) | refine Y2 hO rfl ?_ | refine Y3 hO rfl rfl (fun w hO => ?_) | refine l_y rfl rfl (y_index rfl rfl (by omega) (by omega)) ?_ | refine l_y rfl rfl (y_indexA rfl rfl (by omega) (by omega)) ?_ | refine L7 ?_ | refine L8 ?_ | refine L9 ?_ | refine M0 ?_ | refine M1 ?_ | refine M2 ?_ | refine M3 ?_ | refine M4 ?_ | refine M5 ?_ | refine M6 ?_ | refine M7 ?_ | refine M8 ?_ | refine M9 ?_ | refine N0 ?_ | refine N1 ?_ | refine N2 ?_ | refine N3 ?_ | refine N4 ?_ | refine N5 ?_ | refine N6 ?_ | refine N7 ?_ | refine N8 ?_ | refine N9 ?_ | refine R0 ?_ | refine R1 ?_ | refine R2 ?_ | refine R3 ?_ | refine R4 ?_ | refine R5 ?_ | refine R6 ?_ | refine R7 ?_ | refine R8 ?_ | refine R9 ?_ | refine S0 ?_)
      exact fin2 rfl rfl rfl ⟨_, ⟨rfl, rfl⟩, rst_shut (L := []) hO rfl⟩
    | cons x L =>
      have hlen : (x :: L).length = L.length + 1 := by simp
      have hcl := (sl_sli hO (.tl _ (.hd _ _))).fits.2
      rw [if_pos (by simp)]
      repeat (first | (with_reducible first | refine K0 ?_ | refine K1 ?_ | refine K2 ?_ | refine K3 ?_ | refine K4 ?_ | refine K5 ?_ | refine K6 ?_ | refine K7 ?_ | refine K8 ?_ | refine K9 ?_ | refine L0 ?_ | refine L1 ?_ | refine L2 ?_ | refine L3 ?_ | refine L4 ?_ | refine L5 ?_ | refine L6 ?_) | refine Y0 hO rfl ?_ | refine Y1 hO rfl rfl (fun w hO => ?_) | refine Y2 hO rfl ?_ | refine Y3 hO rfl rfl (fun w hO => ?_) | refine l_y rfl rfl (y_index rfl rfl (by omega) (by omega)) ?_ | refine l_y rfl rfl (y_indexA rfl rfl (by omega) (by omega)) ?_ | refine L7 ?_ | refine L8 ?_ | refine L9 ?_ | refine M0 ?_ | refine M1 ?_ | refine M2 ?_ | refine M3 ?_ | refine M4 ?_ | refine M5 ?_ | refine M6 ?_ | refine M7 ?_ | refine M8 ?_ | refine M9 ?_ | refine N0 ?_ | refine N1 ?_ | refine N2 ?_ | refine N3 ?_ | refine N4 ?_ | refine N5 ?_ | refine N6 ?_ | refine N7 ?_ | refine N8 ?_ | refine N9 ?_ | refine R0 ?_ | refine R1 ?_ | refine R2 ?_ | refine R3 ?_ | refine R4 ?_ | refine R5 ?_ | refine R6 ?_ | refine R7 ?_ | refine R8 ?_ | refine R9 ?_ | refine S0 ?_)
      refine l_y rfl rfl (y_tail 1 rfl rfl rfl (by omega) hcl) ?_
      repeat (first | (with_reducible first | refine K0 ?_ | refine K1 ?_ | refine K2 ?_ | refine K3 ?_ | refine K4 ?_ | refine K5 ?_ | refine K6 ?_ | refine K7 ?_ | refine K8 ?_ | refine K9 ?_ | refine L0 ?_ | refine L1 ?_ | refine L2 ?_ | refine L3 ?_ | refine L4 ?_ | refine L5 ?_ | refine L6 ?_) | refine Y0 hO rfl ?_ | refine Y1 hO rfl rfl (fun w hO => ?_) | refine Y2 hO rfl ?_ | refine Y3 hO rfl rfl (fun w hO => ?_) | refine l_y rfl rfl (y_index rfl rfl (by omega) (by omega)) ?_ | refine l_y rfl rfl (y_indexA rfl rfl (by omega) (by omega)) ?_ | refine L7 ?_ | refine L8 ?_ | refine L9 ?_ | refine M0 ?_ | refine M1 ?_ | refine M2 ?_ | refine M3 ?_ | refine M4 ?_ | refine M5 ?_ | refine M6 ?_ | refine M7 ?_ | refine M8 ?_ | refine M9 ?_ | refine N0 ?_ | refine N1 ?_ | refine N2 ?_ | refine N3 ?_ | refine N4 ?_ | refine N5 ?_ | refine N6 ?_ | refine N7 ?_ | refine N8 ?_ | refine N9 ?_ | refine R0 ?_ | refine R1 ?_ | refine R2 ?_ | refine R3 ?_ | refine R4 ?_ | refine R5 ?_ | refine R6 ?_ | refine R7 ?_ | refine R8 ?_ | refine R9 ?_ | refine S0 ?_)
      have hO := sl_tail (hO.pulls (As := [_, _, _]) (.cons (.tl _ (.hd _ _)) (.cons (.hd _ _) (.cons (.hd _ _) (.nil _))))) 1 (by omega)
      rw [iv_drop] at hO
      have hO := hO.pulls (As := [_, _, _]) (.cons (.tl _ (.hd _ _)) (.cons (.tl _ (.hd _ _)) (.cons (.hd _ _) (.nil _))))
      obtain ⟨vt, hvt⟩ : ∃ vt, vt = Value.slice (if cl = 1 then pl else pl.map (·.add (1 * 1))) ((x :: L).length - 1) (cl - 1) := ⟨_, rfl⟩
      rw [← hvt] at hO
      refine c_rounds (X := Nat) (fun i => [(0, .pointer (some ⟨s, 0, none⟩)), (4, .int .i32 r), (5, .bool true), (6, .int .i64 i)]) (fun i w => Own k w [rblk s vt (.slice pm M.length cm) cr o g, isl (.slice pm M.length cm) ((M.take i).map (· + -1) ++ M.drop i), rsl vt ((x :: L).drop 1)] ∧ i ≤ M.length) (fun i => M.length - i) 0 ⟨rfl, rfl, rfl, rfl, trivial⟩ ⟨by rw [hvt] at hO ⊢; exact hO, Nat.zero_le _⟩ ?_
      clear hO hvt
      rintro i w m hm ⟨hO, hi⟩
      by_cases hlt : i < M.length
      · obtain ⟨y, hy⟩ : ∃ y, M[i]? = some y := ⟨M[i], List.getElem?_eq_getElem hlt⟩
        have hyb := hM y (List.mem_of_getElem? hy)
        obtain ⟨hg1, hg2⟩ := map_step (n := -1) hy
        obtain ⟨mb, mo, hp, hO⟩ := sl_arr (hO.pulls (As := [_, _, _]) (.cons (.tl _ (.hd _ _)) (.cons (.hd _ _) (.cons (.hd _ _) (.nil _))))) hlt
        subst hp
        repeat (first | (with_reducible first | refine K0 ?_ | refine K1 ?_ | refine K2 ?_ | refine K3 ?_ | refine K4 ?_ | refine K5 ?_ | refine K6 ?_ | refine K7 ?_ | refine K8 ?_ | refine K9 ?_ | refine L0 ?_ | refine L1 ?_ | refine L2 ?_ | refine L3 ?_ | refine L4 ?_ | refine L5 ?_ | refine L6 ?_) | refine Y0 hO rfl ?_ | refine Y1 hO rfl rfl (fun w hO => ?_) | refine Y2 hO rfl ?_ | refine Y3 hO rfl rfl (fun w hO => ?_) | refine l_y rfl rfl (y_index rfl rfl (by omega) (by omega)) ?_ | refine l_y rfl rfl (y_indexA rfl rfl (by omega) (by omega)) ?_ | refine L7 ?_ | refine L8 ?_ | refine L9 ?_ | refine M0 ?_ | refine M1 ?_ | refine M2 ?_ | refine M3 ?_ | refine M4 ?_ | refine M5 ?_ | refine M6 ?_ | refine M7 ?_ | refine M8 ?_ | refine M9 ?_ | refine N0 ?_ | refine N1 ?_ | refine N2 ?_ | refine N3 ?_ | refine N4 ?_ | refine N5 ?_ | refine N6 ?_ | refine N7 ?_ | refine N8 ?_ | refine N9 ?_ | refine R0 ?_ | refine R1 ?_ | refine R2 ?_ | refine R3 ?_ | refine R4 ?_ | refine R5 ?_ | refine R6 ?_ | refine R7 ?_ | refine R8 ?_ | refine R9 ?_ | refine S0 ?_)
        refine l_y rfl rfl (y_load1 rfl (hO.holds (.hd _ _ _) (.ofArr1 (iv_get hg1) rfl))) ?_
        repeat (first | (with_reducible first | refine K0 ?_ | refine K1 ?_ | refine K2 ?_ | refine K3 ?_ | refine K4 ?_ | refine K5 ?_ | refine K6 ?_ | refine K7 ?_ | refine K8 ?_ | refine K9 ?_ | refine L0 ?_ | refine L1 ?_ | refine L2 ?_ | refine L3 ?_ | refine L4 ?_ | refine L5 ?_ | refine L6 ?_) | refine Y0 hO rfl ?_ | refine Y1 hO rfl rfl (fun w hO => ?_) | refine Y2 hO rfl ?_ | refine Y3 hO rfl rfl (fun w hO => ?_) | refine l_y rfl rfl (y_index rfl rfl (by omega) (by omega)) ?_ | refine l_y rfl rfl (y_indexA rfl rfl (by omega) (by omega)) ?_ | refine L7 ?_ | refine L8 ?_ | refine L9 ?_ | refine M0 ?_ | refine M1 ?_ | refine M2 ?_ | refine M3 ?_ | refine M4 ?_ | refine M5 ?_ | refine M6 ?_ | refine M7 ?_ | refine M8 ?_ | refine M9 ?_ | refine N0 ?_ | refine N1 ?_ | refine N2 ?_ | refine N3 ?_ | refine N4 ?_ | refine N5 ?_ | refine N6 ?_ | refine N7 ?_ | refine N8 ?_ | refine N9 ?_ | refine R0 ?_ | refine R1 ?_ | refine R2 ?_ | refine R3 ?_ | refine R4 ?_ | refine R5 ?_ | refine R6 ?_ | refine R7 ?_ | refine R8 ?_ | refine R9 ?_ | refine S0 ?_)
        refine s_store1 hO rfl rfl rfl rfl rfl (.hd _ _ _) (Upd.ofArr1 (iv_get hg1) rfl) fun w hO => ?_
        have hO : Own k w (arr mb mo cm 3 1 ((iv .i64 ((M.take i).map (· + -1) ++ M.drop i)).set i [.int .i64 (y + -1)]) :: _) := hO
        rw [iv_set, hg2] at hO
        have hO := sl_shut (m := M.length) hO (by simp [iv_length]; omega)
        have hO := hO.pulls (As := [_, _, _]) (.cons (.tl _ (.hd _ _)) (.cons (.hd _ _) (.cons (.hd _ _) (.nil _))))
        repeat (first | (with_reducible first | refine K0 ?_ | refine K1 ?_ | refine K2 ?_ | refine K3 ?_ | refine K4 ?_ | refine K5 ?_ | refine K6 ?_ | refine K7 ?_ | refine K8 ?_ | refine K9 ?_ | refine L0 ?_ | refine L1 ?_ | refine L2 ?_ | refine L3 ?_ | refine L4 ?_ | refine L5 ?_ | refine L6 ?_) | refine Y0 hO rfl ?_ | refine Y1 hO rfl rfl (fun w hO => ?_) | refine Y2 hO rfl ?_ | refine Y3 hO rfl rfl (fun w hO => ?_) | refine l_y rfl rfl (y_index rfl rfl (by omega) (by omega)) ?_ | refine l_y rfl rfl (y_indexA rfl rfl (by omega) (by omega)) ?_ | refine L7 ?_ | refine L8 ?_ | refine L9 ?_ | refine M0 ?_ | refine M1 ?_ | refine M2 ?_ | refine M3 ?_ | refine M4 ?_ | refine M5 ?_ | refine M6 ?_ | refine M7 ?_ | refine M8 ?_ | refine M9 ?_ | refine N0 ?_ | refine N1 ?_ | refine N2 ?_ | refine N3 ?_ | refine N4 ?_ | refine N5 ?_ | refine N6 ?_ | refine N7 ?_ | refine N8 ?_ | refine N9 ?_ | refine R0 ?_ | refine R1 ?_ | refine R2 ?_ | refine R3 ?_ | refine R4 ?_ | refine R5 ?_ | refine R6 ?_ | refine R7 ?_ | refine R8 ?_ | refine R9 ?_ | refine S0 ?_)
        exact q_next (i + 1) ⟨rfl, rfl, rfl, rfl, trivial⟩ ⟨hO, by omega⟩ (by omega)
      · rw [List.take_of_length_le (by omega), List.drop_of_length_le (by omega), List.append_nil] at hO
        repeat (first | (with_reducible first | refine K0 ?_ | refine K1 ?_ | refine K2 ?_ | refine K3 ?_ | refine K4 ?_ | refine K5 ?_ | refine K6 ?_ | refine K7 ?_ | refine K8 ?_ | refine K9 ?_ | refine L0 ?_ | refine L1 ?_ | refine L2 ?_ | refine L3 ?_ | refine L4 ?_ | refine L5 ?_ | refine L6 ?_) | refine Y0 hO rfl ?_ | refine Y1 hO rfl rfl (fun w hO => ?_) | refine Y2 hO rfl ?_ | refine Y3 hO rfl rfl (fun w hO => ?_) | refine l_y rfl rfl (y_index rfl rfl (by omega) (by omega)) ?_ | refine l_y rfl rfl (y_indexA rfl rfl (by omega) (by omega)) ?_ | refine L7 ?_ | refine L8 ?_ | refine L9 ?_ | refine M0 ?_ | refine M1 ?_ | refine M2 ?_ | refine M3 ?_ | refine M4 ?_ | refine M5 ?_ | refine M6 ?_ | refine M7 ?_ | refine M8 ?_ | refine M9 ?_ | refine N0 ?_ | refine N1 ?_ | refine N2 ?_ | refine N3 ?_ | refine N4 ?_ | refine N5 ?_ | refine N6 ?_ | refine N7 ?_ | refine N8 ?_ | refine N9 ?_ | refine R0 ?_ | refine R1 ?_ | refine R2 ?_ | refine R3 ?_ | refine R4 ?_ | refine R5 ?_ | refine R6 ?_ | refine R7 ?_ | refine R8 ?_ | refine R9 ?_ | refine S0 ?_)
        have hO := hO.pulls (As := [_, _, _]) (.cons (.hd _ _) (.cons (.tl _ (.hd _ _)) (.cons (.hd _ _) (.nil _))))
        exact fin2 rfl rfl rfl ⟨_, ⟨rfl, rfl⟩, Own.front (l := [_]) (rst_shut hO rfl)⟩
theorem rWrite_spec (k : Ctx) (w : World) (s : Nat) (σ : St) (hf : σ.Fine) (hM : ∀ x ∈ σ.M, 0 ≤ x ∧ x ≤ σ.L.length) (p : Option Addr) (n cap : Nat) (x : List Int) (hxl : x.length ≤ 4611686018427387904) (hS : Sli (Ro k) (.slice p n cap) (iv .i32 x)) (hO : Own k w [rst s σ]) :
    Tri Try.prog 35 #[.pointer (some ⟨s, 0, none⟩), .slice p n cap] k w fun r m => r = .int .i64 (writeS σ x).1 ∧ m = [rst s (writeS σ x).2] := by
  refine enter (args := [.pointer (some ⟨s, 0, none⟩), .slice p n cap]) Try.func35 rfl rfl ?_
  have hn := hS.fits.1
  rw [iv_length] at hn
  subst hn
  obtain ⟨pl, cl, pm, cm, hO⟩ := rst_open hO
  obtain ⟨hL, hM2⟩ := hf
  obtain ⟨L, M, cr, o, g⟩ := σ
  dsimp only at hO hL hM hM2
  unfold writeS
  dsimp only
  have h0 : ([] : List Int).length = 0 := rfl
  rcases last_cases M with rfl | ⟨Ms, z, rfl⟩
  · repeat (first | (with_reducible first | refine K0 ?_ | refine K1 ?_ | refine K2 ?_ | refine K3 ?_ | refine K4 ?_ | refine K5 ?_ | refine K6 ?_ | refine K7 ?_ | refine K8 ?_ | refine K9 ?_ | refine L0 ?_ | refine L1 ?_ | refine L2 ?_ | refine L3 ?_ | refine L4 ?_ | refine L5 ?_ | refine L6 ?_) | refine Y0 hO rfl ?_ | refine Y1 hO rfl rfl (fun w hO => ?_) | refine Y2 hO rfl ?_ | refine Y3 hO rfl rfl (fun w hO => ?_) | refine l_y rfl rfl (y_index rfl rfl (by omega) (by omega)) ?_ | refine l_y rfl rfl (y_indexA rfl rfl (by omega) (by omega)) ?_ | refine L7 ?_ | refine L8 ?_ | refine L9 ?_ | refine M0 ?_ | refine M1 ?_ | refine M2 ?_ | refine M3 ?_ | refine M4 ?_ | refine M5 ?_ | refine M6 ?_ | refine M7 ?_ | refine M8 ?_ | refine M9 ?_ | refine N0 ?_ | refine N1 ?_ | refine N2 ?_ | refine N3 ?_ | refine N4 ?_ | refine N5 ?_ | refine N6 ?_ | refine N7 ?_ | refine N8 ?_ | refine N9 ?_ | refine R0 ?_ | refine R1 ?_ | refine R2 ?_ | refine R3 ?_ | refine R4 ?_ | refine R5 ?_ | refine R6 ?_ | refine R7 ?_ | refine R8 ?_ | refine R9 ?_ | refine S0 ?_)
    exact fin1 rfl rfl ⟨_, ⟨rfl, rfl⟩, rst_shut (M := []) hO rfl⟩
  have hlen : (Ms ++ [z]).length = Ms.length + 1 := by simp
  have hlast : (Ms ++ [z]).getLast? = some z := by simp
  have hzb := hM z (by simp)
  rw [hlast]
  dsimp only
  by_cases hroom : (x.length : Int) ≤ 1048576 - L.length
  · rw [if_pos hroom]
    repeat (first | (with_reducible first | refine K0 ?_ | refine K1 ?_ | refine K2 ?_ | refine K3 ?_ | refine K4 ?_ | refine K5 ?_ | refine K6 ?_ | refine K7 ?_ | refine K8 ?_ | refine K9 ?_ | refine L0 ?_ | refine L1 ?_ | refine L2 ?_ | refine L3 ?_ | refine L4 ?_ | refine L5 ?_ | refine L6 ?_) | refine Y0 hO rfl ?_ | refine Y1 hO rfl rfl (fun w hO => ?_) | refine Y2 hO rfl ?_ | refine Y3 hO rfl rfl (fun w hO => ?_) | refine l_y rfl rfl (y_index rfl rfl (by omega) (by omega)) ?_ | refine l_y rfl rfl (y_indexA rfl rfl (by omega) (by omega)) ?_ | refine L7 ?_ | refine L8 ?_ | refine L9 ?_ | refine M0 ?_ | refine M1 ?_ | refine M2 ?_ | refine M3 ?_ | refine M4 ?_ | refine M5 ?_ | refine M6 ?_ | refine M7 ?_ | refine M8 ?_ | refine M9 ?_ | refine N0 ?_ | refine N1 ?_ | refine N2 ?_ | refine N3 ?_ | refine N4 ?_ | refine N5 ?_ | refine N6 ?_ | refine N7 ?_ | refine N8 ?_ | refine N9 ?_ | refine R0 ?_ | refine R1 ?_ | refine R2 ?_ | refine R3 ?_ | refine R4 ?_ | refine R5 ?_ | refine R6 ?_ | refine R7 ?_ | refine R8 ?_ | refine R9 ?_ | refine S0 ?_)
    refine s_callO hO (.nil _) rfl rfl rfl (fun k' hx hr hO' => rends_spec k' _ false p _ cap x (by omega) (hS.ext hO hx) hO') ?_
    rintro _ _ w ⟨pv, cv, rfl, rfl⟩ hO
    have hO : Own k w [_, _, _, _] := hO
    obtain ⟨y, hy⟩ : ∃ y, y = (ends false x).1 := ⟨_, rfl⟩
    have hel := ends_len x false
    rw [← hy] at hO hel ⊢
    obtain ⟨mb, mo, hp, _⟩ := (sl_sli hO (.tl _ (.tl _ (.tl _ (.hd _ _))))).get (cuts_holds _) (iv_one _ _) (iv_get (i := Ms.length) (x := z) (by simp))
    subst hp
    have e : (((Ms ++ [z]).length : Int) - 1).toNat = Ms.length := by omega
    repeat (first | (with_reducible first | refine K0 ?_ | refine K1 ?_ | refine K2 ?_ | refine K3 ?_ | refine K4 ?_ | refine K5 ?_ | refine K6 ?_ | refine K7 ?_ | refine K8 ?_ | refine K9 ?_ | refine L0 ?_ | refine L1 ?_ | refine L2 ?_ | refine L3 ?_ | refine L4 ?_ | refine L5 ?_ | refine L6 ?_) | refine Y0 hO rfl ?_ | refine Y1 hO rfl rfl (fun w hO => ?_) | refine Y2 hO rfl ?_ | refine Y3 hO rfl rfl (fun w hO => ?_) | refine l_y rfl rfl (y_index rfl rfl (by omega) (by omega)) ?_ | refine l_y rfl rfl (y_indexA rfl rfl (by omega) (by omega)) ?_ | refine L7 ?_ | refine L8 ?_ | refine L9 ?_ | refine M0 ?_ | refine M1 ?_ | refine M2 ?_ | refine M3 ?_ | refine M4 ?_ | refine M5 ?_ | refine M6 ?_ | refine M7 ?_ | refine M8 ?_ | refine M9 ?_ | refine N0 ?_ | refine N1 ?_ | refine N2 ?_ | refine N3 ?_ | refine N4 ?_ | refine N5 ?_ | refine N6 ?_ | refine N7 ?_ | refine N8 ?_ | refine N9 ?_ | refine R0 ?_ | refine R1 ?_ | refine R2 ?_ | refine R3 ?_ | refine R4 ?_ | refine R5 ?_ | refine R6 ?_ | refine R7 ?_ | refine R8 ?_ | refine R9 ?_ | refine S0 ?_)
    refine dl_start (SO k [rblk s (.slice pl L.length cl) (.slice (some ⟨mb, mo, none⟩) (Ms ++ [z]).length cm) cr o g, isl (.slice (some ⟨mb, mo, none⟩) (Ms ++ [z]).length cm) (Ms ++ [z])]) (by intro c a d v w h; cases d <;> exact h) (SO.of hO.drew (.cons (.tl _ (.hd _ _)) (.cons (.tl _ (.tl _ (.hd _ _))) (.nil _)))) ?_
    repeat (first | refine dl_y (by kernel_rfl) rfl rfl (fun w ⟨m, hw⟩ => by first | exact y_move rfl | exact y_assign rfl | exact y_nilCheck rfl rfl | exact y_fieldAddr_row rfl | exact y_fieldAddr rfl | exact y_lenL rfl | exact y_lenS rfl | exact y_extract rfl rfl | exact y_pick_t rfl rfl | exact y_pick_f rfl rfl | exact D5 hw rfl | exact D4 | exact D0 | exact D1 | exact D2 | exact D3 | exact D6 | exact D7 | exact y_index rfl rfl (by omega) (by omega) | exact y_indexA rfl rfl (by omega) (by omega) | exact D8 hw rfl | exact y_not rfl rfl | exact y_eqPnil rfl rfl rfl | exact y_nePnil rfl rfl rfl | exact y_convS rfl | exact y_eqB rfl rfl rfl | exact y_neB rfl rfl rfl) ?_ | refine dl_pass (by kernel_rfl) rfl rfl ?_)
    refine dl_y (by kernel_rfl) rfl rfl (fun w ⟨m, hw⟩ => y_load1 (v := .int .i64 z) rfl (by
      obtain ⟨b, q, hp, hH⟩ := (sl_sli hw (.tl _ (.hd _ _))).get (cuts_holds _) (iv_one _ _) (iv_get (i := Ms.length) (x := z) (by simp))
      cases hp
      rw [e]; exact hH)) ?_
    have hO := hO.drew
    obtain ⟨a, rfl⟩ : ∃ a : Nat, z = a := ⟨z.toNat, by omega⟩
    rw [show ((a : Int)).toNat = a from rfl]
    repeat (first | refine dl_y (by kernel_rfl) rfl rfl (fun w ⟨m, hw⟩ => by first | exact y_move rfl | exact y_assign rfl | exact y_nilCheck rfl rfl | exact y_fieldAddr_row rfl | exact y_fieldAddr rfl | exact y_lenL rfl | exact y_lenS rfl | exact y_extract rfl rfl | exact y_pick_t rfl rfl | exact y_pick_f rfl rfl | exact D5 hw rfl | exact D4 | exact D0 | exact D1 | exact D2 | exact D3 | exact D6 | exact D7 | exact y_index rfl rfl (by omega) (by omega) | exact y_indexA rfl rfl (by omega) (by omega) | exact D8 hw rfl | exact y_not rfl rfl | exact y_eqPnil rfl rfl rfl | exact y_nePnil rfl rfl rfl | exact y_convS rfl | exact y_eqB rfl rfl rfl | exact y_neB rfl rfl rfl) ?_ | refine dl_pass (by kernel_rfl) rfl rfl ?_)
    refine dl_end (by kernel_rfl) ?_
    have hcl := (sl_sli hO (.tl _ (.tl _ (.hd _ _)))).fits.2
    have hat : (L.take a).length = a := by simp; omega
    have hdt : (L.drop a).length = L.length - a := by simp
    have i1 := iv_length .i32 (L.take a)
    have i2 := iv_length .i32 y
    have i3 := iv_length .i32 (L.drop a)
    have hO := sl_nil 21 1 hO
    repeat (first | (with_reducible first | refine K0 ?_ | refine K1 ?_ | refine K2 ?_ | refine K3 ?_ | refine K4 ?_ | refine K5 ?_ | refine K6 ?_ | refine K7 ?_ | refine K8 ?_ | refine K9 ?_ | refine L0 ?_ | refine L1 ?_ | refine L2 ?_ | refine L3 ?_ | refine L4 ?_ | refine L5 ?_ | refine L6 ?_) | refine Y0 hO rfl ?_ | refine Y1 hO rfl rfl (fun w hO => ?_) | refine Y2 hO rfl ?_ | refine Y3 hO rfl rfl (fun w hO => ?_) | refine l_y rfl rfl (y_index rfl rfl (by omega) (by omega)) ?_ | refine l_y rfl rfl (y_indexA rfl rfl (by omega) (by omega)) ?_ | refine L7 ?_ | refine L8 ?_ | refine L9 ?_ | refine M0 ?_ | refine M1 ?_ | refine M2 ?_ | refine M3 ?_ | refine M4 ?_ | refine M5 ?_ | refine M6 ?_ | refine M7 ?_ | refine M8 ?_ | refine M9 ?_ | refine N0 ?_ | refine N1 ?_ | refine N2 ?_ | refine N3 ?_ | refine N4 ?_ | refine N5 ?_ | refine N6 ?_ | refine N7 ?_ | refine N8 ?_ | refine N9 ?_ | refine R0 ?_ | refine R1 ?_ | refine R2 ?_ | refine R3 ?_ | refine R4 ?_ | refine R5 ?_ | refine R6 ?_ | refine R7 ?_ | refine R8 ?_ | refine R9 ?_ | refine S0 ?_)
    refine l_y rfl rfl (y_head a rfl rfl rfl (by omega)) ?_
    refine s_append (rows := []) (news := iv .i32 (L.take a)) (by intro kk h; cases h) hO (.hd _ _) rfl rfl rfl rfl (by
      have h := (sl_sli hO (.tl _ (.tl _ (.tl _ (.hd _ _))))).head (cuts_holds _) (iv_one _ _) a cl (by omega) (by omega)
      rw [iv_take] at h
      exact h.src (iv_one _ _) (iv_cells _ _)) (iv_one _ _) (by simp only [List.length_nil]; omega) (by simp only [List.length_nil]; omega) fun v1 w hO hgr => ?_
    rw [List.nil_append] at hO
    obtain ⟨q1, d1, hv⟩ := sl_shape hO
    rw [iv_length] at hv
    subst hv
    repeat (first | (with_reducible first | refine K0 ?_ | refine K1 ?_ | refine K2 ?_ | refine K3 ?_ | refine K4 ?_ | refine K5 ?_ | refine K6 ?_ | refine K7 ?_ | refine K8 ?_ | refine K9 ?_ | refine L0 ?_ | refine L1 ?_ | refine L2 ?_ | refine L3 ?_ | refine L4 ?_ | refine L5 ?_ | refine L6 ?_) | refine Y0 hO rfl ?_ | refine Y1 hO rfl rfl (fun w hO => ?_) | refine Y2 hO rfl ?_ | refine Y3 hO rfl rfl (fun w hO => ?_) | refine l_y rfl rfl (y_index rfl rfl (by omega) (by omega)) ?_ | refine l_y rfl rfl (y_indexA rfl rfl (by omega) (by omega)) ?_ | refine L7 ?_ | refine L8 ?_ | refine L9 ?_ | refine M0 ?_ | refine M1 ?_ | refine M2 ?_ | refine M3 ?_ | refine M4 ?_ | refine M5 ?_ | refine M6 ?_ | refine M7 ?_ | refine M8 ?_ | refine M9 ?_ | refine N0 ?_ | refine N1 ?_ | refine N2 ?_ | refine N3 ?_ | refine N4 ?_ | refine N5 ?_ | refine N6 ?_ | refine N7 ?_ | refine N8 ?_ | refine N9 ?_ | refine R0 ?_ | refine R1 ?_ | refine R2 ?_ | refine R3 ?_ | refine R4 ?_ | refine R5 ?_ | refine R6 ?_ | refine R7 ?_ | refine R8 ?_ | refine R9 ?_ | refine S0 ?_)
    refine s_append (news := iv .i32 y) (by intro kk h; cases h) hO (.hd _ _) rfl rfl rfl rfl ((sl_sli hO (.tl _ (.hd _ _))).src (iv_one _ _) (iv_cells _ _)) (iv_one _ _) (by omega) (by omega) fun v1 w hO hgr => ?_
    rw [← iv_append] at hO
    obtain ⟨q2, d2, hv⟩ := sl_shape hO
    rw [iv_length] at hv
    subst hv
    have i4 := iv_length .i32 (L.take a ++ y)
    have i5 : (L.take a ++ y).length = a + y.length := by simp; omega
    repeat (first | (with_reducible first | refine K0 ?_ | refine K1 ?_ | refine K2 ?_ | refine K3 ?_ | refine K4 ?_ | refine K5 ?_ | refine K6 ?_ | refine K7 ?_ | refine K8 ?_ | refine K9 ?_ | refine L0 ?_ | refine L1 ?_ | refine L2 ?_ | refine L3 ?_ | refine L4 ?_ | refine L5 ?_ | refine L6 ?_) | refine Y0 hO rfl ?_ | refine Y1 hO rfl rfl (fun w hO => ?_) | refine Y2 hO rfl ?_ | refine Y3 hO rfl rfl (fun w hO => ?_) | refine l_y rfl rfl (y_index rfl rfl (by omega) (by omega)) ?_ | refine l_y rfl rfl (y_indexA rfl rfl (by omega) (by omega)) ?_ | refine L7 ?_ | refine L8 ?_ | refine L9 ?_ | refine M0 ?_ | refine M1 ?_ | refine M2 ?_ | refine M3 ?_ | refine M4 ?_ | refine M5 ?_ | refine M6 ?_ | refine M7 ?_ | refine M8 ?_ | refine M9 ?_ | refine N0 ?_ | refine N1 ?_ | refine N2 ?_ | refine N3 ?_ | refine N4 ?_ | refine N5 ?_ | refine N6 ?_ | refine N7 ?_ | refine N8 ?_ | refine N9 ?_ | refine R0 ?_ | refine R1 ?_ | refine R2 ?_ | refine R3 ?_ | refine R4 ?_ | refine R5 ?_ | refine R6 ?_ | refine R7 ?_ | refine R8 ?_ | refine R9 ?_ | refine S0 ?_)
    refine l_y rfl rfl (y_tail a rfl rfl rfl (by omega) hcl) ?_
    refine s_append (news := iv .i32 (L.drop a)) (by intro kk h; cases h) hO (.hd _ _) rfl rfl rfl rfl (by
      have h := (sl_sli hO (.tl _ (.tl _ (.tl _ (.hd _ _))))).tail (cuts_holds _) (iv_one _ _) a (by omega)
      rw [iv_drop] at h
      exact h.src (iv_one _ _) (iv_cells _ _)) (iv_one _ _) (by omega) (by omega) fun v1 w hO hgr => ?_
    rw [← iv_append] at hO
    obtain ⟨q3, d3, hv⟩ := sl_shape hO
    rw [iv_length] at hv
    subst hv
    repeat (first | (with_reducible first | refine K0 ?_ | refine K1 ?_ | refine K2 ?_ | refine K3 ?_ | refine K4 ?_ | refine K5 ?_ | refine K6 ?_ | refine K7 ?_ | refine K8 ?_ | refine K9 ?_ | refine L0 ?_ | refine L1 ?_ | refine L2 ?_ | refine L3 ?_ | refine L4 ?_ | refine L5 ?_ | refine L6 ?_) | refine Y0 hO rfl ?_ | refine Y1 hO rfl rfl (fun w hO => ?_) | refine Y2 hO rfl ?_ | refine Y3 hO rfl rfl (fun w hO => ?_) | refine l_y rfl rfl (y_index rfl rfl (by omega) (by omega)) ?_ | refine l_y rfl rfl (y_indexA rfl rfl (by omega) (by omega)) ?_ | refine L7 ?_ | refine L8 ?_ | refine L9 ?_ | refine M0 ?_ | refine M1 ?_ | refine M2 ?_ | refine M3 ?_ | refine M4 ?_ | refine M5 ?_ | refine M6 ?_ | refine M7 ?_ | refine M8 ?_ | refine M9 ?_ | refine N0 ?_ | refine N1 ?_ | refine N2 ?_ | refine N3 ?_ | refine N4 ?_ | refine N5 ?_ | refine N6 ?_ | refine N7 ?_ | refine N8 ?_ | refine N9 ?_ | refine R0 ?_ | refine R1 ?_ | refine R2 ?_ | refine R3 ?_ | refine R4 ?_ | refine R5 ?_ | refine R6 ?_ | refine R7 ?_ | refine R8 ?_ | refine R9 ?_ | refine S0 ?_)
    have hO := hO.pulls (As := [_, _, _, _]) (.cons (.tl _ (.tl _ (.hd _ _))) (.cons (.tl _ (.tl _ (.tl _ (.hd _ _)))) (.cons (.tl _ (.hd _ _)) (.cons (.hd _ _) (.nil _)))))
    have hO := Own.front (l := [_, _, _, _]) hO
    obtain ⟨Lx, hL2⟩ : ∃ Lx, Lx = L.take a ++ y ++ L.drop a := ⟨_, rfl⟩
    rw [← hL2] at hO ⊢
    refine c_rounds (X := Nat) (fun i => [(0, .pointer (some ⟨s, 0, none⟩)), (5, .slice pv y.length cv), (9, .int .i64 i)]) (fun i w => Own k w [rblk s (.slice q3 Lx.length d3) (.slice (some ⟨mb, mo, none⟩) (Ms ++ [(a : Int)]).length cm) cr o g, isl (.slice (some ⟨mb, mo, none⟩) (Ms ++ [(a : Int)]).length cm) (((Ms ++ [(a : Int)]).take i).map (· + (y.length : Int)) ++ (Ms ++ [(a : Int)]).drop i), rsl (.slice pv y.length cv) y, rsl (.slice q3 Lx.length d3) Lx] ∧ i ≤ (Ms ++ [(a : Int)]).length) (fun i => (Ms ++ [(a : Int)]).length - i) 0 ⟨rfl, rfl, rfl, trivial⟩ ⟨hO, Nat.zero_le _⟩ ?_
    clear hO
    rintro i w m hm ⟨hO, hi⟩
    by_cases hlt : i < (Ms ++ [(a : Int)]).length
    · obtain ⟨u, hu⟩ : ∃ u, (Ms ++ [(a : Int)])[i]? = some u := ⟨(Ms ++ [(a : Int)])[i], List.getElem?_eq_getElem hlt⟩
      have hub := hM u (List.mem_of_getElem? hu)
      obtain ⟨hg1, hg2⟩ := map_step (n := (y.length : Int)) hu
      repeat (first | (with_reducible first | refine K0 ?_ | refine K1 ?_ | refine K2 ?_ | refine K3 ?_ | refine K4 ?_ | refine K5 ?_ | refine K6 ?_ | refine K7 ?_ | refine K8 ?_ | refine K9 ?_ | refine L0 ?_ | refine L1 ?_ | refine L2 ?_ | refine L3 ?_ | refine L4 ?_ | refine L5 ?_ | refine L6 ?_) | refine Y0 hO rfl ?_ | refine Y1 hO rfl rfl (fun w hO => ?_) | refine Y2 hO rfl ?_ | refine Y3 hO rfl rfl (fun w hO => ?_) | refine l_y rfl rfl (y_index rfl rfl (by omega) (by omega)) ?_ | refine l_y rfl rfl (y_indexA rfl rfl (by omega) (by omega)) ?_ | refine L7 ?_ | refine L8 ?_ | refine L9 ?_ | refine M0 ?_ | refine M1 ?_ | refine M2 ?_ | refine M3 ?_ | refine M4 ?_ | refine M5 ?_ | refine M6 ?_ | refine M7 ?_ | refine M8 ?_ | refine M9 ?_ | refine N0 ?_ | refine N1 ?_ | refine N2 ?_ | refine N3 ?_ | refine N4 ?_ | refine N5 ?_ | refine N6 ?_ | refine N7 ?_ | refine N8 ?_ | refine N9 ?_ | refine R0 ?_ | refine R1 ?_ | refine R2 ?_ | refine R3 ?_ | refine R4 ?_ | refine R5 ?_ | refine R6 ?_ | refine R7 ?_ | refine R8 ?_ | refine R9 ?_ | refine S0 ?_)
      refine dc_start 16 (SO k [rblk s (.slice q3 Lx.length d3) (.slice (some ⟨mb, mo, none⟩) (Ms ++ [(a : Int)]).length cm) cr o g, isl (.slice (some ⟨mb, mo, none⟩) (Ms ++ [(a : Int)]).length cm) (((Ms ++ [(a : Int)]).take i).map (· + (y.length : Int)) ++ (Ms ++ [(a : Int)]).drop i)]) (by intro c a d v w h; cases d <;> exact h) (SO.of hO.drew (.cons (.hd _ _) (.cons (.hd _ _) (.nil _)))) ?_
      repeat (first | refine dc_y (by kernel_rfl) rfl rfl (fun w ⟨m, hw⟩ => by first | exact y_move rfl | exact y_assign rfl | exact y_nilCheck rfl rfl | exact y_fieldAddr_row rfl | exact y_fieldAddr rfl | exact y_lenL rfl | exact y_lenS rfl | exact y_extract rfl rfl | exact y_pick_t rfl rfl | exact y_pick_f rfl rfl | exact D5 hw rfl | exact D4 | exact D0 | exact D1 | exact D2 | exact D3 | exact D6 | exact D7 | exact y_index rfl rfl (by omega) (by omega) | exact y_indexA rfl rfl (by omega) (by omega) | exact D8 hw rfl | exact y_not rfl rfl | exact y_eqPnil rfl rfl rfl | exact y_nePnil rfl rfl rfl | exact y_convS rfl | exact y_eqB rfl rfl rfl | exact y_neB rfl rfl rfl) ?_ | refine dc_pass (by kernel_rfl) rfl rfl ?_)
      refine dc_y (by kernel_rfl) rfl rfl (fun w ⟨m, hw⟩ => y_load1 (v := .int .i64 u) rfl (by
        obtain ⟨b, q, hp, hH⟩ := (sl_sli hw (.tl _ (.hd _ _))).get (cuts_holds _) (iv_one _ _) (iv_get hg1)
        cases hp
        exact hH)) ?_
      repeat (first | refine dc_y (by kernel_rfl) rfl rfl (fun w ⟨m, hw⟩ => by first | exact y_move rfl | exact y_assign rfl | exact y_nilCheck rfl rfl | exact y_fieldAddr_row rfl | exact y_fieldAddr rfl | exact y_lenL rfl | exact y_lenS rfl | exact y_extract rfl rfl | exact y_pick_t rfl rfl | exact y_pick_f rfl rfl | exact D5 hw rfl | exact D4 | exact D0 | exact D1 | exact D2 | exact D3 | exact D6 | exact D7 | exact y_index rfl rfl (by omega) (by omega) | exact y_indexA rfl rfl (by omega) (by omega) | exact D8 hw rfl | exact y_not rfl rfl | exact y_eqPnil rfl rfl rfl | exact y_nePnil rfl rfl rfl | exact y_convS rfl | exact y_eqB rfl rfl rfl | exact y_neB rfl rfl rfl) ?_ | refine dc_pass (by kernel_rfl) rfl rfl ?_)
      have hO := hO.drew
      refine dc_last (by kernel_rfl) (by kernel_rfl) ?_
      obtain ⟨mb2, mo2, hp, hO⟩ := sl_arr (hO.pulls (As := [_, _, _, _]) (.cons (.tl _ (.hd _ _)) (.cons (.hd _ _) (.cons (.hd _ _) (.cons (.hd _ _) (.nil _)))))) hlt
      cases hp
      refine s_store1 hO rfl rfl rfl rfl rfl (.hd _ _ _) (Upd.ofArr1 (iv_get hg1) rfl) fun w hO => ?_
      refine l_nil (o_end ?_)
      have hO : Own k w (arr mb mo cm 3 1 ((iv .i64 (((Ms ++ [(a : Int)]).take i).map (· + (y.length : Int)) ++ (Ms ++ [(a : Int)]).drop i)).set i [.int .i64 (u + (y.length : Int))]) :: _) := hO
      rw [iv_set, hg2] at hO
      have hO := sl_shut (m := (Ms ++ [(a : Int)]).length) hO (by simp [iv_length]; omega)
      have hO := hO.pulls (As := [_, _, _, _]) (.cons (.tl _ (.hd _ _)) (.cons (.hd _ _) (.cons (.hd _ _) (.cons (.hd _ _) (.nil _)))))
      repeat (first | (with_reducible first | refine K0 ?_ | refine K1 ?_ | refine K2 ?_ | refine K3 ?_ | refine K4 ?_ | refine K5 ?_ | refine K6 ?_ | refine K7 ?_ | refine K8 ?_ | refine K9 ?_ | refine L0 ?_ | refine L1 ?_ | refine L2 ?_ | refine L3 ?_ | refine L4 ?_ | refine L5 ?_ | refine L6 ?_) | refine Y0 hO rfl ?_ | refine Y1 hO rfl rfl (fun w hO => ?_) | refine Y2 hO rfl ?_ | refine Y3 hO rfl rfl (fun w hO => ?_) | refine l_y rfl rfl (y_index rfl rfl (by omega) (by omega)) ?_ | refine l_y rfl rfl (y_indexA rfl rfl (by omega) (by omega)) ?_ | refine L7 ?_ | refine L8 ?_ | refine L9 ?_ | refine M0 ?_ | refine M1 ?_ | refine M2 ?_ | refine M3 ?_ | refine M4 ?_ | refine M5 ?_ | refine M6 ?_ | refine M7 ?_ | refine M8 ?_ | refine M9 ?_ | refine N0 ?_ | refine N1 ?_ | refine N2 ?_ | refine N3 ?_ | refine N4 ?_ | refine N5 ?_ | refine N6 ?_ | refine N7 ?_ | refine N8 ?_ | refine N9 ?_ | refine R0 ?_ | refine R1 ?_ | refine R2 ?_ | refine R3 ?_ | refine R4 ?_ | refine R5 ?_ | refine R6 ?_ | refine R7 ?_ | refine R8 ?_ | refine R9 ?_ | refine S0 ?_)
      exact q_next (i + 1) ⟨rfl, rfl, rfl, trivial⟩ ⟨hO, by omega⟩ (by omega)
    · rw [List.take_of_length_le (by omega), List.drop_of_length_le (by omega), List.append_nil] at hO
      repeat (first | (with_reducible first | refine K0 ?_ | refine K1 ?_ | refine K2 ?_ | refine K3 ?_ | refine K4 ?_ | refine K5 ?_ | refine K6 ?_ | refine K7 ?_ | refine K8 ?_ | refine K9 ?_ | refine L0 ?_ | refine L1 ?_ | refine L2 ?_ | refine L3 ?_ | refine L4 ?_ | refine L5 ?_ | refine L6 ?_) | refine Y0 hO rfl ?_ | refine Y1 hO rfl rfl (fun w hO => ?_) | refine Y2 hO rfl ?_ | refine Y3 hO rfl rfl (fun w hO => ?_) | refine l_y rfl rfl (y_index rfl rfl (by omega) (by omega)) ?_ | refine l_y rfl rfl (y_indexA rfl rfl (by omega) (by omega)) ?_ | refine L7 ?_ | refine L8 ?_ | refine L9 ?_ | refine M0 ?_ | refine M1 ?_ | refine M2 ?_ | refine M3 ?_ | refine M4 ?_ | refine M5 ?_ | refine M6 ?_ | refine M7 ?_ | refine M8 ?_ | refine M9 ?_ | refine N0 ?_ | refine N1 ?_ | refine N2 ?_ | refine N3 ?_ | refine N4 ?_ | refine N5 ?_ | refine N6 ?_ | refine N7 ?_ | refine N8 ?_ | refine N9 ?_ | refine R0 ?_ | refine R1 ?_ | refine R2 ?_ | refine R3 ?_ | refine R4 ?_ | refine R5 ?_ | refine R6 ?_ | refine R7 ?_ | refine R8 ?_ | refine R9 ?_ | refine S0 ?_)

      have hO := hO.pulls (As := [_, _, _]) (.cons (.hd _ _) (.cons (.tl _ (.tl _ (.hd _ _))) (.cons (.hd _ _) (.nil _))))
      exact fin1 rfl rfl ⟨_, ⟨rfl, rfl⟩, Own.front (l := [_]) (rst_shut hO rfl)⟩
  · rw [if_neg hroom]
    repeat (first | (with_reducible first | refine K0 ?_ | refine K1 ?_ | refine K2 ?_ | refine K3 ?_ | refine K4 ?_ | refine K5 ?_ | refine K6 ?_ | refine K7 ?_ | refine K8 ?_ | refine K9 ?_ | refine L0 ?_ | refine L1 ?_ | refine L2 ?_ | refine L3 ?_ | refine L4 ?_ | refine L5 ?_ | refine L6 ?_) | refine Y0 hO rfl ?_ | refine Y1 hO rfl rfl (fun w hO => ?_) | refine Y2 hO rfl ?_ | refine Y3 hO rfl rfl (fun w hO => ?_) | refine l_y rfl rfl (y_index rfl rfl (by omega) (by omega)) ?_ | refine l_y rfl rfl (y_indexA rfl rfl (by omega) (by omega)) ?_ | refine L7 ?_ | refine L8 ?_ | refine L9 ?_ | refine M0 ?_ | refine M1 ?_ | refine M2 ?_ | refine M3 ?_ | refine M4 ?_ | refine M5 ?_ | refine M6 ?_ | refine M7 ?_ | refine M8 ?_ | refine M9 ?_ | refine N0 ?_ | refine N1 ?_ | refine N2 ?_ | refine N3 ?_ | refine N4 ?_ | refine N5 ?_ | refine N6 ?_ | refine N7 ?_ | refine N8 ?_ | refine N9 ?_ | refine R0 ?_ | refine R1 ?_ | refine R2 ?_ | refine R3 ?_ | refine R4 ?_ | refine R5 ?_ | refine R6 ?_ | refine R7 ?_ | refine R8 ?_ | refine R9 ?_ | refine S0 ?_)
    exact fin1 rfl rfl ⟨_, ⟨rfl, rfl⟩, rst_shut hO rfl⟩
end Go.Proofs.Ytfpppopcdhihgaa
