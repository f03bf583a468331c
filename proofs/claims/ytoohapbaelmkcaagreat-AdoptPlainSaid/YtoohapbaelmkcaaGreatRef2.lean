/- The walks of the answer's arena: the makers; no condition. -/
import Derived.Test.YtoohapbaelmkcaaGreatRef1
set_option linter.unusedVariables false
set_option linter.unusedSimpArgs false
set_option maxRecDepth 100000
namespace Go.Proofs.YtoohapbaelmkcaaGreat
open Go Go.Hb Go.RowKit
def raddR (R : List Ref01_one) (o : Ref01_one) (ts : List ByteArray) : Int × Int × List Ref01_one := if longB ts = true then (0, 2, R) else if 32768 ≤ R.length then (0, 9, R) else (R.length, 0, R ++ [blankR o])
def textR (s : ByteArray) : Ref01_one := ⟨2, 0, ⟨#[]⟩, none, [], 0, s, ⟨#[]⟩, 0, 0, 0, none, [], 0⟩
def commentR (s : ByteArray) : Ref01_one := ⟨3, 0, ⟨#[]⟩, none, [], 0, s, ⟨#[]⟩, 0, 0, 0, none, [], 0⟩
def doctypeR (n p s : ByteArray) : Ref01_one := ⟨4, 0, n, none, [], 0, p, s, 0, 0, 0, none, [], 0⟩
def fragmentR : Ref01_one := ⟨5, 0, ⟨#[]⟩, none, [], 0, ⟨#[]⟩, ⟨#[]⟩, 0, 0, 0, none, [], 0⟩
def docR : Ref01_one := ⟨0, 0, ⟨#[]⟩, none, [], 0, ⟨#[]⟩, ⟨#[]⟩, -1, -1, -1, none, [], 0⟩
theorem rf_nil {F : Pl} {o : Ref01_one} (h1 : o.Attrs = []) (h2 : o.Kids = []) : RF1 F o := ⟨by rw [h1]; exact Sli.nil rfl, by rw [h2]; exact Sli.nil rfl⟩
theorem RF1.blank {F : Pl} {o : Ref01_one} (h : RF1 F o) : RF1 F (blankR o) := ⟨h.attrs, h.kids⟩
theorem rFragment_spec {k : Ctx} {w : World} {r : Nat} {R : List Ref01_one} (hc : R.length ≤ 32768) (hO : Own k w [rarL r R]) :
    Tri Tryz.prog 64 #[.pointer (some ⟨r, 0, none⟩)] k w fun v m => v = .tuple #[.int .i64 (raddR R fragmentR []).1, .int .i64 (raddR R fragmentR []).2.1] ∧ m = [rarL r (raddR R fragmentR []).2.2] := by
  refine enter (args := [.pointer (some ⟨r, 0, none⟩)]) Tryz.func64 rfl rfl ?_
  obtain ⟨p, c, F, hg, hF, hO⟩ := rarL_open hO
  have hc8 : longB [] = false := rfl
  refine K0 (K1 ?_)
  refine l_y rfl rfl (y_assign rfl) ?_
  refine l_y rfl rfl (y_assign rfl) ?_
  refine K2 (K3 (K0 (K1 ?_)))
  refine l_y rfl rfl (y_move rfl) ?_
  refine s_build (parts := [(0, .const (.int .i64 5))]) (cs := [.int .i64 5, .int .i64 0, .string ⟨#[]⟩, .slice none 0 0, .string ⟨#[]⟩, .string ⟨#[]⟩, .int .i64 0, .int .i64 0, .int .i64 0, .slice none 0 0]) rfl rfl (fun a ha => partsOf_sound ha _ _ rfl) (by kernel_rfl) ?_
  refine CK [.b r, .p p] hO rfl (fun k' hx hr hO' => radd_spec (o := (⟨5, 0, ⟨#[]⟩, none, [], 0, ⟨#[]⟩, ⟨#[]⟩, 0, 0, 0, none, [], 0⟩ : Ref01_one)) hc (hO := hO')) ?_
  rintro _ _ w (⟨h9, rfl, rfl⟩ | ⟨h9, rfl, p2, c2, rfl⟩) hO
  · simp only [List.cons_append, List.nil_append] at hO
    refine l_y rfl rfl (y_extract rfl rfl) ?_
    refine l_y rfl rfl (y_extract rfl rfl) ?_
    refine l_y rfl rfl (y_assign rfl) ?_
    refine l_y rfl rfl (y_assign rfl) ?_
    refine K2 (K3 (K6 ?_))
    have e : raddR R (fragmentR) [] = (0, 9, R) := by rw [raddR, if_neg (by rw [hc8]; simp), if_pos h9]
    exact fin2 rfl rfl rfl ⟨_, ⟨by rw [e], rfl⟩, by rw [e]; exact (rarL_shut hF (hO.ks [.b r, .p p, .f])).one⟩
  · simp only [List.cons_append, List.nil_append] at hO
    refine l_y rfl rfl (y_extract rfl rfl) ?_
    refine l_y rfl rfl (y_extract rfl rfl) ?_
    refine l_y rfl rfl (y_assign rfl) ?_
    refine l_y rfl rfl (y_assign rfl) ?_
    refine K2 (K3 (K6 ?_))
    have e : raddR R (fragmentR) [] = ((R.length : Int), 0, R ++ [blankR (fragmentR)]) := by rw [raddR, if_neg (by rw [hc8]; simp), if_neg (by omega)]
    exact fin2 rfl rfl rfl ⟨_, ⟨by rw [e], rfl⟩, by rw [e]; exact (rarL_shut (hF.app (rf_nil rfl rfl).blank) (hO.ks [.b r, .p p2, .f])).one⟩
theorem rNew_spec {k : Ctx} {w : World} (hO : Own k w []) : Tri Tryz.prog 25 #[] k w fun v m => ∃ r, v = .pointer (some ⟨r, 0, none⟩) ∧ m = [rarL r [docR]] := by
  refine enter (args := []) Tryz.func25 rfl rfl ?_
  have hO := hO.pool0
  refine K0 (K1 ?_)
  refine l_y rfl rfl (y_assign rfl) ?_
  refine K2 (K3 (K0 (K1 ?_)))
  refine s_build (parts := [(0, .const (.int .i64 0)), (6, .const (.int .i64 (-1))), (7, .const (.int .i64 (-1))), (8, .const (.int .i64 (-1)))]) (cs := [.int .i64 0, .int .i64 0, .string ⟨#[]⟩, .slice none 0 0, .string ⟨#[]⟩, .string ⟨#[]⟩, .int .i64 (-1), .int .i64 (-1), .int .i64 (-1), .slice none 0 0]) rfl rfl (fun a ha => partsOf_sound ha _ _ rfl) (by kernel_rfl) ?_
  refine s_lit (parts := [(0, .tmp 1)]) (enc := Ref01_one.cells) [⟨0, 0, ⟨#[]⟩, none, [], 0, ⟨#[]⟩, ⟨#[]⟩, (-1), (-1), (-1), none, [], 0⟩] [.agg [.int .i64 0, .int .i64 0, .string ⟨#[]⟩, .slice none 0 0, .string ⟨#[]⟩, .string ⟨#[]⟩, .int .i64 (-1), .int .i64 (-1), .int .i64 (-1), .slice none 0 0].toArray] hO rfl (fun b2 w hO => ?_)
  refine s_build (parts := [(0, .tmp 2)]) (cs := [.slice (some ⟨b2, 0, none⟩) 1 1]) rfl rfl (fun a ha => partsOf_sound ha _ _ rfl) (by kernel_rfl) ?_
  refine s_box (vs := [.slice (some ⟨b2, 0, none⟩) 1 1]) hO rfl rfl rfl (by rfl) fun b4 w hO => ?_
  refine l_y rfl rfl (y_assign rfl) ?_
  refine K2 (K3 (K6 ?_))
  exact fin1 rfl rfl ⟨_, ⟨_, rfl, rfl⟩, (rarL_shut (fun o ho => by rw [List.mem_singleton.1 ho]; exact rf_nil rfl rfl) (hO.ks [.b b4, .p (some ⟨b2, 0, none⟩), .f])).one⟩
end Go.Proofs.YtoohapbaelmkcaaGreat
