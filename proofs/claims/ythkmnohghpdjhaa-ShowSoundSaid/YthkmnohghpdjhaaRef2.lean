/- The walks of the answer's arena: the makers; no condition. -/
import Derived.Test.YthkmnohghpdjhaaRef1
set_option linter.unusedVariables false
set_option linter.unusedSimpArgs false
set_option maxRecDepth 100000
namespace Go.Proofs.Ythkmnohghpdjhaa
open Go Go.Hb Go.RowKit
def raddR (R : List Ref01_one) (o : Ref01_one) (ts : List ByteArray) : Int × Int × List Ref01_one := if longB ts = true then (0, 2, R) else if 32768 ≤ R.length then (0, 9, R) else (R.length, 0, R ++ [blankR o])
def textR (s : ByteArray) : Ref01_one := ⟨2, 0, ⟨#[]⟩, none, [], 0, s, ⟨#[]⟩, 0, 0, 0, none, [], 0⟩
def commentR (s : ByteArray) : Ref01_one := ⟨3, 0, ⟨#[]⟩, none, [], 0, s, ⟨#[]⟩, 0, 0, 0, none, [], 0⟩
def doctypeR (n p s : ByteArray) : Ref01_one := ⟨4, 0, n, none, [], 0, p, s, 0, 0, 0, none, [], 0⟩
def fragmentR : Ref01_one := ⟨5, 0, ⟨#[]⟩, none, [], 0, ⟨#[]⟩, ⟨#[]⟩, 0, 0, 0, none, [], 0⟩
def docR : Ref01_one := ⟨0, 0, ⟨#[]⟩, none, [], 0, ⟨#[]⟩, ⟨#[]⟩, -1, -1, -1, none, [], 0⟩
theorem rf_nil {F : Pl} {o : Ref01_one} (h1 : o.Attrs = []) (h2 : o.Kids = []) : RF1 F o := ⟨by rw [h1]; exact Sli.nil rfl, by rw [h2]; exact Sli.nil rfl⟩
theorem RF1.blank {F : Pl} {o : Ref01_one} (h : RF1 F o) : RF1 F (blankR o) := ⟨h.attrs, h.kids⟩
theorem rText_spec {k : Ctx} {w : World} {r : Nat} {R : List Ref01_one} {s : ByteArray} (hc : R.length ≤ 32768) (hO : Own k w [rarL r R]) :
    Tri Try.prog 42 #[.pointer (some ⟨r, 0, none⟩), .string s] k w fun v m => v = .tuple #[.int .i64 (raddR R (textR s) [s]).1, .int .i64 (raddR R (textR s) [s]).2.1] ∧ m = [rarL r (raddR R (textR s) [s]).2.2] := by
  refine enter (args := [.pointer (some ⟨r, 0, none⟩), .string s]) Try.func42 rfl rfl ?_
  obtain ⟨p, c, F, hg, hF, hO⟩ := rarL_open hO
  refine K0 (K1 ?_)
  refine l_y rfl rfl (y_assign rfl) ?_
  refine l_y rfl rfl (y_assign rfl) ?_
  refine K2 (K3 (K0 (K0 (K1 ?_))))
  refine l_y rfl rfl (y_move rfl) ?_
  refine s_lit (parts := [(0, .tmp 6)]) (enc := eS) [s] [.string s] hO rfl (fun b7 w hO => ?_)
  refine CK [] hO rfl (fun k' hx hr hO' => rlong_spec (ts := [s]) (sls_roK (p := some ⟨b7, 0, none⟩) hr (sls_fct hO)) (by simp) (hO := hO')) ?_
  rintro _ _ w ⟨rfl, rfl⟩ hO
  simp only [List.nil_append] at hO
  refine K2 (K3 ?_)
  refine c_split rfl (fun hc8 => ?_) (fun hc8 => ?_)
  · refine K0 (K1 ?_)
    refine l_y rfl rfl (y_assign rfl) ?_
    refine l_y rfl rfl (y_assign rfl) ?_
    refine K2 (K3 (K6 (K9 ?_)))
    have e : raddR R (textR s) [s] = (0, 2, R) := by rw [raddR, if_pos hc8]
    exact fin2 rfl rfl rfl ⟨_, ⟨by rw [e], rfl⟩, by rw [e]; exact (rarL_shut hF (hO.ks [.b r, .p p, .f])).one⟩
  · refine K5 (K3 (K0 (K1 ?_)))
    refine l_y rfl rfl (y_move rfl) ?_
    refine l_y rfl rfl (y_move rfl) ?_
    refine s_build (parts := [(0, .const (.int .i64 2)), (4, .tmp 10)]) (cs := [.int .i64 2, .int .i64 0, .string ⟨#[]⟩, .slice none 0 0, .string s, .string ⟨#[]⟩, .int .i64 0, .int .i64 0, .int .i64 0, .slice none 0 0]) rfl rfl (fun a ha => partsOf_sound ha _ _ rfl) (by kernel_rfl) ?_
    refine CK [.b r, .p p] hO rfl (fun k' hx hr hO' => radd_spec (o := (⟨2, 0, ⟨#[]⟩, none, [], 0, s, ⟨#[]⟩, 0, 0, 0, none, [], 0⟩ : Ref01_one)) hc (hO := hO')) ?_
    rintro _ _ w (⟨h9, rfl, rfl⟩ | ⟨h9, rfl, p2, c2, rfl⟩) hO
    · simp only [List.cons_append, List.nil_append] at hO
      refine l_y rfl rfl (y_extract rfl rfl) ?_
      refine l_y rfl rfl (y_extract rfl rfl) ?_
      refine l_y rfl rfl (y_assign rfl) ?_
      refine l_y rfl rfl (y_assign rfl) ?_
      refine K2 (K3 (K6 ?_))
      have e : raddR R (textR s) [s] = (0, 9, R) := by rw [raddR, if_neg (by rw [hc8]; simp), if_pos h9]
      exact fin2 rfl rfl rfl ⟨_, ⟨by rw [e], rfl⟩, by rw [e]; exact (rarL_shut hF (hO.ks [.b r, .p p, .f])).one⟩
    · simp only [List.cons_append, List.nil_append] at hO
      refine l_y rfl rfl (y_extract rfl rfl) ?_
      refine l_y rfl rfl (y_extract rfl rfl) ?_
      refine l_y rfl rfl (y_assign rfl) ?_
      refine l_y rfl rfl (y_assign rfl) ?_
      refine K2 (K3 (K6 ?_))
      have e : raddR R (textR s) [s] = ((R.length : Int), 0, R ++ [blankR (textR s)]) := by rw [raddR, if_neg (by rw [hc8]; simp), if_neg (by omega)]
      exact fin2 rfl rfl rfl ⟨_, ⟨by rw [e], rfl⟩, by rw [e]; exact (rarL_shut (hF.app (rf_nil rfl rfl).blank) (hO.ks [.b r, .p p2, .f])).one⟩
theorem rComment_spec {k : Ctx} {w : World} {r : Nat} {R : List Ref01_one} {s : ByteArray} (hc : R.length ≤ 32768) (hO : Own k w [rarL r R]) :
    Tri Try.prog 44 #[.pointer (some ⟨r, 0, none⟩), .string s] k w fun v m => v = .tuple #[.int .i64 (raddR R (commentR s) [s]).1, .int .i64 (raddR R (commentR s) [s]).2.1] ∧ m = [rarL r (raddR R (commentR s) [s]).2.2] := by
  refine enter (args := [.pointer (some ⟨r, 0, none⟩), .string s]) Try.func44 rfl rfl ?_
  obtain ⟨p, c, F, hg, hF, hO⟩ := rarL_open hO
  refine K0 (K1 ?_)
  refine l_y rfl rfl (y_assign rfl) ?_
  refine l_y rfl rfl (y_assign rfl) ?_
  refine K2 (K3 (K0 (K0 (K1 ?_))))
  refine l_y rfl rfl (y_move rfl) ?_
  refine s_lit (parts := [(0, .tmp 6)]) (enc := eS) [s] [.string s] hO rfl (fun b7 w hO => ?_)
  refine CK [] hO rfl (fun k' hx hr hO' => rlong_spec (ts := [s]) (sls_roK (p := some ⟨b7, 0, none⟩) hr (sls_fct hO)) (by simp) (hO := hO')) ?_
  rintro _ _ w ⟨rfl, rfl⟩ hO
  simp only [List.nil_append] at hO
  refine K2 (K3 ?_)
  refine c_split rfl (fun hc8 => ?_) (fun hc8 => ?_)
  · refine K0 (K1 ?_)
    refine l_y rfl rfl (y_assign rfl) ?_
    refine l_y rfl rfl (y_assign rfl) ?_
    refine K2 (K3 (K6 (K9 ?_)))
    have e : raddR R (commentR s) [s] = (0, 2, R) := by rw [raddR, if_pos hc8]
    exact fin2 rfl rfl rfl ⟨_, ⟨by rw [e], rfl⟩, by rw [e]; exact (rarL_shut hF (hO.ks [.b r, .p p, .f])).one⟩
  · refine K5 (K3 (K0 (K1 ?_)))
    refine l_y rfl rfl (y_move rfl) ?_
    refine l_y rfl rfl (y_move rfl) ?_
    refine s_build (parts := [(0, .const (.int .i64 3)), (4, .tmp 10)]) (cs := [.int .i64 3, .int .i64 0, .string ⟨#[]⟩, .slice none 0 0, .string s, .string ⟨#[]⟩, .int .i64 0, .int .i64 0, .int .i64 0, .slice none 0 0]) rfl rfl (fun a ha => partsOf_sound ha _ _ rfl) (by kernel_rfl) ?_
    refine CK [.b r, .p p] hO rfl (fun k' hx hr hO' => radd_spec (o := (⟨3, 0, ⟨#[]⟩, none, [], 0, s, ⟨#[]⟩, 0, 0, 0, none, [], 0⟩ : Ref01_one)) hc (hO := hO')) ?_
    rintro _ _ w (⟨h9, rfl, rfl⟩ | ⟨h9, rfl, p2, c2, rfl⟩) hO
    · simp only [List.cons_append, List.nil_append] at hO
      refine l_y rfl rfl (y_extract rfl rfl) ?_
      refine l_y rfl rfl (y_extract rfl rfl) ?_
      refine l_y rfl rfl (y_assign rfl) ?_
      refine l_y rfl rfl (y_assign rfl) ?_
      refine K2 (K3 (K6 ?_))
      have e : raddR R (commentR s) [s] = (0, 9, R) := by rw [raddR, if_neg (by rw [hc8]; simp), if_pos h9]
      exact fin2 rfl rfl rfl ⟨_, ⟨by rw [e], rfl⟩, by rw [e]; exact (rarL_shut hF (hO.ks [.b r, .p p, .f])).one⟩
    · simp only [List.cons_append, List.nil_append] at hO
      refine l_y rfl rfl (y_extract rfl rfl) ?_
      refine l_y rfl rfl (y_extract rfl rfl) ?_
      refine l_y rfl rfl (y_assign rfl) ?_
      refine l_y rfl rfl (y_assign rfl) ?_
      refine K2 (K3 (K6 ?_))
      have e : raddR R (commentR s) [s] = ((R.length : Int), 0, R ++ [blankR (commentR s)]) := by rw [raddR, if_neg (by rw [hc8]; simp), if_neg (by omega)]
      exact fin2 rfl rfl rfl ⟨_, ⟨by rw [e], rfl⟩, by rw [e]; exact (rarL_shut (hF.app (rf_nil rfl rfl).blank) (hO.ks [.b r, .p p2, .f])).one⟩
theorem rDoctype_spec {k : Ctx} {w : World} {r : Nat} {R : List Ref01_one} {s1 s2 s3 : ByteArray} (hc : R.length ≤ 32768) (hO : Own k w [rarL r R]) :
    Tri Try.prog 46 #[.pointer (some ⟨r, 0, none⟩), .string s1, .string s2, .string s3] k w fun v m => v = .tuple #[.int .i64 (raddR R (doctypeR s1 s2 s3) [s1, s2, s3]).1, .int .i64 (raddR R (doctypeR s1 s2 s3) [s1, s2, s3]).2.1] ∧ m = [rarL r (raddR R (doctypeR s1 s2 s3) [s1, s2, s3]).2.2] := by
  refine enter (args := [.pointer (some ⟨r, 0, none⟩), .string s1, .string s2, .string s3]) Try.func46 rfl rfl ?_
  obtain ⟨p, c, F, hg, hF, hO⟩ := rarL_open hO
  refine K0 (K1 ?_)
  refine l_y rfl rfl (y_assign rfl) ?_
  refine l_y rfl rfl (y_assign rfl) ?_
  refine K2 (K3 (K0 (K0 (K1 ?_))))
  refine l_y rfl rfl (y_move rfl) ?_
  refine l_y rfl rfl (y_move rfl) ?_
  refine l_y rfl rfl (y_move rfl) ?_
  refine s_lit (parts := [(0, .tmp 10), (1, .tmp 11), (2, .tmp 12)]) (enc := eS) [s1, s2, s3] [.string s1, .string s2, .string s3] hO rfl (fun b13 w hO => ?_)
  refine CK [] hO rfl (fun k' hx hr hO' => rlong_spec (ts := [s1, s2, s3]) (sls_roK (p := some ⟨b13, 0, none⟩) hr (sls_fct hO)) (by simp) (hO := hO')) ?_
  rintro _ _ w ⟨rfl, rfl⟩ hO
  simp only [List.nil_append] at hO
  refine K2 (K3 ?_)
  refine c_split rfl (fun hc14 => ?_) (fun hc14 => ?_)
  · refine K0 (K1 ?_)
    refine l_y rfl rfl (y_assign rfl) ?_
    refine l_y rfl rfl (y_assign rfl) ?_
    refine K2 (K3 (K6 (K9 ?_)))
    have e : raddR R (doctypeR s1 s2 s3) [s1, s2, s3] = (0, 2, R) := by rw [raddR, if_pos hc14]
    exact fin2 rfl rfl rfl ⟨_, ⟨by rw [e], rfl⟩, by rw [e]; exact (rarL_shut hF (hO.ks [.b r, .p p, .f])).one⟩
  · refine K5 (K3 (K0 (K1 ?_)))
    refine l_y rfl rfl (y_move rfl) ?_
    refine l_y rfl rfl (y_move rfl) ?_
    refine l_y rfl rfl (y_move rfl) ?_
    refine l_y rfl rfl (y_move rfl) ?_
    refine s_build (parts := [(0, .const (.int .i64 4)), (2, .tmp 16), (4, .tmp 17), (5, .tmp 18)]) (cs := [.int .i64 4, .int .i64 0, .string s1, .slice none 0 0, .string s2, .string s3, .int .i64 0, .int .i64 0, .int .i64 0, .slice none 0 0]) rfl rfl (fun a ha => partsOf_sound ha _ _ rfl) (by kernel_rfl) ?_
    refine CK [.b r, .p p] hO rfl (fun k' hx hr hO' => radd_spec (o := (⟨4, 0, s1, none, [], 0, s2, s3, 0, 0, 0, none, [], 0⟩ : Ref01_one)) hc (hO := hO')) ?_
    rintro _ _ w (⟨h9, rfl, rfl⟩ | ⟨h9, rfl, p2, c2, rfl⟩) hO
    · simp only [List.cons_append, List.nil_append] at hO
      refine l_y rfl rfl (y_extract rfl rfl) ?_
      refine l_y rfl rfl (y_extract rfl rfl) ?_
      refine l_y rfl rfl (y_assign rfl) ?_
      refine l_y rfl rfl (y_assign rfl) ?_
      refine K2 (K3 (K6 ?_))
      have e : raddR R (doctypeR s1 s2 s3) [s1, s2, s3] = (0, 9, R) := by rw [raddR, if_neg (by rw [hc14]; simp), if_pos h9]
      exact fin2 rfl rfl rfl ⟨_, ⟨by rw [e], rfl⟩, by rw [e]; exact (rarL_shut hF (hO.ks [.b r, .p p, .f])).one⟩
    · simp only [List.cons_append, List.nil_append] at hO
      refine l_y rfl rfl (y_extract rfl rfl) ?_
      refine l_y rfl rfl (y_extract rfl rfl) ?_
      refine l_y rfl rfl (y_assign rfl) ?_
      refine l_y rfl rfl (y_assign rfl) ?_
      refine K2 (K3 (K6 ?_))
      have e : raddR R (doctypeR s1 s2 s3) [s1, s2, s3] = ((R.length : Int), 0, R ++ [blankR (doctypeR s1 s2 s3)]) := by rw [raddR, if_neg (by rw [hc14]; simp), if_neg (by omega)]
      exact fin2 rfl rfl rfl ⟨_, ⟨by rw [e], rfl⟩, by rw [e]; exact (rarL_shut (hF.app (rf_nil rfl rfl).blank) (hO.ks [.b r, .p p2, .f])).one⟩
theorem rFragment_spec {k : Ctx} {w : World} {r : Nat} {R : List Ref01_one} (hc : R.length ≤ 32768) (hO : Own k w [rarL r R]) :
    Tri Try.prog 47 #[.pointer (some ⟨r, 0, none⟩)] k w fun v m => v = .tuple #[.int .i64 (raddR R fragmentR []).1, .int .i64 (raddR R fragmentR []).2.1] ∧ m = [rarL r (raddR R fragmentR []).2.2] := by
  refine enter (args := [.pointer (some ⟨r, 0, none⟩)]) Try.func47 rfl rfl ?_
  obtain ⟨p, c, F, hg, hF, hO⟩ := rarL_open hO
  have hc8 : longB [] = false := rfl
  refine K0 (K1 ?_)
  refine l_y rfl rfl (y_assign rfl) ?_
  refine l_y rfl rfl (y_assign rfl) ?_
  refine K2 (K3 (K0 (K1 ?_)))
  refine l_y rfl rfl (y_move rfl) ?_
  refine s_build (parts := [(0, .const (.int .i64 5))]) (cs := [.int .i64 5, .int .i64 0, .string ⟨#[]⟩, .slice none 0 0, .string ⟨#[]⟩, .string ⟨#[]⟩, .int .i64 0, .int .i64 0, .int .i64 0, .slice none 0 0]) rfl rfl (fun a ha => partsOf_sound ha _ _ rfl) (by kernel_rfl) ?_
  refine CK [.b r, .p p] hO rfl (fun k' hx hr hO' => radd_spec (o := (⟨5, 0, ⟨#[]⟩, none, [], 0, ⟨#[]⟩, ⟨#[]⟩, 0, 0, 0, none, [], 0⟩ : Ref01_one)) hc (hO := hO')) ?_
  rintro _ _ w (⟨h9, rfl, rfl⟩ | ⟨h9, rfl, p2, c2, rfl⟩) hO
  · simp only [List.cons_append, List.nil_append] at hO
    refine l_y rfl rfl (y_extract rfl rfl) ?_
    refine l_y rfl rfl (y_extract rfl rfl) ?_
    refine l_y rfl rfl (y_assign rfl) ?_
    refine l_y rfl rfl (y_assign rfl) ?_
    refine K2 (K3 (K6 ?_))
    have e : raddR R (fragmentR) [] = (0, 9, R) := by rw [raddR, if_neg (by rw [hc8]; simp), if_pos h9]
    exact fin2 rfl rfl rfl ⟨_, ⟨by rw [e], rfl⟩, by rw [e]; exact (rarL_shut hF (hO.ks [.b r, .p p, .f])).one⟩
  · simp only [List.cons_append, List.nil_append] at hO
    refine l_y rfl rfl (y_extract rfl rfl) ?_
    refine l_y rfl rfl (y_extract rfl rfl) ?_
    refine l_y rfl rfl (y_assign rfl) ?_
    refine l_y rfl rfl (y_assign rfl) ?_
    refine K2 (K3 (K6 ?_))
    have e : raddR R (fragmentR) [] = ((R.length : Int), 0, R ++ [blankR (fragmentR)]) := by rw [raddR, if_neg (by rw [hc8]; simp), if_neg (by omega)]
    exact fin2 rfl rfl rfl ⟨_, ⟨by rw [e], rfl⟩, by rw [e]; exact (rarL_shut (hF.app (rf_nil rfl rfl).blank) (hO.ks [.b r, .p p2, .f])).one⟩
theorem rNew_spec {k : Ctx} {w : World} (hO : Own k w []) : Tri Try.prog 40 #[] k w fun v m => ∃ r, v = .pointer (some ⟨r, 0, none⟩) ∧ m = [rarL r [docR]] := by
  refine enter (args := []) Try.func40 rfl rfl ?_
  have hO := hO.pool0
  refine K0 (K1 ?_)
  refine l_y rfl rfl (y_assign rfl) ?_
  refine K2 (K3 (K0 (K1 ?_)))
  refine s_build (parts := [(0, .const (.int .i64 0)), (6, .const (.int .i64 (-1))), (7, .const (.int .i64 (-1))), (8, .const (.int .i64 (-1)))]) (cs := [.int .i64 0, .int .i64 0, .string ⟨#[]⟩, .slice none 0 0, .string ⟨#[]⟩, .string ⟨#[]⟩, .int .i64 (-1), .int .i64 (-1), .int .i64 (-1), .slice none 0 0]) rfl rfl (fun a ha => partsOf_sound ha _ _ rfl) (by kernel_rfl) ?_
  refine s_lit (parts := [(0, .tmp 1)]) (enc := Ref01_one.cells) [⟨0, 0, ⟨#[]⟩, none, [], 0, ⟨#[]⟩, ⟨#[]⟩, (-1), (-1), (-1), none, [], 0⟩] [.agg [.int .i64 0, .int .i64 0, .string ⟨#[]⟩, .slice none 0 0, .string ⟨#[]⟩, .string ⟨#[]⟩, .int .i64 (-1), .int .i64 (-1), .int .i64 (-1), .slice none 0 0].toArray] hO rfl (fun b2 w hO => ?_)
  refine s_build (parts := [(0, .tmp 2)]) (cs := [.slice (some ⟨b2, 0, none⟩) 1 1]) rfl rfl (fun a ha => partsOf_sound ha _ _ rfl) (by kernel_rfl) ?_
  refine s_box (vs := [.slice (some ⟨b2, 0, none⟩) 1 1]) hO rfl rfl rfl (by rfl) fun b4 w hO => ?_
  refine l_y rfl rfl (y_assign rfl) ?_
  refine K2 (K3 (K6 ?_))
  exact fin1 rfl rfl ⟨_, ⟨_, rfl, rfl⟩, (rarL_shut (fun o ho => by rw [List.mem_singleton.1 ho]; exact rf_nil rfl rfl) (hO.ks [.b b4, .p (some ⟨b2, 0, none⟩), .f])).one⟩
end Go.Proofs.Ythkmnohghpdjhaa
