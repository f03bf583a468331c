/- The walks of the stack's scopes; no condition. -/
import Derived.Test.YtoohapbaelmkcaaGreatStk2
set_option linter.unusedVariables false
set_option linter.unusedSimpArgs false
set_option maxRecDepth 100000
namespace Go.Proofs.YtoohapbaelmkcaaGreat
open Go Go.Hb Go.RowKit
def inB (s : ByteArray) (ts : List ByteArray) : Bool := ts.any fun t => decide (s = t)
def namB (sp : Int) (nm : ByteArray) (ts : List ByteArray) : Bool := decide (sp = 0) && inB nm ts
theorem sin_spec {k : Ctx} {w : World} {x : ByteArray} {ts : List ByteArray} {tp : Option Addr} {n tc : Nat} (hs : Sli (Ro k) (.slice tp n tc) (ts.map eS)) (hl : ts.length ≤ 1000000) (hO : Own k w []) :
    Tri Tryz.prog 122 #[.string x, .slice tp n tc] k w fun v m => v = .bool (inB x ts) ∧ m = [] := by
  obtain rfl : n = ts.length := by have := hs.fits.1; simpa using this
  refine enter (args := [.string x, .slice tp ts.length tc]) Tryz.func122 rfl rfl ?_
  have hgs := sli_gs hs
  refine K0 (K1 ?_)
  refine l_y rfl rfl (y_assign rfl) ?_
  refine K2 (K3 (K0 (K0 (K1 ?_))))
  refine l_y rfl rfl (y_move rfl) ?_
  refine l_y rfl rfl (y_lenL rfl) ?_
  refine l_y rfl rfl (y_move rfl) ?_
  refine K2 (K3 (K4 ?_))
  refine c_rounds (X := Nat) (fun i => [(0, .string x), (4, .bool false), (7, .slice tp ts.length tc), (8, .int .i64 ((ts.length : Nat) : Int)), (9, .int .i64 (i : Int))]) (fun i w => Own k w [] ∧ (i ≤ ts.length ∧ inB x (ts.take i) = false)) (fun i => ts.length - i) (0) ⟨rfl, rfl, rfl, rfl, rfl, trivial⟩ ⟨hO.only [], ⟨Nat.zero_le _, rfl⟩⟩ ?_
  rintro i w m hm ⟨hO, hi⟩
  refine K0 (K1 ?_)
  refine Z0 (fun h2_0 => ?_) (fun h2_0 => ?_)
  · refine K2 (K3 (K0 (L8 (K5 (K3 (K0 (K4 (K0 (K1 ?_)))))))))
    refine l_y rfl rfl (y_idx rfl rfl) ?_
    refine l_y rfl rfl (y_r1 (x0 := 0) (enc := eS) (xs := ts) hO rfl) ?_
    refine l_y rfl rfl (y_assign rfl) ?_
    refine K2 (K3 (K0 (K1 ?_)))
    refine l_y rfl rfl (y_move rfl) ?_
    refine l_y rfl rfl (y_move rfl) ?_
    refine Z2 (fun h4_2 => ?_) (fun h4_2 => ?_)
    · refine K2 (K3 (L8 (K0 (K1 ?_))))
      refine l_y rfl rfl (y_assign rfl) ?_
      refine K2 (K3 (K6 (L0 (K9 (K9 (L0 (K9 ?_)))))))
      have hlt : inB x ts = true := List.any_eq_true.2 ⟨at_ ts i, at_mem (by omega), decide_eq_true h4_2⟩
      exact fin1 rfl rfl ⟨_, ⟨by rw [hlt], rfl⟩, hO⟩
    · refine K2 (K3 (L9 (K5 (K8 (K3 (K1 ?_))))))
      refine l_y rfl rfl (D4) ?_
      refine l_y rfl rfl (y_move rfl) ?_
      refine K2 ?_
      exact q_next (i + 1) ⟨rfl, rfl, rfl, rfl, rfl, trivial⟩ ⟨hO.only [], ⟨by omega, by rw [take_succ_at (by omega), inB, List.any_append]; simp only [List.any_cons, List.any_nil, Bool.or_false, Bool.or_eq_false_iff]; exact ⟨hi.2, decide_eq_false h4_2⟩⟩⟩ (by omega)
  · refine K2 (K3 (K0 (L9 (K7 (L1 (L1 (L2 (K3 (K0 (K1 ?_))))))))))
    refine l_y rfl rfl (y_assign rfl) ?_
    refine K2 (K3 (K6 ?_))
    have hlf : inB x ts = false := by rw [show ts = ts.take i by rw [List.take_of_length_le (by omega)]]; exact hi.2
    exact fin1 rfl rfl ⟨_, ⟨by rw [hlf], rfl⟩, hO⟩
theorem named_spec {k : Ctx} {w : World} {n : Api_node} {ts : List ByteArray} {tp : Option Addr} {tn tc : Nat} (hs : Sli (Ro k) (.slice tp tn tc) (ts.map eS)) (hl : ts.length ≤ 1000000) (hO : Own k w []) :
    Tri Tryz.prog 139 #[.agg (Api_node.cells n).toArray, .slice tp tn tc] k w fun v m => v = .bool (namB n.Space n.Name ts) ∧ m = [] := by
  refine enter (args := [.agg (Api_node.cells n).toArray, .slice tp tn tc]) Tryz.func139 rfl rfl ?_
  refine K0 (K1 ?_)
  refine s_box (vs := [.int .i64 n.Kind, .int .i64 n.Space, .string n.Name, .slice n.AttrsP n.Attrs.length n.AttrsC, .string n.Data, .string n.System, .int .i64 n.Parent, .int .i64 n.First, .int .i64 n.Last, .int .i64 n.Prev, .int .i64 n.Next, .int .i64 n.Inner]) hO rfl rfl rfl (by rfl) fun b2 w hO => ?_
  refine l_y rfl rfl (y_assign rfl) ?_
  refine K2 (K3 (K0 (K1 ?_)))
  refine l_y rfl rfl (y_fldb (o' := 1) rfl) ?_
  refine l_y rfl rfl (D5 hO rfl) ?_
  refine Z0 (fun h1_2 => ?_) (fun h1_2 => ?_)
  · refine l_y rfl rfl (y_move rfl) ?_
    refine l_y rfl rfl (y_fldb (o' := 2) rfl) ?_
    refine l_y rfl rfl (D5 hO rfl) ?_
    refine l_y rfl rfl (y_move rfl) ?_
    refine CK [] hO rfl (fun k' hx hr hO' => sin_spec (hs.ext hO hx) hl (hO := hO')) ?_
    rintro _ _ w ⟨rfl, rfl⟩ hO
    refine l_y rfl rfl (y_pick_t rfl rfl) ?_
    refine l_y rfl rfl (y_assign rfl) ?_
    refine K2 (K3 (K6 ?_))
    refine fin1 rfl rfl ⟨_, ⟨?_, rfl⟩, hO.none⟩
    simp [namB, *]
  · refine l_y rfl rfl (y_move rfl) ?_
    repeat refine M2 ?_
    refine l_y rfl rfl (y_pick_f rfl rfl) ?_
    refine l_y rfl rfl (y_assign rfl) ?_
    refine K2 (K3 (K6 ?_))
    refine fin1 rfl rfl ⟨_, ⟨?_, rfl⟩, hO.none⟩
    simp [namB, *]
def mathL : List ByteArray := [⟨#[109, 105]⟩, ⟨#[109, 111]⟩, ⟨#[109, 110]⟩, ⟨#[109, 115]⟩, ⟨#[109, 116, 101, 120, 116]⟩, ⟨#[97, 110, 110, 111, 116, 97, 116, 105, 111, 110, 45, 120, 109, 108]⟩]
def drawL : List ByteArray := [⟨#[102, 111, 114, 101, 105, 103, 110, 79, 98, 106, 101, 99, 116]⟩, ⟨#[100, 101, 115, 99]⟩, ⟨#[116, 105, 116, 108, 101]⟩]
def bordL : List ByteArray := [⟨#[97, 112, 112, 108, 101, 116]⟩, ⟨#[99, 97, 112, 116, 105, 111, 110]⟩, ⟨#[104, 116, 109, 108]⟩, ⟨#[116, 97, 98, 108, 101]⟩, ⟨#[116, 100]⟩, ⟨#[116, 104]⟩, ⟨#[109, 97, 114, 113, 117, 101, 101]⟩, ⟨#[111, 98, 106, 101, 99, 116]⟩, ⟨#[116, 101, 109, 112, 108, 97, 116, 101]⟩]
def implL : List ByteArray := [⟨#[100, 100]⟩, ⟨#[100, 116]⟩, ⟨#[108, 105]⟩, ⟨#[111, 112, 116, 103, 114, 111, 117, 112]⟩, ⟨#[111, 112, 116, 105, 111, 110]⟩, ⟨#[112]⟩, ⟨#[114, 98]⟩, ⟨#[114, 112]⟩, ⟨#[114, 116]⟩, ⟨#[114, 116, 99]⟩]
def thorL : List ByteArray := [⟨#[99, 97, 112, 116, 105, 111, 110]⟩, ⟨#[99, 111, 108, 103, 114, 111, 117, 112]⟩, ⟨#[116, 98, 111, 100, 121]⟩, ⟨#[116, 100]⟩, ⟨#[116, 102, 111, 111, 116]⟩, ⟨#[116, 104]⟩, ⟨#[116, 104, 101, 97, 100]⟩, ⟨#[116, 114]⟩]
def specL : List ByteArray := [⟨#[97, 100, 100, 114, 101, 115, 115]⟩, ⟨#[97, 112, 112, 108, 101, 116]⟩, ⟨#[97, 114, 101, 97]⟩, ⟨#[97, 114, 116, 105, 99, 108, 101]⟩, ⟨#[97, 115, 105, 100, 101]⟩, ⟨#[98, 97, 115, 101]⟩, ⟨#[98, 97, 115, 101, 102, 111, 110, 116]⟩, ⟨#[98, 103, 115, 111, 117, 110, 100]⟩, ⟨#[98, 108, 111, 99, 107, 113, 117, 111, 116, 101]⟩, ⟨#[98, 111, 100, 121]⟩, ⟨#[98, 114]⟩, ⟨#[98, 117, 116, 116, 111, 110]⟩, ⟨#[99, 97, 112, 116, 105, 111, 110]⟩, ⟨#[99, 101, 110, 116, 101, 114]⟩, ⟨#[99, 111, 108]⟩, ⟨#[99, 111, 108, 103, 114, 111, 117, 112]⟩, ⟨#[100, 100]⟩, ⟨#[100, 101, 116, 97, 105, 108, 115]⟩, ⟨#[100, 105, 114]⟩, ⟨#[100, 105, 118]⟩, ⟨#[100, 108]⟩, ⟨#[100, 116]⟩, ⟨#[101, 109, 98, 101, 100]⟩, ⟨#[102, 105, 101, 108, 100, 115, 101, 116]⟩, ⟨#[102, 105, 103, 99, 97, 112, 116, 105, 111, 110]⟩, ⟨#[102, 105, 103, 117, 114, 101]⟩, ⟨#[102, 111, 111, 116, 101, 114]⟩, ⟨#[102, 111, 114, 109]⟩, ⟨#[102, 114, 97, 109, 101]⟩, ⟨#[102, 114, 97, 109, 101, 115, 101, 116]⟩, ⟨#[104, 49]⟩, ⟨#[104, 50]⟩, ⟨#[104, 51]⟩, ⟨#[104, 52]⟩, ⟨#[104, 53]⟩, ⟨#[104, 54]⟩, ⟨#[104, 101, 97, 100]⟩, ⟨#[104, 101, 97, 100, 101, 114]⟩, ⟨#[104, 103, 114, 111, 117, 112]⟩, ⟨#[104, 114]⟩, ⟨#[104, 116, 109, 108]⟩, ⟨#[105, 102, 114, 97, 109, 101]⟩, ⟨#[105, 109, 103]⟩, ⟨#[105, 110, 112, 117, 116]⟩, ⟨#[107, 101, 121, 103, 101, 110]⟩, ⟨#[108, 105]⟩, ⟨#[108, 105, 110, 107]⟩, ⟨#[108, 105, 115, 116, 105, 110, 103]⟩, ⟨#[109, 97, 105, 110]⟩, ⟨#[109, 97, 114, 113, 117, 101, 101]⟩, ⟨#[109, 101, 110, 117]⟩, ⟨#[109, 101, 116, 97]⟩, ⟨#[110, 97, 118]⟩, ⟨#[110, 111, 101, 109, 98, 101, 100]⟩, ⟨#[110, 111, 102, 114, 97, 109, 101, 115]⟩, ⟨#[110, 111, 115, 99, 114, 105, 112, 116]⟩, ⟨#[111, 98, 106, 101, 99, 116]⟩, ⟨#[111, 108]⟩, ⟨#[112]⟩, ⟨#[112, 97, 114, 97, 109]⟩, ⟨#[112, 108, 97, 105, 110, 116, 101, 120, 116]⟩, ⟨#[112, 114, 101]⟩, ⟨#[115, 99, 114, 105, 112, 116]⟩, ⟨#[115, 101, 97, 114, 99, 104]⟩, ⟨#[115, 101, 99, 116, 105, 111, 110]⟩, ⟨#[115, 101, 108, 101, 99, 116]⟩, ⟨#[115, 111, 117, 114, 99, 101]⟩, ⟨#[115, 116, 121, 108, 101]⟩, ⟨#[115, 117, 109, 109, 97, 114, 121]⟩, ⟨#[116, 97, 98, 108, 101]⟩, ⟨#[116, 98, 111, 100, 121]⟩, ⟨#[116, 100]⟩, ⟨#[116, 101, 109, 112, 108, 97, 116, 101]⟩, ⟨#[116, 101, 120, 116, 97, 114, 101, 97]⟩, ⟨#[116, 102, 111, 111, 116]⟩, ⟨#[116, 104]⟩, ⟨#[116, 104, 101, 97, 100]⟩, ⟨#[116, 105, 116, 108, 101]⟩, ⟨#[116, 114]⟩, ⟨#[116, 114, 97, 99, 107]⟩, ⟨#[117, 108]⟩, ⟨#[119, 98, 114]⟩, ⟨#[120, 109, 112]⟩]
def tblL : List ByteArray := [⟨#[104, 116, 109, 108]⟩, ⟨#[116, 97, 98, 108, 101]⟩, ⟨#[116, 101, 109, 112, 108, 97, 116, 101]⟩]
def optL : List ByteArray := [⟨#[111, 112, 116, 103, 114, 111, 117, 112]⟩, ⟨#[111, 112, 116, 105, 111, 110]⟩]
def listL : List ByteArray := [⟨#[111, 108]⟩, ⟨#[117, 108]⟩]
def btnL : List ByteArray := [⟨#[98, 117, 116, 116, 111, 110]⟩]
theorem maths_spec {k : Ctx} {w : World} (hO : Own k w []) : Tri Tryz.prog 120 #[] k w fun v m => v = .agg (mathL.map Value.string).toArray ∧ m = [] := by
  refine enter (args := []) Tryz.func120 rfl rfl ?_
  refine K0 (K1 ?_)
  refine s_alloc (vs := [.string ⟨#[]⟩, .string ⟨#[]⟩, .string ⟨#[]⟩, .string ⟨#[]⟩, .string ⟨#[]⟩, .string ⟨#[]⟩]) hO rfl rfl rfl fun b0 w hO => ?_
  refine K2 (K3 (K0 (K1 ?_)))
  refine s_build (parts := [(0, .const (.string ⟨#[109, 105]⟩)), (1, .const (.string ⟨#[109, 111]⟩)), (2, .const (.string ⟨#[109, 110]⟩)), (3, .const (.string ⟨#[109, 115]⟩)), (4, .const (.string ⟨#[109, 116, 101, 120, 116]⟩)), (5, .const (.string ⟨#[97, 110, 110, 111, 116, 97, 116, 105, 111, 110, 45, 120, 109, 108]⟩))]) (cs := [.string ⟨#[109, 105]⟩, .string ⟨#[109, 111]⟩, .string ⟨#[109, 110]⟩, .string ⟨#[109, 115]⟩, .string ⟨#[109, 116, 101, 120, 116]⟩, .string ⟨#[97, 110, 110, 111, 116, 97, 116, 105, 111, 110, 45, 120, 109, 108]⟩]) rfl rfl (fun a ha => partsOf_sound ha _ _ rfl) (by kernel_rfl) ?_
  refine Y3 hO rfl rfl (fun w hO => ?_)
  refine K2 (K3 (K6 ?_))
  exact finC hO rfl rfl ⟨_, ⟨rfl, rfl⟩, hO.none⟩
theorem drawings_spec {k : Ctx} {w : World} (hO : Own k w []) : Tri Tryz.prog 121 #[] k w fun v m => v = .agg (drawL.map Value.string).toArray ∧ m = [] := by
  refine enter (args := []) Tryz.func121 rfl rfl ?_
  refine K0 (K1 ?_)
  refine s_alloc (vs := [.string ⟨#[]⟩, .string ⟨#[]⟩, .string ⟨#[]⟩]) hO rfl rfl rfl fun b0 w hO => ?_
  refine K2 (K3 (K0 (K1 ?_)))
  refine s_build (parts := [(0, .const (.string ⟨#[102, 111, 114, 101, 105, 103, 110, 79, 98, 106, 101, 99, 116]⟩)), (1, .const (.string ⟨#[100, 101, 115, 99]⟩)), (2, .const (.string ⟨#[116, 105, 116, 108, 101]⟩))]) (cs := [.string ⟨#[102, 111, 114, 101, 105, 103, 110, 79, 98, 106, 101, 99, 116]⟩, .string ⟨#[100, 101, 115, 99]⟩, .string ⟨#[116, 105, 116, 108, 101]⟩]) rfl rfl (fun a ha => partsOf_sound ha _ _ rfl) (by kernel_rfl) ?_
  refine Y3 hO rfl rfl (fun w hO => ?_)
  refine K2 (K3 (K6 ?_))
  exact finC hO rfl rfl ⟨_, ⟨rfl, rfl⟩, hO.none⟩
theorem borders_spec {k : Ctx} {w : World} (hO : Own k w []) : Tri Tryz.prog 138 #[] k w fun v m => v = .agg (bordL.map Value.string).toArray ∧ m = [] := by
  refine enter (args := []) Tryz.func138 rfl rfl ?_
  refine K0 (K1 ?_)
  refine s_alloc (vs := [.string ⟨#[]⟩, .string ⟨#[]⟩, .string ⟨#[]⟩, .string ⟨#[]⟩, .string ⟨#[]⟩, .string ⟨#[]⟩, .string ⟨#[]⟩, .string ⟨#[]⟩, .string ⟨#[]⟩]) hO rfl rfl rfl fun b0 w hO => ?_
  refine K2 (K3 (K0 (K1 ?_)))
  refine s_build (parts := [(0, .const (.string ⟨#[97, 112, 112, 108, 101, 116]⟩)), (1, .const (.string ⟨#[99, 97, 112, 116, 105, 111, 110]⟩)), (2, .const (.string ⟨#[104, 116, 109, 108]⟩)), (3, .const (.string ⟨#[116, 97, 98, 108, 101]⟩)), (4, .const (.string ⟨#[116, 100]⟩)), (5, .const (.string ⟨#[116, 104]⟩)), (6, .const (.string ⟨#[109, 97, 114, 113, 117, 101, 101]⟩)), (7, .const (.string ⟨#[111, 98, 106, 101, 99, 116]⟩)), (8, .const (.string ⟨#[116, 101, 109, 112, 108, 97, 116, 101]⟩))]) (cs := [.string ⟨#[97, 112, 112, 108, 101, 116]⟩, .string ⟨#[99, 97, 112, 116, 105, 111, 110]⟩, .string ⟨#[104, 116, 109, 108]⟩, .string ⟨#[116, 97, 98, 108, 101]⟩, .string ⟨#[116, 100]⟩, .string ⟨#[116, 104]⟩, .string ⟨#[109, 97, 114, 113, 117, 101, 101]⟩, .string ⟨#[111, 98, 106, 101, 99, 116]⟩, .string ⟨#[116, 101, 109, 112, 108, 97, 116, 101]⟩]) rfl rfl (fun a ha => partsOf_sound ha _ _ rfl) (by kernel_rfl) ?_
  refine Y3 hO rfl rfl (fun w hO => ?_)
  refine K2 (K3 (K6 ?_))
  exact finC hO rfl rfl ⟨_, ⟨rfl, rfl⟩, hO.none⟩
theorem specials_spec {k : Ctx} {w : World} (hO : Own k w []) : Tri Tryz.prog 119 #[] k w fun v m => v = .agg (specL.map Value.string).toArray ∧ m = [] := by
  refine enter (args := []) Tryz.func119 rfl rfl ?_
  refine K0 (K1 ?_)
  refine s_alloc (vs := [.string ⟨#[]⟩, .string ⟨#[]⟩, .string ⟨#[]⟩, .string ⟨#[]⟩, .string ⟨#[]⟩, .string ⟨#[]⟩, .string ⟨#[]⟩, .string ⟨#[]⟩, .string ⟨#[]⟩, .string ⟨#[]⟩, .string ⟨#[]⟩, .string ⟨#[]⟩, .string ⟨#[]⟩, .string ⟨#[]⟩, .string ⟨#[]⟩, .string ⟨#[]⟩, .string ⟨#[]⟩, .string ⟨#[]⟩, .string ⟨#[]⟩, .string ⟨#[]⟩, .string ⟨#[]⟩, .string ⟨#[]⟩, .string ⟨#[]⟩, .string ⟨#[]⟩, .string ⟨#[]⟩, .string ⟨#[]⟩, .string ⟨#[]⟩, .string ⟨#[]⟩, .string ⟨#[]⟩, .string ⟨#[]⟩, .string ⟨#[]⟩, .string ⟨#[]⟩, .string ⟨#[]⟩, .string ⟨#[]⟩, .string ⟨#[]⟩, .string ⟨#[]⟩, .string ⟨#[]⟩, .string ⟨#[]⟩, .string ⟨#[]⟩, .string ⟨#[]⟩, .string ⟨#[]⟩, .string ⟨#[]⟩, .string ⟨#[]⟩, .string ⟨#[]⟩, .string ⟨#[]⟩, .string ⟨#[]⟩, .string ⟨#[]⟩, .string ⟨#[]⟩, .string ⟨#[]⟩, .string ⟨#[]⟩, .string ⟨#[]⟩, .string ⟨#[]⟩, .string ⟨#[]⟩, .string ⟨#[]⟩, .string ⟨#[]⟩, .string ⟨#[]⟩, .string ⟨#[]⟩, .string ⟨#[]⟩, .string ⟨#[]⟩, .string ⟨#[]⟩, .string ⟨#[]⟩, .string ⟨#[]⟩, .string ⟨#[]⟩, .string ⟨#[]⟩, .string ⟨#[]⟩, .string ⟨#[]⟩, .string ⟨#[]⟩, .string ⟨#[]⟩, .string ⟨#[]⟩, .string ⟨#[]⟩, .string ⟨#[]⟩, .string ⟨#[]⟩, .string ⟨#[]⟩, .string ⟨#[]⟩, .string ⟨#[]⟩, .string ⟨#[]⟩, .string ⟨#[]⟩, .string ⟨#[]⟩, .string ⟨#[]⟩, .string ⟨#[]⟩, .string ⟨#[]⟩, .string ⟨#[]⟩, .string ⟨#[]⟩]) hO rfl rfl rfl fun b0 w hO => ?_
  refine K2 (K3 (K0 (K1 ?_)))
  refine s_buildE (specL.zipIdx.map fun x => (x.2, Operand.const (.string x.1))) (specL.zipIdx.map fun x => (x.2, Value.string x.1)) (specL.map Value.string) ?_ (by kernel_rfl) (by kernel_rfl) (by kernel_rfl)
  refine Y3 hO rfl rfl (fun w hO => ?_)
  refine K2 (K3 (K6 ?_))
  exact finC hO rfl rfl ⟨_, ⟨rfl, rfl⟩, hO.none⟩
def borderB (kind sp : Int) (nm : ByteArray) : Bool :=
  if kind = 3 then namB sp nm tblL else if kind = 4 then !namB sp nm optL
  else if kind = 1 ∧ namB sp nm listL = true then true else if kind = 2 ∧ namB sp nm btnL = true then true
  else if sp = 1 then inB nm mathL else if sp = 2 then inB nm drawL else inB nm bordL
set_option maxHeartbeats 1000000 in
theorem border_spec {k : Ctx} {w : World} {n : Api_node} {kind : Int} (hO : Own k w []) :
    Tri Tryz.prog 118 #[.agg (Api_node.cells n).toArray, .int .i64 kind] k w fun v m => v = .bool (borderB kind n.Space n.Name) ∧ m = [] := by
  refine enter (args := [.agg (Api_node.cells n).toArray, .int .i64 kind]) Tryz.func118 rfl rfl ?_
  refine K0 (K1 ?_)
  refine s_box (vs := [.int .i64 n.Kind, .int .i64 n.Space, .string n.Name, .slice n.AttrsP n.Attrs.length n.AttrsC, .string n.Data, .string n.System, .int .i64 n.Parent, .int .i64 n.First, .int .i64 n.Last, .int .i64 n.Prev, .int .i64 n.Next, .int .i64 n.Inner]) hO rfl rfl rfl (by rfl) fun b2 w hO => ?_
  refine l_y rfl rfl (y_assign rfl) ?_
  refine K2 (K3 (K0 (K1 ?_)))
  refine CK [] hO rfl (fun k' hx hr hO' => borders_spec (hO := hO')) ?_
  rintro _ _ w ⟨rfl, rfl⟩ hO
  simp only [List.cons_append, List.nil_append] at hO
  refine CK [] hO rfl (fun k' hx hr hO' => maths_spec (hO := hO')) ?_
  rintro _ _ w ⟨rfl, rfl⟩ hO
  simp only [List.cons_append, List.nil_append] at hO
  refine CK [] hO rfl (fun k' hx hr hO' => drawings_spec (hO := hO')) ?_
  rintro _ _ w ⟨rfl, rfl⟩ hO
  simp only [List.cons_append, List.nil_append] at hO
  refine s_alloc (vs := [.string ⟨#[]⟩, .string ⟨#[]⟩, .string ⟨#[]⟩, .string ⟨#[]⟩, .string ⟨#[]⟩, .string ⟨#[]⟩, .string ⟨#[]⟩, .string ⟨#[]⟩, .string ⟨#[]⟩]) hO rfl rfl rfl fun b5 w hO => ?_
  refine s_alloc (vs := [.string ⟨#[]⟩, .string ⟨#[]⟩, .string ⟨#[]⟩, .string ⟨#[]⟩, .string ⟨#[]⟩, .string ⟨#[]⟩]) hO rfl rfl rfl fun b6 w hO => ?_
  refine s_alloc (vs := [.string ⟨#[]⟩, .string ⟨#[]⟩, .string ⟨#[]⟩]) hO rfl rfl rfl fun b7 w hO => ?_
  refine Y3 hO rfl rfl (fun w hO => ?_)
  refine Y3 hO rfl rfl (fun w hO => ?_)
  refine Y3 hO rfl rfl (fun w hO => ?_)
  refine K2 (K3 (K0 (K0 (K1 ?_))))
  refine l_y rfl rfl (y_move rfl) ?_
  refine K2 (K3 (K4 (K0 (K1 ?_))))
  refine Z0 (fun h3_0 => ?_) (fun h3_0 => ?_)
  · refine l_y rfl rfl (y_assign rfl) ?_
    refine K2 (K3 (L8 (K0 (K1 ?_))))
    refine l_y rfl rfl (D8 (cs := [.int .i64 n.Kind, .int .i64 n.Space, .string n.Name, .slice n.AttrsP n.Attrs.length n.AttrsC, .string n.Data, .string n.System, .int .i64 n.Parent, .int .i64 n.First, .int .i64 n.Last, .int .i64 n.Prev, .int .i64 n.Next, .int .i64 n.Inner]) hO rfl) ?_
    refine s_lit (parts := [(0, .const (.string ⟨#[104, 116, 109, 108]⟩)), (1, .const (.string ⟨#[116, 97, 98, 108, 101]⟩)), (2, .const (.string ⟨#[116, 101, 109, 112, 108, 97, 116, 101]⟩))]) (enc := eS) [⟨#[104, 116, 109, 108]⟩, ⟨#[116, 97, 98, 108, 101]⟩, ⟨#[116, 101, 109, 112, 108, 97, 116, 101]⟩] [.string ⟨#[104, 116, 109, 108]⟩, .string ⟨#[116, 97, 98, 108, 101]⟩, .string ⟨#[116, 101, 109, 112, 108, 97, 116, 101]⟩] hO rfl (fun b15 w hO => ?_)
    refine CK [] hO rfl (fun k' hx hr hO' => named_spec (n := n) (ts := tblL) (sls_roK (p := (some ⟨b15, 0, none⟩)) hr (sls_fct hO)) (by decide) (hO := hO')) ?_
    rintro _ _ w ⟨rfl, rfl⟩ hO
    refine l_y rfl rfl (y_assign rfl) ?_
    refine K2 (K3 (K6 (L0 (K9 ?_))))
    exact fin1 rfl rfl ⟨_, ⟨by first | (simp [borderB, *]; done) | (simp [borderB, namB, *]; done), rfl⟩, hO.none⟩
  · refine l_y rfl rfl (y_assign rfl) ?_
    refine K2 (K3 (L9 (K0 (K1 ?_))))
    refine Z0 (fun h5_0 => ?_) (fun h5_0 => ?_)
    · refine l_y rfl rfl (y_assign rfl) ?_
      refine K2 (K3 (L8 (K0 (K1 ?_))))
      refine l_y rfl rfl (D8 (cs := [.int .i64 n.Kind, .int .i64 n.Space, .string n.Name, .slice n.AttrsP n.Attrs.length n.AttrsC, .string n.Data, .string n.System, .int .i64 n.Parent, .int .i64 n.First, .int .i64 n.Last, .int .i64 n.Prev, .int .i64 n.Next, .int .i64 n.Inner]) hO rfl) ?_
      refine s_lit (parts := [(0, .const (.string ⟨#[111, 112, 116, 103, 114, 111, 117, 112]⟩)), (1, .const (.string ⟨#[111, 112, 116, 105, 111, 110]⟩))]) (enc := eS) [⟨#[111, 112, 116, 103, 114, 111, 117, 112]⟩, ⟨#[111, 112, 116, 105, 111, 110]⟩] [.string ⟨#[111, 112, 116, 103, 114, 111, 117, 112]⟩, .string ⟨#[111, 112, 116, 105, 111, 110]⟩] hO rfl (fun b20 w hO => ?_)
      refine CK [] hO rfl (fun k' hx hr hO' => named_spec (n := n) (ts := optL) (sls_roK (p := (some ⟨b20, 0, none⟩)) hr (sls_fct hO)) (by decide) (hO := hO')) ?_
      rintro _ _ w ⟨rfl, rfl⟩ hO
      refine l_y rfl rfl (y_not rfl rfl) ?_
      refine l_y rfl rfl (y_assign rfl) ?_
      refine K2 (K3 (K6 (L0 (K9 ?_))))
      exact fin1 rfl rfl ⟨_, ⟨by first | (simp [borderB, *]; done) | (simp [borderB, namB, *]; done), rfl⟩, hO.none⟩
    · refine l_y rfl rfl (y_assign rfl) ?_
      refine K2 (K3 (L9 (K0 (K1 ?_))))
      refine Z0 (fun h7_0 => ?_) (fun h7_0 => ?_)
      · refine l_y rfl rfl (y_assign rfl) ?_
        refine K2 (K3 (L8 (K0 (K1 ?_))))
        refine l_y rfl rfl (D8 (cs := [.int .i64 n.Kind, .int .i64 n.Space, .string n.Name, .slice n.AttrsP n.Attrs.length n.AttrsC, .string n.Data, .string n.System, .int .i64 n.Parent, .int .i64 n.First, .int .i64 n.Last, .int .i64 n.Prev, .int .i64 n.Next, .int .i64 n.Inner]) hO rfl) ?_
        refine s_lit (parts := [(0, .const (.string ⟨#[111, 108]⟩)), (1, .const (.string ⟨#[117, 108]⟩))]) (enc := eS) [⟨#[111, 108]⟩, ⟨#[117, 108]⟩] [.string ⟨#[111, 108]⟩, .string ⟨#[117, 108]⟩] hO rfl (fun b26 w hO => ?_)
        refine CK [] hO rfl (fun k' hx hr hO' => named_spec (n := n) (ts := listL) (sls_roK (p := (some ⟨b26, 0, none⟩)) hr (sls_fct hO)) (by decide) (hO := hO')) ?_
        rintro _ _ w ⟨rfl, rfl⟩ hO
        simp only [List.nil_append] at hO
        refine K2 (K3 ?_)
        refine c_split rfl (fun hc27 => ?_) (fun hc27 => ?_)
        · refine K0 (K1 ?_)
          refine l_y rfl rfl (y_assign rfl) ?_
          refine K2 (K3 (K6 (L0 (K9 ?_))))
          exact fin1 rfl rfl ⟨_, ⟨by first | (simp [borderB, *]; done) | (simp [borderB, namB, *]; done), rfl⟩, hO.none⟩
        · refine K5 (K8 (K3 (K0 (K0 (K1 ?_)))))
          refine l_y rfl rfl (y_fldb (o' := 1) rfl) ?_
          refine l_y rfl rfl (D5 hO rfl) ?_
          refine K2 (K3 (K4 (K0 (K1 ?_))))
          refine Z0 (fun h14_0 => ?_) (fun h14_0 => ?_)
          · refine l_y rfl rfl (y_assign rfl) ?_
            refine K2 (K3 (L8 (K0 ?_)))
            refine da_region (by intro c a d v w h; cases d <;> exact h) ?_
            have hO := hO.drew
            refine da_phase _ [3] (SO.ks [.b b2] hO) ?_
            refine dx_u 0 (by kernel_rfl) rfl rfl rfl (fun w => y_fldb (o' := 2) rfl) ?_
            refine dx_y 1 (by kernel_rfl) rfl rfl rfl (fun w ⟨m, hw⟩ => D5 hw rfl) ?_
            refine dx_u 2 (by kernel_rfl) rfl rfl rfl (fun w => y_sliceA rfl) ?_
            refine dx_close 3 (by kernel_rfl) rfl rfl ?_
            refine CK [] hO rfl (fun k' hx hr hO' => sin_spec (ts := mathL) (blk_ro (b := _) hr) (by decide) (hO := hO')) ?_
            rintro _ _ w ⟨rfl, rfl⟩ hO
            refine o_done ?_
            refine da_phase _ [] (SO.ks [] hO) ?_
            refine dx_u 4 (by kernel_rfl) rfl rfl rfl (fun w => y_assign rfl) ?_
            refine dx_end (by kernel_rfl) ?_
            refine K3 (K6 (L0 (K9 ?_)))
            exact fin1 rfl rfl ⟨_, ⟨by first | (simp [borderB, *]; done) | (simp [borderB, namB, *]; done), rfl⟩, hO.none⟩
          · refine l_y rfl rfl (y_assign rfl) ?_
            refine K2 (K3 (L9 (K0 (K1 ?_))))
            refine Z0 (fun h16_0 => ?_) (fun h16_0 => ?_)
            · refine l_y rfl rfl (y_assign rfl) ?_
              refine K2 (K3 (L8 (K0 ?_)))
              refine da_region (by intro c a d v w h; cases d <;> exact h) ?_
              have hO := hO.drew
              refine da_phase _ [3] (SO.ks [.b b2] hO) ?_
              refine dx_u 0 (by kernel_rfl) rfl rfl rfl (fun w => y_fldb (o' := 2) rfl) ?_
              refine dx_y 1 (by kernel_rfl) rfl rfl rfl (fun w ⟨m, hw⟩ => D5 hw rfl) ?_
              refine dx_u 2 (by kernel_rfl) rfl rfl rfl (fun w => y_sliceA rfl) ?_
              refine dx_close 3 (by kernel_rfl) rfl rfl ?_
              refine CK [] hO rfl (fun k' hx hr hO' => sin_spec (ts := drawL) (blk_ro (b := _) hr) (by decide) (hO := hO')) ?_
              rintro _ _ w ⟨rfl, rfl⟩ hO
              refine o_done ?_
              refine da_phase _ [] (SO.ks [] hO) ?_
              refine dx_u 4 (by kernel_rfl) rfl rfl rfl (fun w => y_assign rfl) ?_
              refine dx_end (by kernel_rfl) ?_
              refine K3 (K6 (L0 (K9 ?_)))
              exact fin1 rfl rfl ⟨_, ⟨by first | (simp [borderB, *]; done) | (simp [borderB, namB, *]; done), rfl⟩, hO.none⟩
            · refine l_y rfl rfl (y_assign rfl) ?_
              refine K2 (K3 (L9 (K5 (K8 (K3 (K0 ?_))))))
              refine da_region (by intro c a d v w h; cases d <;> exact h) ?_
              have hO := hO.drew
              refine da_phase _ [3] (SO.ks [.b b2] hO) ?_
              refine dx_u 0 (by kernel_rfl) rfl rfl rfl (fun w => y_fldb (o' := 2) rfl) ?_
              refine dx_y 1 (by kernel_rfl) rfl rfl rfl (fun w ⟨m, hw⟩ => D5 hw rfl) ?_
              refine dx_u 2 (by kernel_rfl) rfl rfl rfl (fun w => y_sliceA rfl) ?_
              refine dx_close 3 (by kernel_rfl) rfl rfl ?_
              refine CK [] hO rfl (fun k' hx hr hO' => sin_spec (ts := bordL) (blk_ro (b := _) hr) (by decide) (hO := hO')) ?_
              rintro _ _ w ⟨rfl, rfl⟩ hO
              refine o_done ?_
              refine da_phase _ [] (SO.ks [] hO) ?_
              refine dx_u 4 (by kernel_rfl) rfl rfl rfl (fun w => y_assign rfl) ?_
              refine dx_end (by kernel_rfl) ?_
              refine K3 (K6 ?_)
              exact fin1 rfl rfl ⟨_, ⟨by first | (simp [borderB, *]; done) | (simp [borderB, namB, *]; done), rfl⟩, hO.none⟩
      · refine l_y rfl rfl (y_assign rfl) ?_
        refine K2 (K3 (L9 (K0 (K1 ?_))))
        refine Z0 (fun h10_0 => ?_) (fun h10_0 => ?_)
        · refine l_y rfl rfl (y_assign rfl) ?_
          refine K2 (K3 (L8 (K0 (K1 ?_))))
          refine l_y rfl rfl (D8 (cs := [.int .i64 n.Kind, .int .i64 n.Space, .string n.Name, .slice n.AttrsP n.Attrs.length n.AttrsC, .string n.Data, .string n.System, .int .i64 n.Parent, .int .i64 n.First, .int .i64 n.Last, .int .i64 n.Prev, .int .i64 n.Next, .int .i64 n.Inner]) hO rfl) ?_
          refine s_lit (parts := [(0, .const (.string ⟨#[98, 117, 116, 116, 111, 110]⟩))]) (enc := eS) [⟨#[98, 117, 116, 116, 111, 110]⟩] [.string ⟨#[98, 117, 116, 116, 111, 110]⟩] hO rfl (fun b31 w hO => ?_)
          refine CK [] hO rfl (fun k' hx hr hO' => named_spec (n := n) (ts := btnL) (sls_roK (p := (some ⟨b31, 0, none⟩)) hr (sls_fct hO)) (by decide) (hO := hO')) ?_
          rintro _ _ w ⟨rfl, rfl⟩ hO
          simp only [List.nil_append] at hO
          refine K2 (K3 ?_)
          refine c_split rfl (fun hc32 => ?_) (fun hc32 => ?_)
          · refine K0 (K1 ?_)
            refine l_y rfl rfl (y_assign rfl) ?_
            refine K2 (K3 (K6 (L0 (K9 ?_))))
            exact fin1 rfl rfl ⟨_, ⟨by first | (simp [borderB, *]; done) | (simp [borderB, namB, *]; done), rfl⟩, hO.none⟩
          · refine K5 (K8 (K3 (K0 (K0 (K1 ?_)))))
            refine l_y rfl rfl (y_fldb (o' := 1) rfl) ?_
            refine l_y rfl rfl (D5 hO rfl) ?_
            refine K2 (K3 (K4 (K0 (K1 ?_))))
            refine Z0 (fun h14_0 => ?_) (fun h14_0 => ?_)
            · refine l_y rfl rfl (y_assign rfl) ?_
              refine K2 (K3 (L8 (K0 ?_)))
              refine da_region (by intro c a d v w h; cases d <;> exact h) ?_
              have hO := hO.drew
              refine da_phase _ [3] (SO.ks [.b b2] hO) ?_
              refine dx_u 0 (by kernel_rfl) rfl rfl rfl (fun w => y_fldb (o' := 2) rfl) ?_
              refine dx_y 1 (by kernel_rfl) rfl rfl rfl (fun w ⟨m, hw⟩ => D5 hw rfl) ?_
              refine dx_u 2 (by kernel_rfl) rfl rfl rfl (fun w => y_sliceA rfl) ?_
              refine dx_close 3 (by kernel_rfl) rfl rfl ?_
              refine CK [] hO rfl (fun k' hx hr hO' => sin_spec (ts := mathL) (blk_ro (b := _) hr) (by decide) (hO := hO')) ?_
              rintro _ _ w ⟨rfl, rfl⟩ hO
              refine o_done ?_
              refine da_phase _ [] (SO.ks [] hO) ?_
              refine dx_u 4 (by kernel_rfl) rfl rfl rfl (fun w => y_assign rfl) ?_
              refine dx_end (by kernel_rfl) ?_
              refine K3 (K6 (L0 (K9 ?_)))
              exact fin1 rfl rfl ⟨_, ⟨by first | (simp [borderB, *]; done) | (simp [borderB, namB, *]; done), rfl⟩, hO.none⟩
            · refine l_y rfl rfl (y_assign rfl) ?_
              refine K2 (K3 (L9 (K0 (K1 ?_))))
              refine Z0 (fun h16_0 => ?_) (fun h16_0 => ?_)
              · refine l_y rfl rfl (y_assign rfl) ?_
                refine K2 (K3 (L8 (K0 ?_)))
                refine da_region (by intro c a d v w h; cases d <;> exact h) ?_
                have hO := hO.drew
                refine da_phase _ [3] (SO.ks [.b b2] hO) ?_
                refine dx_u 0 (by kernel_rfl) rfl rfl rfl (fun w => y_fldb (o' := 2) rfl) ?_
                refine dx_y 1 (by kernel_rfl) rfl rfl rfl (fun w ⟨m, hw⟩ => D5 hw rfl) ?_
                refine dx_u 2 (by kernel_rfl) rfl rfl rfl (fun w => y_sliceA rfl) ?_
                refine dx_close 3 (by kernel_rfl) rfl rfl ?_
                refine CK [] hO rfl (fun k' hx hr hO' => sin_spec (ts := drawL) (blk_ro (b := _) hr) (by decide) (hO := hO')) ?_
                rintro _ _ w ⟨rfl, rfl⟩ hO
                refine o_done ?_
                refine da_phase _ [] (SO.ks [] hO) ?_
                refine dx_u 4 (by kernel_rfl) rfl rfl rfl (fun w => y_assign rfl) ?_
                refine dx_end (by kernel_rfl) ?_
                refine K3 (K6 (L0 (K9 ?_)))
                exact fin1 rfl rfl ⟨_, ⟨by first | (simp [borderB, *]; done) | (simp [borderB, namB, *]; done), rfl⟩, hO.none⟩
              · refine l_y rfl rfl (y_assign rfl) ?_
                refine K2 (K3 (L9 (K5 (K8 (K3 (K0 ?_))))))
                refine da_region (by intro c a d v w h; cases d <;> exact h) ?_
                have hO := hO.drew
                refine da_phase _ [3] (SO.ks [.b b2] hO) ?_
                refine dx_u 0 (by kernel_rfl) rfl rfl rfl (fun w => y_fldb (o' := 2) rfl) ?_
                refine dx_y 1 (by kernel_rfl) rfl rfl rfl (fun w ⟨m, hw⟩ => D5 hw rfl) ?_
                refine dx_u 2 (by kernel_rfl) rfl rfl rfl (fun w => y_sliceA rfl) ?_
                refine dx_close 3 (by kernel_rfl) rfl rfl ?_
                refine CK [] hO rfl (fun k' hx hr hO' => sin_spec (ts := bordL) (blk_ro (b := _) hr) (by decide) (hO := hO')) ?_
                rintro _ _ w ⟨rfl, rfl⟩ hO
                refine o_done ?_
                refine da_phase _ [] (SO.ks [] hO) ?_
                refine dx_u 4 (by kernel_rfl) rfl rfl rfl (fun w => y_assign rfl) ?_
                refine dx_end (by kernel_rfl) ?_
                refine K3 (K6 ?_)
                exact fin1 rfl rfl ⟨_, ⟨by first | (simp [borderB, *]; done) | (simp [borderB, namB, *]; done), rfl⟩, hO.none⟩
        · refine l_y rfl rfl (y_assign rfl) ?_
          refine K2 (K3 (L9 (K5 (K8 (K3 (K0 (K0 (K1 ?_))))))))
          refine l_y rfl rfl (y_fldb (o' := 1) rfl) ?_
          refine l_y rfl rfl (D5 hO rfl) ?_
          refine K2 (K3 (K4 (K0 (K1 ?_))))
          refine Z0 (fun h14_0 => ?_) (fun h14_0 => ?_)
          · refine l_y rfl rfl (y_assign rfl) ?_
            refine K2 (K3 (L8 (K0 ?_)))
            refine da_region (by intro c a d v w h; cases d <;> exact h) ?_
            have hO := hO.drew
            refine da_phase _ [3] (SO.ks [.b b2] hO) ?_
            refine dx_u 0 (by kernel_rfl) rfl rfl rfl (fun w => y_fldb (o' := 2) rfl) ?_
            refine dx_y 1 (by kernel_rfl) rfl rfl rfl (fun w ⟨m, hw⟩ => D5 hw rfl) ?_
            refine dx_u 2 (by kernel_rfl) rfl rfl rfl (fun w => y_sliceA rfl) ?_
            refine dx_close 3 (by kernel_rfl) rfl rfl ?_
            refine CK [] hO rfl (fun k' hx hr hO' => sin_spec (ts := mathL) (blk_ro (b := _) hr) (by decide) (hO := hO')) ?_
            rintro _ _ w ⟨rfl, rfl⟩ hO
            refine o_done ?_
            refine da_phase _ [] (SO.ks [] hO) ?_
            refine dx_u 4 (by kernel_rfl) rfl rfl rfl (fun w => y_assign rfl) ?_
            refine dx_end (by kernel_rfl) ?_
            refine K3 (K6 (L0 (K9 ?_)))
            exact fin1 rfl rfl ⟨_, ⟨by first | (simp [borderB, *]; done) | (simp [borderB, namB, *]; done), rfl⟩, hO.none⟩
          · refine l_y rfl rfl (y_assign rfl) ?_
            refine K2 (K3 (L9 (K0 (K1 ?_))))
            refine Z0 (fun h16_0 => ?_) (fun h16_0 => ?_)
            · refine l_y rfl rfl (y_assign rfl) ?_
              refine K2 (K3 (L8 (K0 ?_)))
              refine da_region (by intro c a d v w h; cases d <;> exact h) ?_
              have hO := hO.drew
              refine da_phase _ [3] (SO.ks [.b b2] hO) ?_
              refine dx_u 0 (by kernel_rfl) rfl rfl rfl (fun w => y_fldb (o' := 2) rfl) ?_
              refine dx_y 1 (by kernel_rfl) rfl rfl rfl (fun w ⟨m, hw⟩ => D5 hw rfl) ?_
              refine dx_u 2 (by kernel_rfl) rfl rfl rfl (fun w => y_sliceA rfl) ?_
              refine dx_close 3 (by kernel_rfl) rfl rfl ?_
              refine CK [] hO rfl (fun k' hx hr hO' => sin_spec (ts := drawL) (blk_ro (b := _) hr) (by decide) (hO := hO')) ?_
              rintro _ _ w ⟨rfl, rfl⟩ hO
              refine o_done ?_
              refine da_phase _ [] (SO.ks [] hO) ?_
              refine dx_u 4 (by kernel_rfl) rfl rfl rfl (fun w => y_assign rfl) ?_
              refine dx_end (by kernel_rfl) ?_
              refine K3 (K6 (L0 (K9 ?_)))
              exact fin1 rfl rfl ⟨_, ⟨by first | (simp [borderB, *]; done) | (simp [borderB, namB, *]; done), rfl⟩, hO.none⟩
            · refine l_y rfl rfl (y_assign rfl) ?_
              refine K2 (K3 (L9 (K5 (K8 (K3 (K0 ?_))))))
              refine da_region (by intro c a d v w h; cases d <;> exact h) ?_
              have hO := hO.drew
              refine da_phase _ [3] (SO.ks [.b b2] hO) ?_
              refine dx_u 0 (by kernel_rfl) rfl rfl rfl (fun w => y_fldb (o' := 2) rfl) ?_
              refine dx_y 1 (by kernel_rfl) rfl rfl rfl (fun w ⟨m, hw⟩ => D5 hw rfl) ?_
              refine dx_u 2 (by kernel_rfl) rfl rfl rfl (fun w => y_sliceA rfl) ?_
              refine dx_close 3 (by kernel_rfl) rfl rfl ?_
              refine CK [] hO rfl (fun k' hx hr hO' => sin_spec (ts := bordL) (blk_ro (b := _) hr) (by decide) (hO := hO')) ?_
              rintro _ _ w ⟨rfl, rfl⟩ hO
              refine o_done ?_
              refine da_phase _ [] (SO.ks [] hO) ?_
              refine dx_u 4 (by kernel_rfl) rfl rfl rfl (fun w => y_assign rfl) ?_
              refine dx_end (by kernel_rfl) ?_
              refine K3 (K6 ?_)
              exact fin1 rfl rfl ⟨_, ⟨by first | (simp [borderB, *]; done) | (simp [borderB, namB, *]; done), rfl⟩, hO.none⟩
/-- the last that is one, unless there is a border first -/
def scanR (is bd : Int → Bool) : List Int → Bool
  | [] => false
  | x :: r => if is x = true then true else if bd x = true then false else scanR is bd r
def scopeG (is bd : Int → Bool) (l : List Int) : Bool := scanR is bd l.reverse
theorem scopeG_snoc (is bd : Int → Bool) (l : List Int) (x : Int) : scopeG is bd (l ++ [x]) = if is x = true then true else if bd x = true then false else scopeG is bd l := by simp [scopeG, scanR]
def bdA (A : List Node_one) (kind : Int) (x : Int) : Bool := borderB kind (at_ A x.toNat).Node.Space (at_ A x.toNat).Node.Name
def namA (A : List Node_one) (ts : List ByteArray) (x : Int) : Bool := namB (at_ A x.toNat).Node.Space (at_ A x.toNat).Node.Name ts
def AllEl (A : List Node_one) (l : List Int) : Prop := ∀ x ∈ l, elB A x = true
theorem NV.bd {A : List Node_one} {x kind : Int} {n : Api_node} (h : NV A x n) (he : elB A x = true) : borderB kind n.Space n.Name = bdA A kind x := by rw [h.space (elB_has he), h.name (elB_has he)]; rfl
theorem NV.nam {A : List Node_one} {x : Int} {n : Api_node} {ts : List ByteArray} (h : NV A x n) (he : elB A x = true) : namB n.Space n.Name ts = namA A ts x := by rw [h.space (elB_has he), h.name (elB_has he)]; rfl
def scopeL (A : List Node_one) (is : Int → Bool) (kind : Int) (l : List Int) : Bool := if kind < 0 ∨ 4 < kind then false else scopeG is (bdA A kind) l
set_option maxHeartbeats 1000000 in
theorem scope_spec {k : Ctx} {w : World} {s a c : Nat} {p : Option Addr} {l : List Int} {A : List Node_one} {kind : Int} {f : FuncId} [hf : Fun Tryz.prog f] {caps : List Value} {C : List HP} {isN : Int → Api_node → Bool} {is : Int → Bool}
    (hcall : ∀ k' w' x n, Own k' w' [sep C] → Tri Tryz.prog f ([Value.int .i64 x, .agg (Api_node.cells n).toArray] ++ caps).toArray k' w' fun v m => v = .bool (isN x n) ∧ m = [sep C])
    (his : ∀ x n, elB A x = true → NV A x n → isN x n = is x) (hn : 0 < A.length) (ha : AttrsOk A) (hel : AllEl A l) (hg : Gs p l.length) (hl : l.length ≤ 1000000) (hO : Own k w [arenaL a A, sB s a p l.length c, sI p c l, sep C]) :
    Tri Tryz.prog 97 #[.pointer (some ⟨s, 0, none⟩), .int .i64 kind, .func (.func f) #[] caps.toArray] k w fun v m => v = .bool (scopeL A is kind l) ∧ m = [arenaL a A, sB s a p l.length c, sI p c l] := by
  refine enter (args := [.pointer (some ⟨s, 0, none⟩), .int .i64 kind, .func (.func f) #[] caps.toArray]) Tryz.func97 rfl rfl ?_
  refine K0 (K1 ?_)
  refine l_y rfl rfl (y_assign rfl) ?_
  refine K2 (K3 (K0 (K0 (K1 ?_))))
  refine l_y rfl rfl (y_move rfl) ?_
  refine Z0 (fun h1_1 => ?_) (fun h1_1 => ?_)
  · refine l_y rfl rfl (y_move rfl) ?_
    repeat refine M2 ?_
    refine l_y rfl rfl (y_pick_t rfl rfl) ?_
    refine K2 (K3 (L8 (K0 (K1 ?_))))
    refine l_y rfl rfl (y_assign rfl) ?_
    refine K2 (K3 (K6 (K9 ?_)))
    exact fin1 rfl rfl ⟨_, ⟨by rw [scopeL, if_pos (by omega)], rfl⟩, hO.only [.o a, .b s, .p p]⟩
  · refine l_y rfl rfl (y_move rfl) ?_
    refine l_y rfl rfl (y_move rfl) ?_
    refine Z0 (fun h1_4 => ?_) (fun h1_4 => ?_)
    · refine l_y rfl rfl (y_pick_f rfl rfl) ?_
      refine K2 (K3 (L8 (K0 (K1 ?_))))
      refine l_y rfl rfl (y_assign rfl) ?_
      refine K2 (K3 (K6 (K9 ?_)))
      exact fin1 rfl rfl ⟨_, ⟨by rw [scopeL, if_pos (by omega)], rfl⟩, hO.only [.o a, .b s, .p p]⟩
    · refine l_y rfl rfl (y_pick_f rfl rfl) ?_
      refine K2 (K3 (L9 (K5 (K3 (K0 (K0 ?_))))))
      have hk : scopeL A is kind l = scopeG is (bdA A kind) l := by rw [scopeL, if_neg (by omega)]
      refine K1 ?_
      refine l_y rfl rfl (y_move rfl) ?_
      refine CK [.b s] hO rfl (fun k' hx hr hO' => sLen_spec (hO := hO')) ?_
      rintro _ _ w ⟨rfl, rfl⟩ hO
      simp only [List.cons_append, List.nil_append] at hO
      refine l_y rfl rfl (D4) ?_
      refine l_y rfl rfl (y_assign rfl) ?_
      refine K2 (K3 (K4 ?_))
      refine c_rounds (X := Int) (fun i => [(0, .pointer (some ⟨s, 0, none⟩)), (1, .int .i64 kind), (2, .func (.func f) #[] caps.toArray), (6, .bool false), (7, .int .i64 i)]) (fun i w => Own k w [arenaL a A, sB s a p l.length c, sI p c l, sep C] ∧ (-1 ≤ i ∧ i < l.length) ∧ (scopeG is (bdA A kind) l = scopeG is (bdA A kind) (l.take (i + 1).toNat))) (fun i => (i + 1).toNat) ((l.length : Int) - 1) ⟨rfl, rfl, rfl, rfl, rfl, trivial⟩ ⟨hO.only [.o a, .b s, .p p, .s], ⟨by omega, by omega⟩, by rw [List.take_of_length_le (by omega)]⟩ ?_
      rintro i w m hm ⟨hO, hi, hs⟩
      refine K0 (K0 (K1 ?_))
      refine l_y rfl rfl (y_move rfl) ?_
      refine Z0 (fun h4_1 => ?_) (fun h4_1 => ?_)
      · refine K2 (K3 (L8 (K5 (K3 (K0 (K4 (K0 ?_)))))))
        have hxe : elB A (at_ l i.toNat) = true := hel _ (at_mem (by omega))
        have hs2 := hs
        rw [show (i + 1).toNat = i.toNat + 1 by omega, take_succ_at (by omega), scopeG_snoc] at hs2
        refine K1 ?_
        refine l_y rfl rfl (y_move rfl) ?_
        refine l_y rfl rfl (y_move rfl) ?_
        refine l_y rfl rfl (y_nilCheck rfl rfl) ?_
        refine l_y rfl rfl (y_fldb (o' := 1) rfl) ?_
        refine l_y rfl rfl (y_fldb (o' := 1) rfl) ?_
        refine l_y rfl rfl (D5 hO rfl) ?_
        refine l_y rfl rfl (y_move rfl) ?_
        refine l_y rfl rfl (y_idx rfl rfl) ?_
        refine l_y rfl rfl (y_e1 (x0 := 0) hO rfl) ?_
        refine CK [.o a, .b s] hO rfl (fun k' hx hr hO' => look_spec hn ha (hO := hO')) ?_
        rintro _ _ w ⟨x6_9, hx6_9, rfl, rfl⟩ hO
        simp only [List.cons_append, List.nil_append] at hO
        refine l_y rfl rfl (y_move rfl) ?_
        refine l_y rfl rfl (y_extract rfl rfl) ?_
        refine l_y rfl rfl (y_extract rfl rfl) ?_
        refine s_alloc (vs := [.int .i64 0, .int .i64 0, .string ⟨#[]⟩, .slice none 0 0, .string ⟨#[]⟩, .string ⟨#[]⟩, .int .i64 0, .int .i64 0, .int .i64 0, .int .i64 0, .int .i64 0, .int .i64 0]) hO rfl rfl rfl fun b8 w hO => ?_
        refine Y3 hO rfl rfl (fun w hO => ?_)
        refine l_y rfl rfl (y_assign rfl) ?_
        refine K2 (K3 (K0 (K0 ?_)))
        have e1 := his _ _ hxe hx6_9
        have e2 := NV.bd (kind := kind) hx6_9 hxe
        refine da_region (by intro c a d v w h; cases d <;> exact h) ?_
        have hO := hO.drew
        refine da_phase _ [10] (SO.ks [.b s, .p p, .b b8] hO) ?_
        refine dx_u 0 (by kernel_rfl) rfl rfl rfl (fun w => y_move rfl) ?_
        refine dx_u 1 (by kernel_rfl) rfl rfl rfl (fun w => y_move rfl) ?_
        refine dx_u 2 (by kernel_rfl) rfl rfl rfl (fun w => y_nilCheck rfl rfl) ?_
        refine dx_u 3 (by kernel_rfl) rfl rfl rfl (fun w => y_fldb (o' := 1) rfl) ?_
        refine dx_u 4 (by kernel_rfl) rfl rfl rfl (fun w => y_fldb (o' := 1) rfl) ?_
        refine dx_y 5 (by kernel_rfl) rfl rfl rfl (fun w ⟨m, hw⟩ => D5 hw rfl) ?_
        refine dx_u 6 (by kernel_rfl) rfl rfl rfl (fun w => y_move rfl) ?_
        refine dx_u 7 (by kernel_rfl) rfl rfl rfl (fun w => y_idx rfl rfl) ?_
        refine dx_y 8 (by kernel_rfl) rfl rfl rfl (fun w ⟨m, hw⟩ => y_e1 (x0 := 0) hw rfl) ?_
        refine dx_y 9 (by kernel_rfl) rfl rfl rfl (fun w ⟨m, hw⟩ => D8 (cs := [.int .i64 x6_9.Kind, .int .i64 x6_9.Space, .string x6_9.Name, .slice x6_9.AttrsP x6_9.Attrs.length x6_9.AttrsC, .string x6_9.Data, .string x6_9.System, .int .i64 x6_9.Parent, .int .i64 x6_9.First, .int .i64 x6_9.Last, .int .i64 x6_9.Prev, .int .i64 x6_9.Next, .int .i64 x6_9.Inner]) hw rfl) ?_
        refine dx_close 10 (by kernel_rfl) rfl rfl ?_
        refine CKv [.s] hO rfl rfl (fun k' hx hr hO' => hcall k' _ (at_ l i.toNat) x6_9 hO') ?_
        rintro _ _ w ⟨rfl, rfl⟩ hO
        simp only [List.cons_append, List.nil_append] at hO
        rw [e1]
        refine o_done ?_
        refine da_end (by kernel_rfl) ?_
        refine K3 ?_
        refine c_split rfl (fun hc46 => ?_) (fun hc46 => ?_)
        · refine K0 (K1 ?_)
          refine l_y rfl rfl (y_assign rfl) ?_
          refine K2 (K3 (K6 (K9 (L0 (K9 (K9 (L0 (K9 ?_))))))))
          exact fin1 rfl rfl ⟨_, ⟨by rw [hk, hs2, if_pos hc46], rfl⟩, hO.only [.o a, .b s, .p p]⟩
        · refine K5 (K3 (K0 (K1 ?_)))
          refine l_y rfl rfl (D8 (cs := [.int .i64 x6_9.Kind, .int .i64 x6_9.Space, .string x6_9.Name, .slice x6_9.AttrsP x6_9.Attrs.length x6_9.AttrsC, .string x6_9.Data, .string x6_9.System, .int .i64 x6_9.Parent, .int .i64 x6_9.First, .int .i64 x6_9.Last, .int .i64 x6_9.Prev, .int .i64 x6_9.Next, .int .i64 x6_9.Inner]) hO rfl) ?_
          refine l_y rfl rfl (y_move rfl) ?_
          refine CK [] hO rfl (fun k' hx hr hO' => border_spec (n := x6_9) (hO := hO')) ?_
          rintro _ _ w ⟨rfl, rfl⟩ hO
          simp only [List.cons_append, List.nil_append] at hO
          rw [e2]
          refine K2 (K3 ?_)
          refine c_split rfl (fun hc49 => ?_) (fun hc49 => ?_)
          · refine K0 (K1 ?_)
            refine l_y rfl rfl (y_assign rfl) ?_
            refine K2 (K3 (K6 (L0 (K9 (K9 (L0 (K9 ?_)))))))
            exact fin1 rfl rfl ⟨_, ⟨by rw [hk, hs2, if_neg (by simp [hc46]), if_pos hc49], rfl⟩, hO.only [.o a, .b s, .p p]⟩
          · refine K5 (K8 (K3 (K1 ?_)))
            refine l_y rfl rfl (y_move rfl) ?_
            refine l_y rfl rfl (D4) ?_
            refine l_y rfl rfl (y_assign rfl) ?_
            refine K2 ?_
            exact q_next (i - 1) ⟨rfl, rfl, rfl, rfl, rfl, trivial⟩ ⟨hO.only [.o a, .b s, .p p, .s], ⟨by omega, by omega⟩, by rw [hs2, if_neg (by simp [hc46]), if_neg (by simp [hc49]), show (i - 1 + 1).toNat = i.toNat by omega]⟩ (by omega)
      · refine K2 (K3 (L9 (K7 (L1 (L1 (L2 (K3 (K0 (K1 ?_)))))))))
        refine l_y rfl rfl (y_assign rfl) ?_
        refine K2 (K3 (K6 ?_))
        exact fin1 rfl rfl ⟨_, ⟨by rw [hk, hs, show (i + 1).toNat = 0 by omega]; rfl, rfl⟩, hO.only [.o a, .b s, .p p]⟩
end Go.Proofs.YtoohapbaelmkcaaGreat
