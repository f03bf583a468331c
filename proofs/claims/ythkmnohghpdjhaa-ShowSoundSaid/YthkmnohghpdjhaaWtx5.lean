/- The walks of the answer's text: its small functions. -/
import Derived.Test.YthkmnohghpdjhaaWtx4
import Derived.Test.YthkmnohghpdjhaaWesc2
import Derived.Test.YthkmnohghpdjhaaRef4
set_option linter.unusedVariables false
set_option linter.unusedSimpArgs false
set_option maxRecDepth 100000
namespace Go.Proofs.Ythkmnohghpdjhaa
open Go Go.Hb Go.RowKit
theorem ba_app (a b : List UInt8) : ba a ++ ba b = ba (a ++ b) := by
  have := ba_tl (ba a ++ ba b)
  rw [tl_app, tl_ba, tl_ba] at this
  exact this.symm
section
variable {P : Program} {n : Nat} {ds : List Deferred} {E : Env} {w : World} {d : Option Tmp} {ty : TypeId} {pos : String} {aft : Array Edge} {g : Option (Nat × Bool)}
/-- texts one behind the other, as lists of bytes -/
theorem y_catB {t u : TypeId} {x y : Operand} {a b : ByteArray} {X Y : List UInt8} (hx : ev E x = some (.string a)) (hy : ev E y = some (.string b)) (ha : tl a = X) (hb : tl b = Y) (h : X.length + Y.length ≤ 9223372036854775807) :
    Yld P n ds E w ⟨d, .binOp .add t x y u, ty, pos, aft, g⟩ (.string (ba (X ++ Y))) := by
  have := y_catS (P := P) (n := n) (ds := ds) (w := w) (d := d) (ty := ty) (pos := pos) (aft := aft) (g := g) (t := t) (u := u) hx hy (by rw [← tl_len, ← tl_len, ha, hb]; exact h)
  rwa [ba_eq (a := a ++ b) (l := X ++ Y) (by rw [tl_app, ha, hb])] at this
end
section
variable {k : Ctx} {w : World}
theorem RVoid_spec {s : ByteArray} (hO : Own k w []) : Tri Try.prog 80 #[.string s] k w fun v m => v = .bool (inL voidL s) ∧ m = [] := by
  refine enter (args := [.string s]) Try.func80 rfl rfl ?_
  repeat' (first | (with_reducible first | refine K0 ?_ | refine K1 ?_ | refine K2 ?_ | refine K3 ?_ | refine K4 ?_ | refine K5 ?_ | refine K6 ?_ | refine K7 ?_ | refine K8 ?_ | refine K9 ?_ | refine L0 ?_ | refine L1 ?_ | refine L2 ?_ | refine L3 ?_ | refine L4 ?_ | refine L5 ?_ | refine L6 ?_) | refine Y0 hO rfl ?_ | refine Y1 hO rfl rfl (fun w hO => ?_) | refine Y2 hO rfl ?_ | refine Y3 hO rfl rfl (fun w hO => ?_) | refine l_y rfl rfl (y_index rfl rfl (by omega) (by omega)) ?_ | refine l_y rfl rfl (y_indexA rfl rfl (by omega) (by omega)) ?_ | refine L7 ?_ | refine L8 ?_ | refine L9 ?_ | refine M0 ?_ | refine M1 ?_ | refine M2 ?_ | refine M3 ?_ | refine M4 ?_ | refine M5 ?_ | refine M6 ?_ | refine M7 ?_ | refine M8 ?_ | refine M9 ?_ | refine N0 ?_ | refine N1 ?_ | refine N2 ?_ | refine N3 ?_ | refine N4 ?_ | refine N5 ?_ | refine N6 ?_ | refine N7 ?_ | refine N8 ?_ | refine N9 ?_ | refine R0 ?_ | refine R1 ?_ | refine R2 ?_ | refine R3 ?_ | refine R4 ?_ | refine R5 ?_ | refine R6 ?_ | refine R7 ?_ | refine R8 ?_ | refine R9 ?_ | refine S0 ?_ | refine Z0 (fun h => ?_) (fun h => ?_) | refine Z1 (fun h => ?_) (fun h => ?_) | refine Z2 (fun h => ?_) (fun h => ?_) | refine Z3 (fun h => ?_) (fun h => ?_))
  all_goals refine fin1 rfl rfl ⟨_, ⟨?_, rfl⟩, hO⟩
  all_goals first | (subst s; rfl) | skip
  simp only [inL, voidL, List.any_cons, List.any_nil, Bool.or_false]
  simp [Ne.symm, *]
theorem RPlain_spec {s : ByteArray} {b : Bool} (hO : Own k w []) : Tri Try.prog 93 #[.string s, .bool b] k w fun v m => v = .bool (plainB s b) ∧ m = [] := by
  refine enter (args := [.string s, .bool b]) Try.func93 rfl rfl ?_
  cases b
  all_goals repeat' (first | (with_reducible first | refine K0 ?_ | refine K1 ?_ | refine K2 ?_ | refine K3 ?_ | refine K4 ?_ | refine K5 ?_ | refine K6 ?_ | refine K7 ?_ | refine K8 ?_ | refine K9 ?_ | refine L0 ?_ | refine L1 ?_ | refine L2 ?_ | refine L3 ?_ | refine L4 ?_ | refine L5 ?_ | refine L6 ?_) | refine Y0 hO rfl ?_ | refine Y1 hO rfl rfl (fun w hO => ?_) | refine Y2 hO rfl ?_ | refine Y3 hO rfl rfl (fun w hO => ?_) | refine l_y rfl rfl (y_index rfl rfl (by omega) (by omega)) ?_ | refine l_y rfl rfl (y_indexA rfl rfl (by omega) (by omega)) ?_ | refine L7 ?_ | refine L8 ?_ | refine L9 ?_ | refine M0 ?_ | refine M1 ?_ | refine M2 ?_ | refine M3 ?_ | refine M4 ?_ | refine M5 ?_ | refine M6 ?_ | refine M7 ?_ | refine M8 ?_ | refine M9 ?_ | refine N0 ?_ | refine N1 ?_ | refine N2 ?_ | refine N3 ?_ | refine N4 ?_ | refine N5 ?_ | refine N6 ?_ | refine N7 ?_ | refine N8 ?_ | refine N9 ?_ | refine R0 ?_ | refine R1 ?_ | refine R2 ?_ | refine R3 ?_ | refine R4 ?_ | refine R5 ?_ | refine R6 ?_ | refine R7 ?_ | refine R8 ?_ | refine R9 ?_ | refine S0 ?_ | refine Z0 (fun h => ?_) (fun h => ?_) | refine Z1 (fun h => ?_) (fun h => ?_) | refine Z2 (fun h => ?_) (fun h => ?_) | refine Z3 (fun h => ?_) (fun h => ?_))
  all_goals refine fin1 rfl rfl ⟨_, ⟨?_, rfl⟩, hO⟩
  all_goals unfold plainB
  all_goals first | (subst s; rfl) | (simp only [inL, plainL, noscriptS, List.any_cons, List.any_nil, Bool.or_false]; simp [Ne.symm, *])
theorem rshown_spec {x : Api_attr} (hl : x.Name.size ≤ 1000000000) (hO : Own k w []) : Tri Try.prog 95 #[.agg (Api_attr.cells x).toArray] k w fun v m => v = .string (shownS x) ∧ m = [] := by
  refine enter (args := [.agg (Api_attr.cells x).toArray]) Try.func95 rfl rfl ?_
  refine K0 (K1 ?_)
  refine s_box (vs := [.int .i64 x.Space, .string x.Prefix, .string x.Name, .string x.Value]) hO rfl rfl rfl (by rfl) fun b1 w hO => ?_
  refine l_y rfl rfl (y_assign rfl) ?_
  refine K2 (K3 (K0 (K0 (K1 ?_))))
  refine l_y rfl rfl (y_fldb (o' := 0) rfl) ?_
  refine l_y rfl rfl (D5 hO rfl) ?_
  refine K2 (K3 (K4 (K0 (K1 ?_))))
  refine Z0 (fun h2_0 => ?_) (fun h2_0 => ?_)
  · refine l_y rfl rfl (y_assign rfl) ?_
    refine K2 (K3 (L8 (K0 (K1 ?_))))
    refine l_y rfl rfl (y_fldb (o' := 2) rfl) ?_
    refine l_y rfl rfl (D5 hO rfl) ?_
    refine l_y rfl rfl (y_catS rfl rfl (by have e : (⟨#[120, 108, 105, 110, 107, 58]⟩ : ByteArray).size = 6 := rfl; omega)) ?_
    refine l_y rfl rfl (y_assign rfl) ?_
    refine K2 (K3 (K6 (L0 (K9 ?_))))
    exact fin1 rfl rfl ⟨_, ⟨by rw [shownS, if_pos h2_0], rfl⟩, hO.only []⟩
  · refine l_y rfl rfl (y_assign rfl) ?_
    refine K2 (K3 (L9 (K0 (K1 ?_))))
    refine Z0 (fun h4_0 => ?_) (fun h4_0 => ?_)
    · refine l_y rfl rfl (y_assign rfl) ?_
      refine K2 (K3 (L8 (K0 (K1 ?_))))
      refine l_y rfl rfl (y_fldb (o' := 2) rfl) ?_
      refine l_y rfl rfl (D5 hO rfl) ?_
      refine l_y rfl rfl (y_catS rfl rfl (by have e : (⟨#[120, 109, 108, 58]⟩ : ByteArray).size = 4 := rfl; omega)) ?_
      refine l_y rfl rfl (y_assign rfl) ?_
      refine K2 (K3 (K6 (L0 (K9 ?_))))
      exact fin1 rfl rfl ⟨_, ⟨by rw [shownS, if_neg h2_0, if_pos h4_0], rfl⟩, hO.only []⟩
    · refine l_y rfl rfl (y_assign rfl) ?_
      refine K2 (K3 (L9 (K0 (K1 ?_))))
      refine Z0 (fun h6_0 => ?_) (fun h6_0 => ?_)
      · refine l_y rfl rfl (y_assign rfl) ?_
        refine K2 (K3 (L8 (K0 (K0 (K1 ?_)))))
        refine l_y rfl rfl (y_fldb (o' := 2) rfl) ?_
        refine l_y rfl rfl (D5 hO rfl) ?_
        refine Z2 (fun h7_2 => ?_) (fun h7_2 => ?_)
        · refine K2 (K3 (L8 (K0 (K1 ?_))))
          refine l_y rfl rfl (y_assign rfl) ?_
          refine K2 (K3 (K6 (K9 (L0 (K9 ?_)))))
          exact fin1 rfl rfl ⟨_, ⟨by rw [shownS, if_neg h2_0, if_neg h4_0, if_neg (fun h => h.2 h7_2), h7_2], rfl⟩, hO.only []⟩
        · refine K2 (K3 (L9 (K5 (K3 (K0 (K1 ?_))))))
          refine l_y rfl rfl (y_fldb (o' := 2) rfl) ?_
          refine l_y rfl rfl (D5 hO rfl) ?_
          refine l_y rfl rfl (y_catS rfl rfl (by have e : (⟨#[120, 109, 108, 110, 115, 58]⟩ : ByteArray).size = 6 := rfl; omega)) ?_
          refine l_y rfl rfl (y_assign rfl) ?_
          refine K2 (K3 (K6 (L0 (K9 ?_))))
          exact fin1 rfl rfl ⟨_, ⟨by rw [shownS, if_neg h2_0, if_neg h4_0, if_pos ⟨h6_0, h7_2⟩], rfl⟩, hO.only []⟩
      · refine l_y rfl rfl (y_assign rfl) ?_
        refine K2 (K3 (L9 (K5 (K8 (K3 (K0 (K1 ?_)))))))
        refine l_y rfl rfl (y_fldb (o' := 2) rfl) ?_
        refine l_y rfl rfl (D5 hO rfl) ?_
        refine l_y rfl rfl (y_assign rfl) ?_
        refine K2 (K3 (K6 ?_))
        exact fin1 rfl rfl ⟨_, ⟨by rw [shownS, if_neg h2_0, if_neg h4_0, if_neg (fun h => h6_0 h.1)], rfl⟩, hO.only []⟩
theorem rEscB_spec {s : ByteArray} {attr : Bool} (hs : s.size ≤ 100000000) (hO : Own k w []) : Tri Try.prog 94 #[.string s, .bool attr] k w fun r m => r = .string (escB attr s) ∧ m = [] := by
  refine Ret.mono (refEscape_spec k w s attr hs hO) ?_
  rintro v w' ⟨m, ⟨rfl, v', rfl⟩, h⟩
  exact ⟨_, ⟨rfl, rfl⟩, h.drop⟩
end
end Go.Proofs.Ythkmnohghpdjhaa
