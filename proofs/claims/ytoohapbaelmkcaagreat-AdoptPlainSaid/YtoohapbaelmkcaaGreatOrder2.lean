/- The walk of the law NodeOrder. -/
import Derived.Test.YtoohapbaelmkcaaGreatOrder1
set_option linter.unusedVariables false
set_option linter.unusedSimpArgs false
set_option maxRecDepth 100000
namespace Go.Proofs.YtoohapbaelmkcaaGreat
open Go Go.Hb Go.RowKit
theorem ElP_spec {k : Ctx} {w : World} {a n : Nat} {A : List Node_one} (hl : A.length = n + 1) (hn : n ≤ 1000) (hO : Own k w [arenaL a A]) :
    Tri Tryz.prog 18 #[.pointer (some ⟨a, 0, none⟩), .int .i64 0, .string pS, .slice none 0 0] k w fun v m => ∃ q d, v = .tuple #[.int .i64 ((n : Int) + 1), .int .i64 0] ∧ m = [arenaL a (A ++ [blankN (elementN q d 0 pS [])])] := by
  refine (Element_spec (xs := []) (by omega) (by omega) (Sli.nil rfl) hO).mono ?_
  rintro v m ⟨q, d, rfl, rfl⟩
  have hnt : ¬ tmpl 0 pS := fun h => absurd h.2 (by decide)
  have e : elementL A 0 pS [] q d = ((n : Int) + 1, 0, A ++ [blankN (elementN q d 0 pS [])]) := by
    rw [elementL, if_neg (by omega), if_neg (by simp), if_neg (fun h => hnt h.1), if_neg (by decide), if_neg (by omega), if_neg hnt, hl]; rfl
  rw [e]; exact ⟨q, d, rfl, rfl⟩
theorem KidsT_spec {k : Ctx} {w : World} {a : Nat} {A : List Node_one} {K : Int → List Int} {id : Int} (h : Tree A K) (hi : InA A id) (hl : A.length ≤ 32768) (hO : Own k w [arenaL a A]) :
    Tri Tryz.prog 108 #[.pointer (some ⟨a, 0, none⟩), .int .i64 id] k w fun v m => ∃ q d, v = .slice q (K id).length d ∧ m = [arenaL a A, sls q d 3 1 (eI .i64) (K id)] := by
  have h1 := h.len hi
  have h2 := hi.1
  have h3 := hi.2
  refine (Kids_spec (xs := K id) (by omega) (by omega) (fun _ => (h.lnk id hi).chain) hO).mono ?_
  rintro v m (⟨h, _⟩ | ⟨_, q, d, rfl, rfl⟩)
  · rw [hi.b] at h; simp at h
  · exact ⟨q, d, rfl, rfl⟩
end Go.Proofs.YtoohapbaelmkcaaGreat
