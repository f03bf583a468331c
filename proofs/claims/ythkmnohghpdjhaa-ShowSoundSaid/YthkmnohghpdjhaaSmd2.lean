/- The walk of Same over two arenas. -/
import Derived.Test.YthkmnohghpdjhaaSmd1
import Derived.Test.YthkmnohghpdjhaaPile
set_option linter.unusedVariables false
set_option linter.unusedSimpArgs false
set_option maxRecDepth 100000
namespace Go.Proofs.Ythkmnohghpdjhaa
open Go Go.Hb Go.RowKit
theorem errN_zero {A : List Node_one} {id : Int} (h : errN A id = 0) : hasB A id = true := by
  unfold errN at h
  split at h
  · assumption
  · cases h
def toT (p : Int × Int) : Show_twin := ⟨p.1, p.2⟩
def innT1 (A BB : List Node_one) (x y : Int) : List Show_twin := if (nodeA A x).Inner = -1 then [] else [⟨(nodeA A x).Inner, (nodeA BB y).Inner⟩]
theorem belowT {A : List Node_one} {K : Int → List Int} {BB : List Node_one} {LL : Int → List Int} {x y : Int} : (belowP A K BB LL x y).map toT = innT1 A BB x y ++ ((K x).zip (LL y)).map toT := by
  unfold belowP innT1
  split <;> simp [toT]
theorem zip_at {l m : List Int} {i : Nat} (h1 : i < l.length) (h2 : l.length = m.length) : ((l.zip m).map toT).take (i + 1) = ((l.zip m).map toT).take i ++ [⟨at_ l i, at_ m i⟩] := by
  rw [take_succ_at (by rw [List.length_map, List.length_zip]; omega)]
  congr 2
  refine at_eq ?_
  simp [List.getElem?_zip_eq_some, at_get h1, at_get (show i < m.length by omega), toT]
noncomputable def sumT (A : List Node_one) (l : List Show_twin) : Nat := (l.map fun p => cnt A p.x).sum
theorem sumT_app {A : List Node_one} {l m : List Show_twin} : sumT A (l ++ m) = sumT A l + sumT A m := by simp [sumT]
theorem sumT_one {A : List Node_one} {c : Show_twin} : sumT A [c] = cnt A c.x := by simp only [sumT, List.map_cons, List.map_nil, List.sum_cons, List.sum_nil]; omega
theorem sumT_below {A : List Node_one} {l : List (Int × Int)} : sumT A (l.map toT) = (l.map fun p => cnt A p.1).sum := by simp [sumT, toT, Function.comp_def]
theorem sumT_len {A : List Node_one} {l : List Show_twin} (h : ∀ p ∈ l, InA A p.x) : l.length ≤ sumT A l := by
  induction l with
  | nil => exact Nat.le_refl _
  | cons p l ih =>
    have h1 := cnt_pos (h p (by simp))
    have h2 := ih fun q hq => h q (by simp [hq])
    show l.length + 1 ≤ cnt A p.x + sumT A l
    omega
theorem below_in {A : List Node_one} {K : Int → List Int} (t : Tree A K) (g : InnOk A) {BB : List Node_one} {LL : Int → List Int} {x y : Int} (hx : InA A x) : ∀ p ∈ (belowP A K BB LL x y).map toT, InA A p.x := by
  rw [belowT]
  intro p hp
  rcases List.mem_append.1 hp with hp | hp
  · unfold innT1 at hp
    split at hp
    · simp at hp
    · next h => rw [List.mem_singleton.1 hp]; exact (inner_up t g hx h).1
  · obtain ⟨q, hq, rfl⟩ := List.mem_map.1 hp
    exact (kid_up t hx (List.of_mem_zip hq).1).1
section
variable {k : Ctx} {w : World}
/-- pop, both ways -/
theorem popT_spec {b : Nat} {xs : List Show_twin} (hl : xs.length ≤ 1000000000) (hO : Own k w [piletwin b xs]) :
    Tri Try.prog 65 #[.pointer (some ⟨b, 0, none⟩)] k w fun v m => ∃ t ok rest, (ok = true ∧ xs = rest ++ [t] ∨ ok = false ∧ xs = [] ∧ rest = []) ∧ v = .tuple #[.agg (Show_twin.cells t).toArray, .bool ok] ∧ m = [piletwin b rest] := by
  rcases List.eq_nil_or_concat xs with rfl | ⟨ys, z, rfl⟩
  · refine (popNtwin_spec hO).mono ?_
    rintro v m ⟨rfl, rfl⟩
    exact ⟨default, false, [], .inr ⟨rfl, rfl, rfl⟩, rfl, rfl⟩
  · rw [List.concat_eq_append] at hO hl
    simp only [List.length_append, List.length_cons, List.length_nil] at hl
    refine (poptwin_spec (by omega) hO).mono ?_
    rintro v m ⟨rfl, rfl⟩
    exact ⟨z, true, ys, .inl ⟨rfl, List.concat_eq_append⟩, rfl, rfl⟩
/-- what is known of the loop -/
structure SmI (A : List Node_one) (K : Int → List Int) (BB : List Node_one) (LL : Int → List Int) (x y : Int) (ok : Bool) (c : Show_twin) (l : List Show_twin) : Prop where
  res : sameN A K BB LL x y = ((!ok || sameN A K BB LL c.x c.y) && l.all fun p => sameN A K BB LL p.x p.y)
  off : ok = false → l = []
  sum : (if ok = true then cnt A c.x else 0) + sumT A l ≤ A.length
  all : ∀ p ∈ l, InA A p.x
theorem SmI.start {A : List Node_one} {K : Int → List Int} {BB : List Node_one} {LL : Int → List Int} {x y : Int} : SmI A K BB LL x y true ⟨x, y⟩ [] :=
  ⟨by simp, fun h => (by cases h), by rw [if_pos rfl]; exact cnt_le, fun p hp => by simp at hp⟩
theorem SmI.next {A : List Node_one} {K : Int → List Int} {BB : List Node_one} {LL : Int → List Int} {x y : Int} (t : Tree A K) (g : InnOk A) {c : Show_twin} {l : List Show_twin} (s : SmI A K BB LL x y true c l) (h : Loc A K BB LL c.x c.y) {ok : Bool} {c' : Show_twin} {l' : List Show_twin}
    (hp : ok = true ∧ l ++ (belowP A K BB LL c.x c.y).map toT = l' ++ [c'] ∨ ok = false ∧ l ++ (belowP A K BB LL c.x c.y).map toT = [] ∧ l' = []) :
    SmI A K BB LL x y ok c' l' ∧ (if ok = true then cnt A c'.x else 0) + sumT A l' < cnt A c.x + sumT A l := by
  have hx := inA_iff.1 h.ha
  have hb := below_cnt t g (B := BB) (L := LL) (y := c.y) hx
  have hi := below_in t g (BB := BB) (LL := LL) (y := c.y) hx
  have e1 : sumT A (l ++ (belowP A K BB LL c.x c.y).map toT) + 1 ≤ cnt A c.x + sumT A l := by rw [sumT_app, sumT_below]; omega
  have e2 : sameN A K BB LL x y = (l ++ (belowP A K BB LL c.x c.y).map toT).all fun p => sameN A K BB LL p.x p.y := by
    rw [s.res, sameN_yes t g h, List.all_append, List.all_map, Bool.and_comm]
    simp [toT, Function.comp_def]
  have e3 : ∀ p ∈ l ++ (belowP A K BB LL c.x c.y).map toT, InA A p.x := fun p hp => by
    rcases List.mem_append.1 hp with hp | hp
    · exact s.all p hp
    · exact hi p hp
  have e4 := s.sum
  rw [if_pos rfl] at e4
  rcases hp with ⟨rfl, e⟩ | ⟨rfl, e, rfl⟩
  · rw [e] at e1 e2 e3
    have e5 : sumT A (l' ++ [c']) = sumT A l' + cnt A c'.x := by rw [sumT_app, sumT_one]
    refine ⟨⟨?_, fun h => (by cases h), by rw [if_pos rfl]; omega, fun p hp => e3 p (by simp [hp])⟩, by rw [if_pos rfl]; omega⟩
    rw [e2, List.all_append, Bool.and_comm]; simp
  · rw [e] at e1 e2
    refine ⟨⟨by rw [e2]; rfl, fun _ => rfl, by rw [if_neg (by simp)]; show 0 + 0 ≤ _; omega, fun p hp => by simp at hp⟩, by rw [if_neg (by simp)]; show 0 + 0 < _; have := cnt_pos hx; omega⟩
set_option maxHeartbeats 4000000 in
theorem Same2_spec {a bb : Nat} {A BB : List Node_one} {K LL : Int → List Int} {x y : Int} (t : Tree A K) (g : InnOk A) (t2 : Tree BB LL) (h0 : 0 < A.length) (h02 : 0 < BB.length) (hl : A.length ≤ 1000) (hl2 : BB.length ≤ 1000) (hO : Own k w [arenaL a A, arenaL bb BB]) :
    Tri Try.prog 21 #[.pointer (some ⟨a, 0, none⟩), .int .i64 x, .pointer (some ⟨bb, 0, none⟩), .int .i64 y] k w fun v m => v = .bool (sameN A K BB LL x y) ∧ m = [arenaL a A, arenaL bb BB] := by
  refine enter (args := [.pointer (some ⟨a, 0, none⟩), .int .i64 x, .pointer (some ⟨bb, 0, none⟩), .int .i64 y]) Try.func21 rfl rfl ?_
  refine K0 (K1 ?_)
  refine l_y rfl rfl (y_assign rfl) ?_
  refine K2 (K3 (K0 (K1 ?_)))
  refine s_alloc (vs := [.slice none 0 0]) hO rfl rfl rfl fun b9 w hO => ?_
  refine K2 (K3 (K0 ?_))
  have hO := piletwin_shut (xs := []) (hO.ks [.b b9] |> sl_nil 124 2 |> Own.swap)
  refine K1 ?_
  refine l_y rfl rfl (y_move rfl) ?_
  refine l_y rfl rfl (y_move rfl) ?_
  refine s_build (parts := [(0, .tmp 19), (1, .tmp 20)]) (cs := [.int .i64 x, .int .i64 y]) rfl rfl (fun a ha => partsOf_sound ha _ _ rfl) (by kernel_rfl) ?_
  refine s_lit (parts := [(0, .tmp 21)]) (enc := Show_twin.cells) [⟨x, y⟩] [.agg [.int .i64 x, .int .i64 y].toArray] hO rfl (fun b22 w hO => ?_)
  refine CK [.o b9] hO rfl (fun k' hx hr hO' => pushtwin_spec (ys := [⟨x, y⟩]) (sls_roK (p := some ⟨b22, 0, none⟩) hr (sls_fct hO)) (by simp) (hO := hO')) ?_
  rintro _ _ w rfl hO
  simp only [List.cons_append, List.nil_append] at hO
  refine K2 (K3 (K0 (K0 (K1 ?_))))
  refine CK [.o b9] hO rfl (fun k' hx hr hO' => poptwin_spec (xs := []) (x := ⟨x, y⟩) (by simp) (hO := hO')) ?_
  rintro _ _ w ⟨rfl, rfl⟩ hO
  simp only [List.cons_append, List.nil_append] at hO
  refine l_y rfl rfl (y_move rfl) ?_
  refine l_y rfl rfl (y_extract rfl rfl) ?_
  refine l_y rfl rfl (y_extract rfl rfl) ?_
  refine s_alloc (vs := [.int .i64 0, .int .i64 0]) hO rfl rfl rfl fun b10 w hO => ?_
  refine Y3 hO rfl rfl (fun w hO => ?_)
  refine l_y rfl rfl (y_assign rfl) ?_
  refine K2 (K3 (K4 ?_))
  refine c_rounds (X := Nat × Bool × Show_twin × List Show_twin) (fun s => [(0, .pointer (some ⟨a, 0, none⟩)), (2, .pointer (some ⟨bb, 0, none⟩)), (8, .bool false), (9, .pointer (some ⟨b9, 0, none⟩)), (10, .pointer (some ⟨s.1, 0, none⟩)), (11, .bool s.2.1)]) (fun s w => Own k w [arenaL a A, arenaL bb BB, piletwin b9 s.2.2.2, blk s.1 124 (Show_twin.cells s.2.2.1)] ∧ (SmI A K BB LL x y s.2.1 s.2.2.1 s.2.2.2)) (fun s => (if s.2.1 = true then cnt A s.2.2.1.x else 0) + sumT A s.2.2.2) ((b10, true, ⟨x, y⟩, [])) ⟨rfl, rfl, rfl, rfl, rfl, rfl, trivial⟩ ⟨hO.only [.o a, .o bb, .o b9, .b b10], SmI.start⟩ ?_
  rintro s w m hm ⟨hO, hI⟩
  refine K0 (K0 (K1 ?_))
  refine l_y rfl rfl (y_move rfl) ?_
  refine K2 (K3 ?_)
  refine c_split rfl (fun hc28 => ?_) (fun hc28 => ?_)
  · refine K5 (K3 (K0 (K4 (K0 ?_))))
    have hI := hI
    have hm0 := hm
    rw [hc28, if_pos rfl] at hm0
    rw [hc28] at hI
    have hsl := hI.sum
    rw [if_pos rfl] at hsl
    have hstk := sumT_len hI.all
    refine K1 ?_
    refine l_y rfl rfl (y_move rfl) ?_
    refine l_y rfl rfl (y_fldb (o' := 0) rfl) ?_
    refine l_y rfl rfl (D5 hO rfl) ?_
    refine CK [.o a] hO rfl (fun k' hx hr hO' => NodeX_spec h0 t.attrs hO') ?_
    rintro _ _ w ⟨n, hn, rfl, rfl⟩ hO
    simp only [List.cons_append, List.nil_append] at hO
    refine l_y rfl rfl (y_move rfl) ?_
    refine l_y rfl rfl (y_extract rfl rfl) ?_
    refine l_y rfl rfl (y_extract rfl rfl) ?_
    refine s_alloc (vs := [.int .i64 0, .int .i64 0, .string ⟨#[]⟩, .slice none 0 0, .string ⟨#[]⟩, .string ⟨#[]⟩, .int .i64 0, .int .i64 0, .int .i64 0, .int .i64 0, .int .i64 0, .int .i64 0]) hO rfl rfl rfl fun b12 w hO => ?_
    refine Y3 hO rfl rfl (fun w hO => ?_)
    refine l_y rfl rfl (y_assign rfl) ?_
    refine K2 (K3 (K0 (K1 ?_)))
    refine l_y rfl rfl (y_move rfl) ?_
    refine l_y rfl rfl (y_fldb (o' := 1) rfl) ?_
    refine l_y rfl rfl (D5 hO rfl) ?_
    refine CK [.o bb] hO rfl (fun k' hx hr hO' => NodeX_spec h02 t2.attrs hO') ?_
    rintro _ _ w ⟨n2, hn2, rfl, rfl⟩ hO
    simp only [List.cons_append, List.nil_append] at hO
    refine l_y rfl rfl (y_move rfl) ?_
    refine l_y rfl rfl (y_extract rfl rfl) ?_
    refine l_y rfl rfl (y_extract rfl rfl) ?_
    refine s_alloc (vs := [.int .i64 0, .int .i64 0, .string ⟨#[]⟩, .slice none 0 0, .string ⟨#[]⟩, .string ⟨#[]⟩, .int .i64 0, .int .i64 0, .int .i64 0, .int .i64 0, .int .i64 0, .int .i64 0]) hO rfl rfl rfl fun b14 w hO => ?_
    refine Y3 hO rfl rfl (fun w hO => ?_)
    refine l_y rfl rfl (y_assign rfl) ?_
    refine K2 (K3 (K0 ?_))
    refine da_region (by intro c a d v w h; cases d <;> exact h) ?_
    have hO := hO.drew
    refine da_phase _ [7] (SO.ks [.b s.1] hO) ?_
    refine dx_u 0 (by kernel_rfl) rfl rfl rfl (fun w => y_move rfl) ?_
    refine dx_u 1 (by kernel_rfl) rfl rfl rfl (fun w => y_fldb (o' := 0) rfl) ?_
    refine dx_y 2 (by kernel_rfl) rfl rfl rfl (fun w ⟨m, hw⟩ => D5 hw rfl) ?_
    refine dx_u 4 (by kernel_rfl) rfl rfl rfl (fun w => y_move rfl) ?_
    refine dx_u 5 (by kernel_rfl) rfl rfl rfl (fun w => y_fldb (o' := 1) rfl) ?_
    refine dx_y 6 (by kernel_rfl) rfl rfl rfl (fun w ⟨m, hw⟩ => D5 hw rfl) ?_
    refine dx_only 3 (by kernel_rfl) rfl rfl ?_
    refine CK [.o a] hO rfl (fun k' hx hr hO' => KidsX_spec t h0 (by omega) hO') ?_
    rintro _ _ w ⟨q1, d1, rfl, rfl⟩ hO
    simp only [List.cons_append, List.nil_append] at hO
    refine o_done ?_
    refine ⟨SO.ks [.b s.1] hO, ?_⟩
    refine dx_close 7 (by kernel_rfl) rfl rfl ?_
    refine CK [.o bb] hO rfl (fun k' hx hr hO' => KidsX_spec t2 h02 (by omega) hO') ?_
    rintro _ _ w ⟨q2, d2, rfl, rfl⟩ hO
    simp only [List.cons_append, List.nil_append] at hO
    refine o_done ?_
    refine da_phase _ [] (SO.ks [] hO) ?_
    refine dx_u 8 (by kernel_rfl) rfl rfl rfl (fun w => y_assign rfl) ?_
    refine dx_u 9 (by kernel_rfl) rfl rfl rfl (fun w => y_assign rfl) ?_
    refine dx_end (by kernel_rfl) ?_
    refine K3 ?_
    refine c_cut (X := List Show_twin) (fun l1 => [(0, .pointer (some ⟨a, 0, none⟩)), (2, .pointer (some ⟨bb, 0, none⟩)), (8, .bool false), (9, .pointer (some ⟨b9, 0, none⟩)), (10, .pointer (some ⟨s.1, 0, none⟩)), (16, .slice q1 (kidsX A K s.2.2.1.x).length d1), (17, .slice q2 (kidsX BB LL s.2.2.1.y).length d2)]) (fun l1 w => Own k w [arenaL a A, arenaL bb BB, piletwin b9 l1, blk s.1 124 (Show_twin.cells s.2.2.1), sls q1 d1 3 1 (eI .i64) (kidsX A K s.2.2.1.x), sls q2 d2 3 1 (eI .i64) (kidsX BB LL s.2.2.1.y)] ∧ (Loc A K BB LL s.2.2.1.x s.2.2.1.y) ∧ (l1 = s.2.2.2 ++ innT1 A BB s.2.2.1.x s.2.2.1.y)) ?_ ?_
    · refine K4 (K0 (K1 ?_))
      refine l_y rfl rfl (y_move rfl) ?_
      refine Z1 (fun h9_1 => ?_) (fun h9_1 => ?_)
      · refine l_y rfl rfl (y_move rfl) ?_
        repeat refine M2 ?_
        refine l_y rfl rfl (y_pick_t rfl rfl) ?_
        refine l_y rfl rfl (y_move rfl) ?_
        repeat refine M2 ?_
        refine l_y rfl rfl (y_pick_t rfl rfl) ?_
        refine l_y rfl rfl (y_move rfl) ?_
        repeat refine M2 ?_
        refine l_y rfl rfl (y_pick_t rfl rfl) ?_
        refine l_y rfl rfl (y_move rfl) ?_
        repeat refine M2 ?_
        refine l_y rfl rfl (y_pick_t rfl rfl) ?_
        refine l_y rfl rfl (y_move rfl) ?_
        repeat refine M2 ?_
        refine l_y rfl rfl (y_pick_t rfl rfl) ?_
        refine l_y rfl rfl (y_move rfl) ?_
        repeat refine M2 ?_
        refine l_y rfl rfl (y_pick_t rfl rfl) ?_
        refine l_y rfl rfl (y_assign rfl) ?_
        refine K2 (K3 (L8 (K0 (K1 ?_))))
        refine l_y rfl rfl (y_assign rfl) ?_
        refine K2 (K3 (K6 (L0 (K9 (L0 (K9 (K9 (L0 (K9 ?_)))))))))
        have hno : ¬ Loc A K BB LL s.2.2.1.x s.2.2.1.y := by
          intro hl
          first | exact h9_1 (by rw [errN, if_pos hl.ha]) | exact h9_4 (by rw [errN, if_pos hl.hb]) | exact h9_11 (by rw [hn.kind hl.ha, hn2.kind hl.hb]; exact hl.kind) | exact h9_18 (by rw [hn.space hl.ha, hn2.space hl.hb]; exact hl.space) | exact h9_25 (by rw [hn.name hl.ha, hn2.name hl.hb]; exact hl.name) | exact h9_32 (by rw [hn.data hl.ha, hn2.data hl.hb]; exact hl.data) | exact h9_39 (by rw [hn.system hl.ha, hn2.system hl.hb]; exact hl.system)
        exact fin1 rfl rfl ⟨_, ⟨by rw [hI.res, sameN_no t g hno]; simp, rfl⟩, hO.only [.o a, .o bb]⟩
      · refine l_y rfl rfl (y_move rfl) ?_
        refine l_y rfl rfl (y_move rfl) ?_
        refine Z1 (fun h9_4 => ?_) (fun h9_4 => ?_)
        · refine l_y rfl rfl (y_pick_f rfl rfl) ?_
          refine l_y rfl rfl (y_move rfl) ?_
          repeat refine M2 ?_
          refine l_y rfl rfl (y_pick_t rfl rfl) ?_
          refine l_y rfl rfl (y_move rfl) ?_
          repeat refine M2 ?_
          refine l_y rfl rfl (y_pick_t rfl rfl) ?_
          refine l_y rfl rfl (y_move rfl) ?_
          repeat refine M2 ?_
          refine l_y rfl rfl (y_pick_t rfl rfl) ?_
          refine l_y rfl rfl (y_move rfl) ?_
          repeat refine M2 ?_
          refine l_y rfl rfl (y_pick_t rfl rfl) ?_
          refine l_y rfl rfl (y_move rfl) ?_
          repeat refine M2 ?_
          refine l_y rfl rfl (y_pick_t rfl rfl) ?_
          refine l_y rfl rfl (y_assign rfl) ?_
          refine K2 (K3 (L8 (K0 (K1 ?_))))
          refine l_y rfl rfl (y_assign rfl) ?_
          refine K2 (K3 (K6 (L0 (K9 (L0 (K9 (K9 (L0 (K9 ?_)))))))))
          have hno : ¬ Loc A K BB LL s.2.2.1.x s.2.2.1.y := by
            intro hl
            first | exact h9_1 (by rw [errN, if_pos hl.ha]) | exact h9_4 (by rw [errN, if_pos hl.hb]) | exact h9_11 (by rw [hn.kind hl.ha, hn2.kind hl.hb]; exact hl.kind) | exact h9_18 (by rw [hn.space hl.ha, hn2.space hl.hb]; exact hl.space) | exact h9_25 (by rw [hn.name hl.ha, hn2.name hl.hb]; exact hl.name) | exact h9_32 (by rw [hn.data hl.ha, hn2.data hl.hb]; exact hl.data) | exact h9_39 (by rw [hn.system hl.ha, hn2.system hl.hb]; exact hl.system)
          exact fin1 rfl rfl ⟨_, ⟨by rw [hI.res, sameN_no t g hno]; simp, rfl⟩, hO.only [.o a, .o bb]⟩
        · refine l_y rfl rfl (y_pick_f rfl rfl) ?_
          refine l_y rfl rfl (y_move rfl) ?_
          have hax := errN_zero h9_1
          have hbx := errN_zero h9_4
          refine l_y rfl rfl (y_fldb (o' := 0) rfl) ?_
          refine l_y rfl rfl (D5 hO rfl) ?_
          refine l_y rfl rfl (y_fldb (o' := 0) rfl) ?_
          refine l_y rfl rfl (D5 hO rfl) ?_
          refine Z1 (fun h9_11 => ?_) (fun h9_11 => ?_)
          · refine l_y rfl rfl (y_pick_f rfl rfl) ?_
            refine l_y rfl rfl (y_move rfl) ?_
            repeat refine M2 ?_
            refine l_y rfl rfl (y_pick_t rfl rfl) ?_
            refine l_y rfl rfl (y_move rfl) ?_
            repeat refine M2 ?_
            refine l_y rfl rfl (y_pick_t rfl rfl) ?_
            refine l_y rfl rfl (y_move rfl) ?_
            repeat refine M2 ?_
            refine l_y rfl rfl (y_pick_t rfl rfl) ?_
            refine l_y rfl rfl (y_move rfl) ?_
            repeat refine M2 ?_
            refine l_y rfl rfl (y_pick_t rfl rfl) ?_
            refine l_y rfl rfl (y_assign rfl) ?_
            refine K2 (K3 (L8 (K0 (K1 ?_))))
            refine l_y rfl rfl (y_assign rfl) ?_
            refine K2 (K3 (K6 (L0 (K9 (L0 (K9 (K9 (L0 (K9 ?_)))))))))
            have hno : ¬ Loc A K BB LL s.2.2.1.x s.2.2.1.y := by
              intro hl
              first | exact h9_1 (by rw [errN, if_pos hl.ha]) | exact h9_4 (by rw [errN, if_pos hl.hb]) | exact h9_11 (by rw [hn.kind hl.ha, hn2.kind hl.hb]; exact hl.kind) | exact h9_18 (by rw [hn.space hl.ha, hn2.space hl.hb]; exact hl.space) | exact h9_25 (by rw [hn.name hl.ha, hn2.name hl.hb]; exact hl.name) | exact h9_32 (by rw [hn.data hl.ha, hn2.data hl.hb]; exact hl.data) | exact h9_39 (by rw [hn.system hl.ha, hn2.system hl.hb]; exact hl.system)
            exact fin1 rfl rfl ⟨_, ⟨by rw [hI.res, sameN_no t g hno]; simp, rfl⟩, hO.only [.o a, .o bb]⟩
          · refine l_y rfl rfl (y_pick_f rfl rfl) ?_
            refine l_y rfl rfl (y_move rfl) ?_
            refine l_y rfl rfl (y_fldb (o' := 1) rfl) ?_
            refine l_y rfl rfl (D5 hO rfl) ?_
            refine l_y rfl rfl (y_fldb (o' := 1) rfl) ?_
            refine l_y rfl rfl (D5 hO rfl) ?_
            refine Z1 (fun h9_18 => ?_) (fun h9_18 => ?_)
            · refine l_y rfl rfl (y_pick_f rfl rfl) ?_
              refine l_y rfl rfl (y_move rfl) ?_
              repeat refine M2 ?_
              refine l_y rfl rfl (y_pick_t rfl rfl) ?_
              refine l_y rfl rfl (y_move rfl) ?_
              repeat refine M2 ?_
              refine l_y rfl rfl (y_pick_t rfl rfl) ?_
              refine l_y rfl rfl (y_move rfl) ?_
              repeat refine M2 ?_
              refine l_y rfl rfl (y_pick_t rfl rfl) ?_
              refine l_y rfl rfl (y_assign rfl) ?_
              refine K2 (K3 (L8 (K0 (K1 ?_))))
              refine l_y rfl rfl (y_assign rfl) ?_
              refine K2 (K3 (K6 (L0 (K9 (L0 (K9 (K9 (L0 (K9 ?_)))))))))
              have hno : ¬ Loc A K BB LL s.2.2.1.x s.2.2.1.y := by
                intro hl
                first | exact h9_1 (by rw [errN, if_pos hl.ha]) | exact h9_4 (by rw [errN, if_pos hl.hb]) | exact h9_11 (by rw [hn.kind hl.ha, hn2.kind hl.hb]; exact hl.kind) | exact h9_18 (by rw [hn.space hl.ha, hn2.space hl.hb]; exact hl.space) | exact h9_25 (by rw [hn.name hl.ha, hn2.name hl.hb]; exact hl.name) | exact h9_32 (by rw [hn.data hl.ha, hn2.data hl.hb]; exact hl.data) | exact h9_39 (by rw [hn.system hl.ha, hn2.system hl.hb]; exact hl.system)
              exact fin1 rfl rfl ⟨_, ⟨by rw [hI.res, sameN_no t g hno]; simp, rfl⟩, hO.only [.o a, .o bb]⟩
            · refine l_y rfl rfl (y_pick_f rfl rfl) ?_
              refine l_y rfl rfl (y_move rfl) ?_
              refine l_y rfl rfl (y_fldb (o' := 2) rfl) ?_
              refine l_y rfl rfl (D5 hO rfl) ?_
              refine l_y rfl rfl (y_fldb (o' := 2) rfl) ?_
              refine l_y rfl rfl (D5 hO rfl) ?_
              refine Z3 (fun h9_25 => ?_) (fun h9_25 => ?_)
              · refine l_y rfl rfl (y_pick_f rfl rfl) ?_
                refine l_y rfl rfl (y_move rfl) ?_
                repeat refine M2 ?_
                refine l_y rfl rfl (y_pick_t rfl rfl) ?_
                refine l_y rfl rfl (y_move rfl) ?_
                repeat refine M2 ?_
                refine l_y rfl rfl (y_pick_t rfl rfl) ?_
                refine l_y rfl rfl (y_assign rfl) ?_
                refine K2 (K3 (L8 (K0 (K1 ?_))))
                refine l_y rfl rfl (y_assign rfl) ?_
                refine K2 (K3 (K6 (L0 (K9 (L0 (K9 (K9 (L0 (K9 ?_)))))))))
                have hno : ¬ Loc A K BB LL s.2.2.1.x s.2.2.1.y := by
                  intro hl
                  first | exact h9_1 (by rw [errN, if_pos hl.ha]) | exact h9_4 (by rw [errN, if_pos hl.hb]) | exact h9_11 (by rw [hn.kind hl.ha, hn2.kind hl.hb]; exact hl.kind) | exact h9_18 (by rw [hn.space hl.ha, hn2.space hl.hb]; exact hl.space) | exact h9_25 (by rw [hn.name hl.ha, hn2.name hl.hb]; exact hl.name) | exact h9_32 (by rw [hn.data hl.ha, hn2.data hl.hb]; exact hl.data) | exact h9_39 (by rw [hn.system hl.ha, hn2.system hl.hb]; exact hl.system)
                exact fin1 rfl rfl ⟨_, ⟨by rw [hI.res, sameN_no t g hno]; simp, rfl⟩, hO.only [.o a, .o bb]⟩
              · refine l_y rfl rfl (y_pick_f rfl rfl) ?_
                refine l_y rfl rfl (y_move rfl) ?_
                refine l_y rfl rfl (y_fldb (o' := 4) rfl) ?_
                refine l_y rfl rfl (D5 hO rfl) ?_
                refine l_y rfl rfl (y_fldb (o' := 4) rfl) ?_
                refine l_y rfl rfl (D5 hO rfl) ?_
                refine Z3 (fun h9_32 => ?_) (fun h9_32 => ?_)
                · refine l_y rfl rfl (y_pick_f rfl rfl) ?_
                  refine l_y rfl rfl (y_move rfl) ?_
                  repeat refine M2 ?_
                  refine l_y rfl rfl (y_pick_t rfl rfl) ?_
                  refine l_y rfl rfl (y_assign rfl) ?_
                  refine K2 (K3 (L8 (K0 (K1 ?_))))
                  refine l_y rfl rfl (y_assign rfl) ?_
                  refine K2 (K3 (K6 (L0 (K9 (L0 (K9 (K9 (L0 (K9 ?_)))))))))
                  have hno : ¬ Loc A K BB LL s.2.2.1.x s.2.2.1.y := by
                    intro hl
                    first | exact h9_1 (by rw [errN, if_pos hl.ha]) | exact h9_4 (by rw [errN, if_pos hl.hb]) | exact h9_11 (by rw [hn.kind hl.ha, hn2.kind hl.hb]; exact hl.kind) | exact h9_18 (by rw [hn.space hl.ha, hn2.space hl.hb]; exact hl.space) | exact h9_25 (by rw [hn.name hl.ha, hn2.name hl.hb]; exact hl.name) | exact h9_32 (by rw [hn.data hl.ha, hn2.data hl.hb]; exact hl.data) | exact h9_39 (by rw [hn.system hl.ha, hn2.system hl.hb]; exact hl.system)
                  exact fin1 rfl rfl ⟨_, ⟨by rw [hI.res, sameN_no t g hno]; simp, rfl⟩, hO.only [.o a, .o bb]⟩
                · refine l_y rfl rfl (y_pick_f rfl rfl) ?_
                  refine l_y rfl rfl (y_move rfl) ?_
                  refine l_y rfl rfl (y_fldb (o' := 5) rfl) ?_
                  refine l_y rfl rfl (D5 hO rfl) ?_
                  refine l_y rfl rfl (y_fldb (o' := 5) rfl) ?_
                  refine l_y rfl rfl (D5 hO rfl) ?_
                  refine Z3 (fun h9_39 => ?_) (fun h9_39 => ?_)
                  · refine l_y rfl rfl (y_pick_f rfl rfl) ?_
                    refine l_y rfl rfl (y_assign rfl) ?_
                    refine K2 (K3 (L8 (K0 (K1 ?_))))
                    refine l_y rfl rfl (y_assign rfl) ?_
                    refine K2 (K3 (K6 (L0 (K9 (L0 (K9 (K9 (L0 (K9 ?_)))))))))
                    have hno : ¬ Loc A K BB LL s.2.2.1.x s.2.2.1.y := by
                      intro hl
                      first | exact h9_1 (by rw [errN, if_pos hl.ha]) | exact h9_4 (by rw [errN, if_pos hl.hb]) | exact h9_11 (by rw [hn.kind hl.ha, hn2.kind hl.hb]; exact hl.kind) | exact h9_18 (by rw [hn.space hl.ha, hn2.space hl.hb]; exact hl.space) | exact h9_25 (by rw [hn.name hl.ha, hn2.name hl.hb]; exact hl.name) | exact h9_32 (by rw [hn.data hl.ha, hn2.data hl.hb]; exact hl.data) | exact h9_39 (by rw [hn.system hl.ha, hn2.system hl.hb]; exact hl.system)
                    exact fin1 rfl rfl ⟨_, ⟨by rw [hI.res, sameN_no t g hno]; simp, rfl⟩, hO.only [.o a, .o bb]⟩
                  · refine l_y rfl rfl (y_pick_f rfl rfl) ?_
                    refine l_y rfl rfl (y_assign rfl) ?_
                    refine K2 (K3 (L9 (K0 ?_)))
                    have hna : n.Attrs.length ≤ 1024 := by rw [hn.attrs hax]; have h := inA_iff.1 hax; exact t.attrs _ (by have := h.1; have := h.2; omega)
                    have hkx : kidsX A K s.2.2.1.x = K s.2.2.1.x := by rw [kidsX, if_pos hax]
                    have hky : kidsX BB LL s.2.2.1.y = LL s.2.2.1.y := by rw [kidsX, if_pos hbx]
                    have hinn : Loc A K BB LL s.2.2.1.x s.2.2.1.y → (n.Inner = -1 ↔ n2.Inner = -1) := fun h => by rw [hn.inner hax, hn2.inner hbx]; exact h.inner
                    refine K1 ?_
                    refine l_y rfl rfl (y_fldb (o' := 3) rfl) ?_
                    refine l_y rfl rfl (D5 hO rfl) ?_
                    refine l_y rfl rfl (y_fldb (o' := 3) rfl) ?_
                    refine l_y rfl rfl (D5 hO rfl) ?_
                    refine CK [] hO rfl (fun k' hx hr hO' => Equal_spec (sls_roK (p := n.AttrsP) hr (sls_fct hO)) (sls_roK (p := n2.AttrsP) hr (sls_fct hO)) (by omega) hO') ?_
                    rintro _ _ w ⟨rfl, rfl⟩ hO
                    simp only [List.cons_append, List.nil_append] at hO
                    refine l_y rfl rfl (y_not rfl rfl) ?_
                    refine l_y rfl rfl (y_move rfl) ?_
                    refine l_split 104 rfl (fun hg104 => ?_) (fun hg104 => ?_)
                    · simp only [Bool.not_eq_true', Bool.not_eq_false'] at hg104
                      repeat refine M2 ?_
                      refine l_y rfl rfl (y_pick_t rfl rfl) ?_
                      refine l_y rfl rfl (y_move rfl) ?_
                      repeat refine M2 ?_
                      refine l_y rfl rfl (y_pick_t rfl rfl) ?_
                      refine l_y rfl rfl (y_assign rfl) ?_
                      refine K2 (K3 (L8 (K0 (K1 ?_))))
                      refine l_y rfl rfl (y_assign rfl) ?_
                      refine K2 (K3 (K6 (L0 (K9 (L0 (K9 (K9 (L0 (K9 ?_)))))))))
                      have hno : ¬ Loc A K BB LL s.2.2.1.x s.2.2.1.y := by
                        intro hl
                        first | exact (of_decide_eq_false hg104) (by rw [hn.attrs hax, hn2.attrs hbx]; exact hl.attrs) | exact h11_11 (by rw [hkx, hky]; exact congrArg _ hl.kids) | exact h11_19 ((hinn hl).1 h11_16) | exact h11_16 ((hinn hl).2 h11_19)
                      exact fin1 rfl rfl ⟨_, ⟨by rw [hI.res, sameN_no t g hno]; simp, rfl⟩, hO.only [.o a, .o bb]⟩
                    · simp only [Bool.not_eq_true', Bool.not_eq_false'] at hg104
                      refine l_y rfl rfl (y_move rfl) ?_
                      refine l_y rfl rfl (y_lenL rfl) ?_
                      refine l_y rfl rfl (y_move rfl) ?_
                      refine l_y rfl rfl (y_lenL rfl) ?_
                      refine Z1 (fun h11_11 => ?_) (fun h11_11 => ?_)
                      · refine l_y rfl rfl (y_pick_f rfl rfl) ?_
                        refine l_y rfl rfl (y_move rfl) ?_
                        repeat refine M2 ?_
                        refine l_y rfl rfl (y_pick_t rfl rfl) ?_
                        refine l_y rfl rfl (y_assign rfl) ?_
                        refine K2 (K3 (L8 (K0 (K1 ?_))))
                        refine l_y rfl rfl (y_assign rfl) ?_
                        refine K2 (K3 (K6 (L0 (K9 (L0 (K9 (K9 (L0 (K9 ?_)))))))))
                        have hno : ¬ Loc A K BB LL s.2.2.1.x s.2.2.1.y := by
                          intro hl
                          first | exact (of_decide_eq_false hg104) (by rw [hn.attrs hax, hn2.attrs hbx]; exact hl.attrs) | exact h11_11 (by rw [hkx, hky]; exact congrArg _ hl.kids) | exact h11_19 ((hinn hl).1 h11_16) | exact h11_16 ((hinn hl).2 h11_19)
                        exact fin1 rfl rfl ⟨_, ⟨by rw [hI.res, sameN_no t g hno]; simp, rfl⟩, hO.only [.o a, .o bb]⟩
                      · refine l_y rfl rfl (y_pick_f rfl rfl) ?_
                        refine l_y rfl rfl (y_move rfl) ?_
                        refine l_y rfl rfl (y_fldb (o' := 11) rfl) ?_
                        refine l_y rfl rfl (D5 hO rfl) ?_
                        refine Z0 (fun h11_16 => ?_) (fun h11_16 => ?_)
                        · refine l_y rfl rfl (y_fldb (o' := 11) rfl) ?_
                          refine l_y rfl rfl (D5 hO rfl) ?_
                          refine Z0 (fun h11_19 => ?_) (fun h11_19 => ?_)
                          · refine l_y rfl rfl (y_neB rfl rfl rfl) ?_
                            refine l_y rfl rfl (y_pick_f rfl rfl) ?_
                            refine l_y rfl rfl (y_assign rfl) ?_
                            refine K2 (K3 (L9 (K0 ?_)))
                            have hloc : Loc A K BB LL s.2.2.1.x s.2.2.1.y := ⟨hax, hbx, by rw [← hn.kind hax, ← hn2.kind hbx]; exact h9_11, by rw [← hn.space hax, ← hn2.space hbx]; exact h9_18, by rw [← hn.name hax, ← hn2.name hbx]; exact h9_25, by rw [← hn.data hax, ← hn2.data hbx]; exact h9_32, by rw [← hn.system hax, ← hn2.system hbx]; exact h9_39, by rw [← hn.attrs hax, ← hn2.attrs hbx]; exact of_decide_eq_true hg104, by rw [← hkx, ← hky]; omega, by rw [← hn.inner hax, ← hn2.inner hbx]; omega⟩
                            refine K1 ?_
                            refine l_y rfl rfl (y_fldb (o' := 11) rfl) ?_
                            refine l_y rfl rfl (D5 hO rfl) ?_
                            refine Z1 (fun h13_2 => ?_) (fun h13_2 => ?_)
                            · first
                              | (exfalso; omega)
                              | skip
                                refine l_y rfl rfl (y_assign rfl) ?_
                                refine K2 (K3 (L8 (K1 ?_)))
                                refine l_y rfl rfl (y_fldb (o' := 11) rfl) ?_
                                refine l_y rfl rfl (D5 hO rfl) ?_
                                refine l_y rfl rfl (y_fldb (o' := 11) rfl) ?_
                                refine l_y rfl rfl (D5 hO rfl) ?_
                                refine s_build (parts := [(0, .tmp 125), (1, .tmp 127)]) (cs := [.int .i64 n.Inner, .int .i64 n2.Inner]) rfl rfl (fun a ha => partsOf_sound ha _ _ rfl) (by kernel_rfl) ?_
                                refine s_lit (parts := [(0, .tmp 128)]) (enc := Show_twin.cells) [⟨n.Inner, n2.Inner⟩] [.agg [.int .i64 n.Inner, .int .i64 n2.Inner].toArray] hO rfl (fun b129 w hO => ?_)
                                refine CK [.o b9] hO rfl (fun k' hx hr hO' => pushtwin_spec (ys := [⟨n.Inner, n2.Inner⟩]) (sls_roK (p := some ⟨b129, 0, none⟩) hr (sls_fct hO)) (by simp only [List.length_cons, List.length_nil]; omega) (hO := hO')) ?_
                                rintro _ _ w rfl hO
                                simp only [List.cons_append, List.nil_append] at hO
                                have hl1 : s.2.2.2 ++ [⟨n.Inner, n2.Inner⟩] = s.2.2.2 ++ innT1 A BB s.2.2.1.x s.2.2.1.y := by rw [innT1, if_neg (by rw [← hn.inner hax]; omega), hn.inner hax, hn2.inner hbx]
                                refine K2 (K8 ?_)
                                exact q_cut (_) ⟨rfl, rfl, rfl, rfl, rfl, rfl, rfl, trivial⟩ ⟨hO.only [.o a, .o bb, .o b9, .b s.1, .p q1, .p q2], hloc, hl1⟩
                            · first
                              | (exfalso; omega)
                              | skip
                                have hl1 : s.2.2.2 = s.2.2.2 ++ innT1 A BB s.2.2.1.x s.2.2.1.y := by rw [innT1, if_pos (by rw [← hn.inner hax]; omega), List.append_nil]
                                refine l_y rfl rfl (y_assign rfl) ?_
                                refine K2 (K3 (L9 (K5 (K8 ?_))))
                                exact q_cut (_) ⟨rfl, rfl, rfl, rfl, rfl, rfl, rfl, trivial⟩ ⟨hO.only [.o a, .o bb, .o b9, .b s.1, .p q1, .p q2], hloc, hl1⟩
                          · refine l_y rfl rfl (y_neB rfl rfl rfl) ?_
                            refine l_y rfl rfl (y_pick_f rfl rfl) ?_
                            refine l_y rfl rfl (y_assign rfl) ?_
                            refine K2 (K3 (L8 (K0 (K1 ?_))))
                            refine l_y rfl rfl (y_assign rfl) ?_
                            refine K2 (K3 (K6 (L0 (K9 (L0 (K9 (K9 (L0 (K9 ?_)))))))))
                            have hno : ¬ Loc A K BB LL s.2.2.1.x s.2.2.1.y := by
                              intro hl
                              first | exact (of_decide_eq_false hg104) (by rw [hn.attrs hax, hn2.attrs hbx]; exact hl.attrs) | exact h11_11 (by rw [hkx, hky]; exact congrArg _ hl.kids) | exact h11_19 ((hinn hl).1 h11_16) | exact h11_16 ((hinn hl).2 h11_19)
                            exact fin1 rfl rfl ⟨_, ⟨by rw [hI.res, sameN_no t g hno]; simp, rfl⟩, hO.only [.o a, .o bb]⟩
                        · refine l_y rfl rfl (y_fldb (o' := 11) rfl) ?_
                          refine l_y rfl rfl (D5 hO rfl) ?_
                          refine Z0 (fun h11_19 => ?_) (fun h11_19 => ?_)
                          · refine l_y rfl rfl (y_neB rfl rfl rfl) ?_
                            refine l_y rfl rfl (y_pick_f rfl rfl) ?_
                            refine l_y rfl rfl (y_assign rfl) ?_
                            refine K2 (K3 (L8 (K0 (K1 ?_))))
                            refine l_y rfl rfl (y_assign rfl) ?_
                            refine K2 (K3 (K6 (L0 (K9 (L0 (K9 (K9 (L0 (K9 ?_)))))))))
                            have hno : ¬ Loc A K BB LL s.2.2.1.x s.2.2.1.y := by
                              intro hl
                              first | exact (of_decide_eq_false hg104) (by rw [hn.attrs hax, hn2.attrs hbx]; exact hl.attrs) | exact h11_11 (by rw [hkx, hky]; exact congrArg _ hl.kids) | exact h11_19 ((hinn hl).1 h11_16) | exact h11_16 ((hinn hl).2 h11_19)
                            exact fin1 rfl rfl ⟨_, ⟨by rw [hI.res, sameN_no t g hno]; simp, rfl⟩, hO.only [.o a, .o bb]⟩
                          · refine l_y rfl rfl (y_neB rfl rfl rfl) ?_
                            refine l_y rfl rfl (y_pick_f rfl rfl) ?_
                            refine l_y rfl rfl (y_assign rfl) ?_
                            refine K2 (K3 (L9 (K0 ?_)))
                            have hloc : Loc A K BB LL s.2.2.1.x s.2.2.1.y := ⟨hax, hbx, by rw [← hn.kind hax, ← hn2.kind hbx]; exact h9_11, by rw [← hn.space hax, ← hn2.space hbx]; exact h9_18, by rw [← hn.name hax, ← hn2.name hbx]; exact h9_25, by rw [← hn.data hax, ← hn2.data hbx]; exact h9_32, by rw [← hn.system hax, ← hn2.system hbx]; exact h9_39, by rw [← hn.attrs hax, ← hn2.attrs hbx]; exact of_decide_eq_true hg104, by rw [← hkx, ← hky]; omega, by rw [← hn.inner hax, ← hn2.inner hbx]; omega⟩
                            refine K1 ?_
                            refine l_y rfl rfl (y_fldb (o' := 11) rfl) ?_
                            refine l_y rfl rfl (D5 hO rfl) ?_
                            refine Z1 (fun h13_2 => ?_) (fun h13_2 => ?_)
                            · first
                              | (exfalso; omega)
                              | skip
                                refine l_y rfl rfl (y_assign rfl) ?_
                                refine K2 (K3 (L8 (K1 ?_)))
                                refine l_y rfl rfl (y_fldb (o' := 11) rfl) ?_
                                refine l_y rfl rfl (D5 hO rfl) ?_
                                refine l_y rfl rfl (y_fldb (o' := 11) rfl) ?_
                                refine l_y rfl rfl (D5 hO rfl) ?_
                                refine s_build (parts := [(0, .tmp 125), (1, .tmp 127)]) (cs := [.int .i64 n.Inner, .int .i64 n2.Inner]) rfl rfl (fun a ha => partsOf_sound ha _ _ rfl) (by kernel_rfl) ?_
                                refine s_lit (parts := [(0, .tmp 128)]) (enc := Show_twin.cells) [⟨n.Inner, n2.Inner⟩] [.agg [.int .i64 n.Inner, .int .i64 n2.Inner].toArray] hO rfl (fun b129 w hO => ?_)
                                refine CK [.o b9] hO rfl (fun k' hx hr hO' => pushtwin_spec (ys := [⟨n.Inner, n2.Inner⟩]) (sls_roK (p := some ⟨b129, 0, none⟩) hr (sls_fct hO)) (by simp only [List.length_cons, List.length_nil]; omega) (hO := hO')) ?_
                                rintro _ _ w rfl hO
                                simp only [List.cons_append, List.nil_append] at hO
                                have hl1 : s.2.2.2 ++ [⟨n.Inner, n2.Inner⟩] = s.2.2.2 ++ innT1 A BB s.2.2.1.x s.2.2.1.y := by rw [innT1, if_neg (by rw [← hn.inner hax]; omega), hn.inner hax, hn2.inner hbx]
                                refine K2 (K8 ?_)
                                exact q_cut (_) ⟨rfl, rfl, rfl, rfl, rfl, rfl, rfl, trivial⟩ ⟨hO.only [.o a, .o bb, .o b9, .b s.1, .p q1, .p q2], hloc, hl1⟩
                            · first
                              | (exfalso; omega)
                              | skip
                                have hl1 : s.2.2.2 = s.2.2.2 ++ innT1 A BB s.2.2.1.x s.2.2.1.y := by rw [innT1, if_pos (by rw [← hn.inner hax]; omega), List.append_nil]
                                refine l_y rfl rfl (y_assign rfl) ?_
                                refine K2 (K3 (L9 (K5 (K8 ?_))))
                                exact q_cut (_) ⟨rfl, rfl, rfl, rfl, rfl, rfl, rfl, trivial⟩ ⟨hO.only [.o a, .o bb, .o b9, .b s.1, .p q1, .p q2], hloc, hl1⟩
    · rintro l1 w ⟨hO, hloc, hl1⟩
      refine K0 ?_
      have hxi := inA_iff.1 hloc.ha
      have hkx : kidsX A K s.2.2.1.x = K s.2.2.1.x := by rw [kidsX, if_pos hloc.ha]
      have hky : kidsX BB LL s.2.2.1.y = LL s.2.2.1.y := by rw [kidsX, if_pos hloc.hb]
      have hkk := hloc.kids
      have hkl := t.len hxi
      have hll : l1.length ≤ s.2.2.2.length + 1 := by rw [hl1, List.length_append, innT1]; split <;> simp
      have hg1 := (sls_fct (p := q1) hO).2
      have hg2 := (sls_fct (p := q2) hO).2
      rw [hkx, hky] at hO
      rw [hkx] at hg1
      rw [hky] at hg2
      rw [hkx, hky]
      rw [show l1 = l1 ++ ((((K s.2.2.1.x).zip (LL s.2.2.1.y)).map toT).take 0) by simp] at hO
      refine K1 ?_
      refine l_y rfl rfl (y_move rfl) ?_
      refine l_y rfl rfl (y_lenL rfl) ?_
      refine l_y rfl rfl (y_move rfl) ?_
      refine K2 (K3 (K4 ?_))
      refine c_rounds (X := Nat) (fun i => [(0, .pointer (some ⟨a, 0, none⟩)), (2, .pointer (some ⟨bb, 0, none⟩)), (8, .bool false), (9, .pointer (some ⟨b9, 0, none⟩)), (10, .pointer (some ⟨s.1, 0, none⟩)), (16, .slice q1 (K s.2.2.1.x).length d1), (17, .slice q2 (LL s.2.2.1.y).length d2), (132, .int .i64 (((K s.2.2.1.x).length : Nat) : Int)), (133, .int .i64 (i : Int))]) (fun i w => Own k w [arenaL a A, arenaL bb BB, piletwin b9 (l1 ++ ((((K s.2.2.1.x).zip (LL s.2.2.1.y)).map toT).take i)), blk s.1 124 (Show_twin.cells s.2.2.1), sls q1 d1 3 1 (eI .i64) (K s.2.2.1.x), sls q2 d2 3 1 (eI .i64) (LL s.2.2.1.y)] ∧ (i ≤ (K s.2.2.1.x).length)) (fun i => (K s.2.2.1.x).length - i) (0) ⟨rfl, rfl, rfl, rfl, rfl, rfl, rfl, rfl, rfl, trivial⟩ ⟨hO.only [.o a, .o bb, .o b9, .b s.1, .p q1, .p q2], Nat.zero_le _⟩ ?_
      rintro i w m hm ⟨hO, hil⟩
      refine K0 (K1 ?_)
      refine Z0 (fun h16_0 => ?_) (fun h16_0 => ?_)
      · refine K2 (K3 (K0 (L8 (K5 (K3 (K0 (K4 (K0 (K1 ?_)))))))))
        refine l_y rfl rfl (y_move rfl) ?_
        refine l_y rfl rfl (y_assign rfl) ?_
        refine K2 (K3 ?_)
        refine da_region (by intro c a d v w h; cases d <;> exact h) ?_
        have hO := hO.drew
        refine da_phase _ [8] (SO.ks [.p q1, .p q2] hO) ?_
        refine dx_u 0 (by kernel_rfl) rfl rfl rfl (fun w => y_move rfl) ?_
        refine dx_u 1 (by kernel_rfl) rfl rfl rfl (fun w => y_move rfl) ?_
        refine dx_u 2 (by kernel_rfl) rfl rfl rfl (fun w => y_idx rfl rfl) ?_
        refine dx_y 3 (by kernel_rfl) rfl rfl rfl (fun w ⟨m, hw⟩ => y_e1 (x0 := 0) hw rfl) ?_
        refine dx_u 4 (by kernel_rfl) rfl rfl rfl (fun w => y_move rfl) ?_
        refine dx_u 5 (by kernel_rfl) rfl rfl rfl (fun w => y_move rfl) ?_
        refine dx_u 6 (by kernel_rfl) rfl rfl rfl (fun w => y_idx rfl rfl) ?_
        refine dx_y 7 (by kernel_rfl) rfl rfl rfl (fun w ⟨m, hw⟩ => y_e1 (x0 := 0) hw rfl) ?_
        refine dx_close 8 (by kernel_rfl) rfl rfl ?_
        refine s_build (parts := [(0, .tmp 139), (1, .tmp 143)]) (cs := [.int .i64 (at_ (K s.2.2.1.x) ((i : Int) : Int).toNat), .int .i64 (at_ (LL s.2.2.1.y) ((i : Int) : Int).toNat)]) rfl rfl (fun a ha => partsOf_sound ha _ _ rfl) (by kernel_rfl) ?_
        refine o_done ?_
        refine da_only 9 (by kernel_rfl) rfl ?_
        refine s_lit (parts := [(0, .tmp 144)]) (enc := Show_twin.cells) [⟨(at_ (K s.2.2.1.x) ((i : Int) : Int).toNat), (at_ (LL s.2.2.1.y) ((i : Int) : Int).toNat)⟩] [.agg [.int .i64 (at_ (K s.2.2.1.x) ((i : Int) : Int).toNat), .int .i64 (at_ (LL s.2.2.1.y) ((i : Int) : Int).toNat)].toArray] hO rfl (fun b145 w hO => ?_)
        refine o_done ?_
        refine da_only 10 (by kernel_rfl) rfl ?_
        refine CK [.o b9] hO rfl (fun k' hx hr hO' => pushtwin_spec (ys := [⟨at_ (K s.2.2.1.x) i, at_ (LL s.2.2.1.y) i⟩]) (sls_roK (p := some ⟨b145, 0, none⟩) hr (sls_fct hO)) (by simp only [List.length_append, List.length_take, List.length_cons, List.length_nil]; omega) (hO := hO')) ?_
        rintro _ _ w rfl hO
        simp only [List.cons_append, List.nil_append] at hO
        rw [List.append_assoc, ← zip_at (show i < (K s.2.2.1.x).length by omega) hkk] at hO
        refine o_done ?_
        refine da_end (by kernel_rfl) ?_
        refine K8 (K3 (K1 ?_))
        refine l_y rfl rfl (D4) ?_
        refine l_y rfl rfl (y_move rfl) ?_
        refine K2 ?_
        exact q_next (i + 1) ⟨rfl, rfl, rfl, rfl, rfl, rfl, rfl, rfl, rfl, trivial⟩ ⟨hO.only [.o a, .o bb, .o b9, .b s.1, .p q1, .p q2], by omega⟩ (by omega)
      · refine K2 (K3 (K0 (L9 (K7 (L1 (L1 (L2 (K8 (K3 (K0 (K0 ?_)))))))))))
        have ei : i = (K s.2.2.1.x).length := by omega
        rw [ei, List.take_of_length_le (by rw [List.length_map, List.length_zip]; omega), hl1, List.append_assoc, ← belowT] at hO
        refine K1 ?_
        refine l_y rfl rfl (D8 (cs := [.int .i64 s.2.2.1.x, .int .i64 s.2.2.1.y]) hO rfl) ?_
        refine K2 (K3 (K1 ?_))
        refine s_alloc (vs := [.int .i64 0, .int .i64 0]) hO rfl rfl rfl fun b10 w hO => ?_
        refine Y3 hO rfl rfl (fun w hO => ?_)
        refine K2 (K3 (K1 ?_))
        refine CK [.o b9] hO rfl (fun k' hx hr hO' => popT_spec (by rw [belowT]; simp only [List.length_append, List.length_map, List.length_zip] at hll ⊢; rw [hl1] at hll; simp only [List.length_append] at hll; omega) hO') ?_
        rintro _ _ w ⟨c2, ok2, l2, hp2, rfl, rfl⟩ hO
        simp only [List.cons_append, List.nil_append] at hO
        have hJ := hI.next t g hloc hp2
        refine l_y rfl rfl (y_move rfl) ?_
        refine l_y rfl rfl (y_extract rfl rfl) ?_
        refine l_y rfl rfl (y_extract rfl rfl) ?_
        refine Y3 hO rfl rfl (fun w hO => ?_)
        refine l_y rfl rfl (y_assign rfl) ?_
        refine K2 ?_
        exact q_next ((b10, ok2, c2, l2)) ⟨rfl, rfl, rfl, rfl, rfl, rfl, trivial⟩ ⟨hO.only [.o a, .o bb, .o b9, .b b10], hJ.1⟩ (by have h := hJ.2; dsimp only; omega)
  · refine K7 (L1 (L1 (L2 (K3 (K0 (K1 ?_))))))
    refine l_y rfl rfl (y_assign rfl) ?_
    refine K2 (K3 (K6 ?_))
    have hx := hI.res
    rw [hc28, hI.off hc28] at hx
    exact fin1 rfl rfl ⟨_, ⟨by rw [hx]; rfl, rfl⟩, hO.only [.o a, .o bb]⟩
end
end Go.Proofs.Ythkmnohghpdjhaa
