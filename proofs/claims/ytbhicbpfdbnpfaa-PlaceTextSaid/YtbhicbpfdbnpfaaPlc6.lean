/- The walks of Chars and of the law PlaceText. -/
import Derived.Test.YtbhicbpfdbnpfaaPlc4
import Derived.Test.YtbhicbpfdbnpfaaOrder2
import Derived.Laws.Cover4
set_option linter.unusedVariables false
set_option linter.unusedSimpArgs false
set_option maxRecDepth 100000
namespace Go.Proofs.Ytbhicbpfdbnpfaa
open Go Go.Hb Go.RowKit
/-! texts of code points -/
theorem runesBytes_app (a b : List Int) : runesBytes (a ++ b) = runesBytes a ++ runesBytes b := by
  have key : ∀ (b : List Int) (s : ByteArray), b.foldl (fun r n => r ++ Utf8.encode n) s = s ++ b.foldl (fun r n => r ++ Utf8.encode n) ByteArray.empty := by
    intro b
    induction b with
    | nil => intro s; simp
    | cons n b ih =>
      intro s
      simp only [List.foldl_cons]
      rw [ih (s ++ Utf8.encode n), ih (ByteArray.empty ++ Utf8.encode n)]
      simp [ByteArray.append_assoc]
  unfold runesBytes
  rw [List.foldl_append, key b]
theorem flat_i32 (xs : List Int) : (xs.map (eI .i32)).flatten = xs.map (Value.int .i32) := by
  induction xs with
  | nil => rfl
  | cons y ys ih => rw [List.map_cons, List.flatten_cons, ih]; rfl
section
variable {P : Program} {ops : Array Oper} {Q : Exit → Act → World → Prop} {n : Nat} {ds : List Deferred} {E : Env} {w : World} {k : Ctx} {l : List HP}
variable {rest : List Oper} {d : Option Tmp} {ty : TypeId} {pos : String} {aft : Array Edge} {g : Option (Nat × Bool)}
theorem y_runesStr {s t T : TypeId} {xs : List Int} {p : Option Addr} {m c : Nat} [hs : Und P s (.slice T)] [hb : Und P T (.int .i32)] [ht : Und P t .string] {x : Operand} (hv : Sli (Holds w) (.slice p m c) (xs.map (eI .i32))) (hx : ev E x = some (.slice p m c)) :
    Yld P n ds E w ⟨d, .convert s t x, ty, pos, aft, g⟩ (.string (runesBytes xs)) := by
  refine y_convert hx ?_
  obtain ⟨h1, h2⟩ := hv.fits
  rw [List.length_map] at h1
  subst h1
  cases p with
  | none =>
    have : xs = [] := by
      cases xs with
      | nil => rfl
      | cons y ys =>
        obtain ⟨p', c', he, _, h3⟩ := hv
        obtain ⟨b, o, hp, _⟩ := h3 (by simp)
        rw [hp] at he; cases he
    subst this
    exact run_convert_runes_nil w s t T _ _ hs.eq hb.eq ht.eq
  | some a =>
    have := run_convert_runes (P := P) w s t T a xs.length c xs (Nat.le_refl _) hs.eq hb.eq ht.eq (fun j hj => by
      obtain ⟨p', c', he, _, h3⟩ := hv
      obtain ⟨b, o, hp, hH⟩ := h3 (by intro e; rw [List.map_eq_nil_iff] at e; subst e; simp at hj)
      rw [hp] at he
      injection he with he _ _
      injection he with he
      subst he
      refine hH j _ ?_
      rw [flat_i32]
      simp [List.getD, List.getElem?_eq_getElem hj])
    rwa [List.take_length] at this
/-- a text's bytes, as a row of their own that is not written -/
def bys (b : Nat) (s : ByteArray) : HP := fun h => ∃ c T fz, h b = some (.cells c T fz) ∧ ∀ (j : Nat) (hj : j < s.data.toList.length), c[j]? = some (.int .u8 ((s.data.toList[j]).toNat : Int))
instance (priority := high) AtK.hbys (b : Nat) (s : ByteArray) (l : List HP) : AtK (bys b s :: l) (.o b) (bys b s) l := ⟨.hd _ l⟩
theorem s_bytesOf {s t T : TypeId} {str : ByteArray} [hs : Und P s .string] [ht : Und P t (.slice T)] [hb : Und P T (.int .u8)] {x : Operand} (hO : Own k w l) (hx : ev E x = some (.string str))
    (h : ∀ b c w', Own k w' (bys b str :: l) → LW P ops Q n ds rest (E.put d (.slice (some ⟨b, 0, none⟩) str.size c)) w') (hg : gd ops E g = some true := by rfl) (hd : dok n d = true := by rfl) : LW P ops Q n ds (⟨d, .convert s t x, ty, pos, aft, g⟩ :: rest) E w := by
  have hr := run_bytes_of_string (P := P) w s t T str hs.eq ht.eq hb.eq
  refine l_val (o := ⟨d, .convert s t x, ty, pos, aft, g⟩) (v := .slice (some ⟨w.heap.size, 0, none⟩) str.size (grownCap w str.size 0 T)) (w' := w.drew.alloc (.cells (bytesRow str (grownCap w str.size 0 T)) T ((bytesRow str (grownCap w str.size 0 T)).size, (bytesRow str (grownCap w str.size 0 T)).size + 1))) hg hd (fun a ha => by simp [execOp, ha.eval hx, hr]) (h _ _ _ ?_)
  refine hO.drew.alloc _ ⟨_, _, _, one_self _ _, fun j hj => ?_⟩
  unfold bytesRow
  rw [Array.getElem?_append_left (by simpa using hj)]
  simp only [Array.getElem?_map]
  have : str.data[j]? = some (str.data.toList[j]) := by
    rw [← Array.getElem?_toList, List.getElem?_eq_getElem hj]
  rw [this]; rfl
theorem y_bysStr {s t T : TypeId} {str : ByteArray} {b c : Nat} {rl : List HP} [hs : Und P s (.slice T)] [hb : Und P T (.int .u8)] [ht : Und P t .string] {x : Operand} (hO : Own k w l) [hm : AtK l (.o b) (bys b str) rl] (hx : ev E x = some (.slice (some ⟨b, 0, none⟩) str.size c)) :
    Yld P n ds E w ⟨d, .convert s t x, ty, pos, aft, g⟩ (.string str) := by
  refine y_convert hx ?_
  have hO := hO.pull hm.pull
  have := run_convert_bytes_back (P := P) w s t T ⟨b, 0, none⟩ c str.data.toList hs.eq hb.eq ht.eq (fun j hj => by
    refine hO.heap fun hp hA hw => ?_
    obtain ⟨cs, T', fz, h1, h2⟩ := hA
    have h3 := (hw _ _ h1).2
    rw [add_at rfl]
    simp only [World.cell?, h3, Option.isSome_none, Bool.false_eq_true, if_false, Nat.zero_add]
    exact h2 j hj)
  simpa using this
end
section
variable {k : Ctx} {w : World} {a : Nat} {A : List Node_one} {K : Int → List Int}
theorem UTF8_spec {xs : List Int} {p : Option Addr} {m c : Nat} (hs : Sli (Ro k) (.slice p m c) (xs.map (eI .i32))) (hO : Own k w []) :
    Tri Try.prog 122 #[.slice p m c] k w fun v mm => ∃ b d, v = .slice (some ⟨b, 0, none⟩) (runesBytes xs).size d ∧ mm = [bys b (runesBytes xs)] := by
  refine enter (args := [.slice p m c]) Try.func122 rfl rfl ?_
  refine K0 (K1 ?_)
  refine l_y rfl rfl (y_assign rfl) ?_
  refine K2 (K3 (K0 (K1 ?_)))
  refine l_y rfl rfl (y_move rfl) ?_
  refine l_y rfl rfl (y_runesStr (hs.holds hO) rfl) ?_
  refine s_bytesOf hO rfl (fun b d w hO => ?_)
  refine l_y rfl rfl (y_assign rfl) ?_
  refine K2 (K3 (K6 ?_))
  exact fin1 rfl rfl ⟨_, ⟨b, d, rfl, rfl⟩, hO⟩
/-- a slice in a slice -/
structure Part where
  P : Option Addr
  X : List Int
  C : Nat
instance : Inhabited Part := ⟨⟨none, [], 0⟩⟩
def Part.cells (p : Part) : List Value := [.slice p.P p.X.length p.C]
instance : OneC Part.cells 1 := ⟨fun _ => rfl, fun a v hv => by simp [Part.cells] at hv; subst hv; rfl⟩
/-- a paragraph with the text of these code points, or without one -/
structure PT (A : List Node_one) (K : Int → List Int) (all : List Int) : Prop where
  tree : Tree A K
  par : parentB (nodeA A 1).Kind = true
  in1 : InA A 1
  it : (all = [] ∧ A.length = 2 ∧ (nodeA A 1).Last = -1 ∧ K 1 = []) ∨ (all ≠ [] ∧ A.length = 3 ∧ (nodeA A 1).Last = 2 ∧ K 1 = [2] ∧ (nodeA A 2).Kind = 2 ∧ (nodeA A 2).Data = runesBytes all)
theorem core_data {o p : Node_one} (h : coreN o = coreN p) : o.Node.Data = p.Node.Data := by have := congrArg (fun z : Node_one => z.Node.Data) h; simpa only [coreN] using this
theorem NV.data {x : Int} {n : Api_node} (h : NV A x n) (hb : hasB A x = true) : n.Data = (nodeA A x).Data := by
  rcases h with ⟨h, _⟩ | ⟨_, q, d, rfl⟩
  · rw [hb] at h; cases h
  · rfl
theorem PT.set {all xs : List Int} (h : PT A K all) (hne : all ≠ []) (hs : (runesBytes (all ++ xs)).size ≤ 1048576) : (setDataL A 2 (runesBytes (all ++ xs))).1 = 0 ∧ PT (setDataL A 2 (runesBytes (all ++ xs))).2 K (all ++ xs) := by
  rcases h.it with ⟨e, _⟩ | ⟨_, hl, h2, h3, h4, h5⟩
  · exact absurd e hne
  have hin : InA A 2 := ⟨by decide, by rw [hl]; decide⟩
  have e : setDataL A 2 (runesBytes (all ++ xs)) = (0, setData A 2 (runesBytes (all ++ xs))) := by
    have hk : (at_ A (2 : Int).toNat).Node.Kind = 2 := h4
    rw [setDataL, if_neg (by rw [hin.b]; simp), if_neg (fun hh => hh.1 hk), if_neg (by omega)]
  have ht := h.tree.data (id := 2) (sd := runesBytes (all ++ xs))
  rw [e] at ht ⊢
  have n1 : nodeA (setData A 2 (runesBytes (all ++ xs))) 1 = nodeA A 1 := by
    unfold nodeA setData; rw [at_set_ne (by decide)]
  have n2 : nodeA (setData A 2 (runesBytes (all ++ xs))) 2 = { nodeA A 2 with Data := runesBytes (all ++ xs) } := by
    unfold nodeA setData; rw [at_set_eq (by rw [hl]; decide)]
  have hl2 : (setData A 2 (runesBytes (all ++ xs))).length = A.length := by simp [setData]
  exact ⟨rfl, ht, by rw [n1]; exact h.par, h.in1.len hl2, .inr ⟨by simp [hne], by rw [hl2, hl], by rw [n1]; exact h2, h3, by rw [n2]; exact h4, by rw [n2]⟩⟩
theorem PT.put {all xs : List Int} (h : PT A K all) (he : all = []) (hx : xs ≠ []) (hs : (runesBytes xs).size ≤ 1048576) :
    addL A (textN (runesBytes xs)) [runesBytes xs] = (2, 0, A ++ [blankN (textN (runesBytes xs))]) ∧ Tree (A ++ [blankN (textN (runesBytes xs))]) (addK A K) ∧ InA (A ++ [blankN (textN (runesBytes xs))]) 1 ∧ InA (A ++ [blankN (textN (runesBytes xs))]) 2 ∧
    (nodeA (A ++ [blankN (textN (runesBytes xs))]) 2).Parent = -1 ∧ parentB (nodeA (A ++ [blankN (textN (runesBytes xs))]) 1).Kind = true ∧ ((nodeA (A ++ [blankN (textN (runesBytes xs))]) 2).Kind ≠ 0 ∧ (nodeA (A ++ [blankN (textN (runesBytes xs))]) 2).Kind ≠ 5) ∧ ¬ Anc (A ++ [blankN (textN (runesBytes xs))]) 1 2 ∧
    PT (linkL (A ++ [blankN (textN (runesBytes xs))]) 1 2 (-1)).2 (linkK (addK A K) 1 2 (-1)) (all ++ xs) := by
  rcases h.it with ⟨_, hl, h2, h3⟩ | ⟨h9, _⟩
  rotate_left
  · exact absurd he h9
  have t1 := h.tree.add (textN (runesBytes xs)) (Nat.zero_le _)
  have i1 : InA (A ++ [blankN (textN (runesBytes xs))]) 1 := inA_new.2 (.inl h.in1)
  have e2 : (2 : Int) = (A.length : Int) := by rw [hl]; rfl
  have i2 : InA (A ++ [blankN (textN (runesBytes xs))]) 2 := inA_new.2 (.inr e2)
  have n2 : nodeA (A ++ [blankN (textN (runesBytes xs))]) 2 = (blankN (textN (runesBytes xs))).Node := by rw [e2, nodeA, at_new]
  have n1 : nodeA (A ++ [blankN (textN (runesBytes xs))]) 1 = nodeA A 1 := by rw [nodeA, at_old h.in1]
  have fr : (nodeA (A ++ [blankN (textN (runesBytes xs))]) 2).Parent = -1 := by rw [n2]; rfl
  have ki : (nodeA (A ++ [blankN (textN (runesBytes xs))]) 2).Kind ≠ 0 ∧ (nodeA (A ++ [blankN (textN (runesBytes xs))]) 2).Kind ≠ 5 := by rw [n2]; exact ⟨show (2 : Int) ≠ 0 by decide, show (2 : Int) ≠ 5 by decide⟩
  have ab : ¬ Anc (A ++ [blankN (textN (runesBytes xs))]) 1 2 := fun hh => anc_new h.tree hh h.in1 e2
  have pa : parentB (nodeA (A ++ [blankN (textN (runesBytes xs))]) 1).Kind = true := by rw [n1]; exact h.par
  have go := link_go (before := -1) i1 i2 (.inl rfl) pa ki fr ab
  have cr : ∀ y : Int, 0 ≤ y → coreN (at_ (linkL (A ++ [blankN (textN (runesBytes xs))]) 1 2 (-1)).2 y.toNat) = coreN (at_ (A ++ [blankN (textN (runesBytes xs))]) y.toNat) := fun y hy => linkL_core t1 hy
  have k1 : parentB (nodeA (linkL (A ++ [blankN (textN (runesBytes xs))]) 1 2 (-1)).2 1).Kind = true := by
    rw [nodeA, core_kind (cr 1 (by decide))]; exact pa
  have k2 : (nodeA (linkL (A ++ [blankN (textN (runesBytes xs))]) 1 2 (-1)).2 2).Kind = 2 := by
    rw [nodeA, core_kind (cr 2 (by decide))]
    have := congrArg Api_node.Kind n2
    exact this
  have d2 : (nodeA (linkL (A ++ [blankN (textN (runesBytes xs))]) 1 2 (-1)).2 2).Data = runesBytes (all ++ xs) := by
    rw [nodeA, core_data (cr 2 (by decide))]
    have := congrArg Api_node.Data n2
    rw [he, List.nil_append]
    exact this
  refine ⟨?_, t1, i1, i2, fr, pa, ki, ab, t1.link go, k1, i1.len linkL_len, .inr ⟨by simp [hx], by rw [linkL_len]; simp [hl], link_last t1 go, ?_, k2, d2⟩⟩
  · rw [addL, if_neg (by rw [longB]; simp; omega), if_neg (by omega), hl]; rfl
  · rw [linkK, if_pos rfl, addK, if_neg (by omega), h3]; rfl
set_option maxHeartbeats 2000000 in
theorem Chars_spec {all xs : List Int} {p : Option Addr} {c : Nat} (hpt : PT A K all) (hs : Sli (Ro k) (.slice p xs.length c) (xs.map (eI .i32))) (hal : all.length + xs.length ≤ 200000) (hO : Own k w [arenaL a A]) :
    Tri Try.prog 50 #[.pointer (some ⟨a, 0, none⟩), .agg (Api_spot.cells ⟨1, -1⟩).toArray, .slice p xs.length c] k w fun v m => v = .int .i64 0 ∧ ∃ A' K', PT A' K' (all ++ xs) ∧ m = [arenaL a A'] := by
  refine enter (args := [.pointer (some ⟨a, 0, none⟩), .agg (Api_spot.cells ⟨1, -1⟩).toArray, .slice p xs.length c]) Try.func50 rfl rfl ?_
  have t := hpt.tree
  have ha := t.attrs
  have hn : 0 < A.length := by have := hpt.in1.2; omega
  have hz1 := runesBytes_size_le xs
  have hz2 := runesBytes_size_le (all ++ xs)
  rw [List.length_append] at hz2
  have hlA : A.length ≤ 3 := by rcases hpt.it with ⟨_, h, _⟩ | ⟨_, h, _⟩ <;> omega
  refine K0 (K1 ?_)
  refine s_box (vs := [.int .i64 (Api_spot.mk 1 (-1)).Parent, .int .i64 (Api_spot.mk 1 (-1)).Before]) hO rfl rfl rfl (by rfl) fun b4 w hO => ?_
  refine l_y rfl rfl (y_assign rfl) ?_
  refine K2 (K3 (K0 (K4 (K0 (K1 ?_)))))
  refine l_y rfl rfl (y_move rfl) ?_
  refine CK [.o a] hO rfl (fun k' hx hr hO' => LenC_spec hn (hO := hO')) ?_
  rintro _ _ w ⟨rfl, rfl⟩ hO
  simp only [List.cons_append, List.nil_append] at hO
  refine N3 ?_
  refine l_y rfl rfl (y_assign rfl) ?_
  refine K2 (K3 (L9 (K0 (K1 ?_))))
  refine l_y rfl rfl (y_move rfl) ?_
  refine l_y rfl rfl (y_lenL rfl) ?_
  refine Z0 (fun h3_2 => ?_) (fun h3_2 => ?_)
  · refine l_y rfl rfl (y_move rfl) ?_
    repeat refine M2 ?_
    refine l_y rfl rfl (y_pick_t rfl rfl) ?_
    refine l_y rfl rfl (y_assign rfl) ?_
    refine K2 (K3 (L8 (K0 (K1 ?_))))
    refine l_y rfl rfl (y_assign rfl) ?_
    refine K2 (K3 (K6 (L0 (K9 ?_))))
    have : xs = [] := List.eq_nil_of_length_eq_zero (by omega)
    subst this
    exact fin1 rfl rfl ⟨_, ⟨rfl, A, K, by rw [List.append_nil]; exact hpt, rfl⟩, hO.only [.o a]⟩
  · refine l_y rfl rfl (y_move rfl) ?_
    refine l_y rfl rfl (y_fldb (o' := 0) rfl) ?_
    refine l_y rfl rfl (D5 hO rfl) ?_
    refine N3 ?_
    refine l_y rfl rfl (y_pick_f rfl rfl) ?_
    refine l_y rfl rfl (y_assign rfl) ?_
    refine K2 (K3 (L9 (K0 (K1 ?_))))
    refine l_y rfl rfl (y_fldb (o' := 0) rfl) ?_
    refine l_y rfl rfl (D5 hO rfl) ?_
    refine N3 ?_
    refine l_y rfl rfl (y_move rfl) ?_
    refine l_y rfl rfl (y_move rfl) ?_
    refine l_y rfl rfl (y_fldb (o' := 0) rfl) ?_
    refine l_y rfl rfl (D5 hO rfl) ?_
    refine l_y rfl rfl (y_fldb (o' := 1) rfl) ?_
    refine l_y rfl rfl (D5 hO rfl) ?_
    refine s_lit (parts := [(0, .tmp 37), (1, .tmp 39)]) (enc := (eI .i64)) [(Api_spot.mk 1 (-1)).Parent, (Api_spot.mk 1 (-1)).Before] [.int .i64 (Api_spot.mk 1 (-1)).Parent, .int .i64 (Api_spot.mk 1 (-1)).Before] hO rfl (fun b40 w hO => ?_)
    refine CK [.o a] hO rfl (fun k' hx hr hO' => all_spec (ids := [1, -1]) hn (sls_roK (p := (some ⟨b40, 0, none⟩)) hr (sls_fct (p := (some ⟨b40, 0, none⟩)) hO)) (by simp) (hO := hO')) ?_
    rintro _ _ w ⟨rfl, rfl⟩ hO
    simp only [List.cons_append, List.nil_append] at hO
    rw [show allB A [1, -1] = true by simp [allB, hpt.in1.b]]
    refine l_y rfl rfl (y_not rfl rfl) ?_
    refine l_y rfl rfl (y_pick_f rfl rfl) ?_
    refine l_y rfl rfl (y_assign rfl) ?_
    refine K2 (K3 (L9 (K5 (K8 (K3 (K0 ?_))))))
    have hxne : xs ≠ [] := by rintro rfl; exact h3_2 rfl
    refine K1 ?_
    refine l_y rfl rfl (y_move rfl) ?_
    refine CK [] hO rfl (fun k' hx hr hO' => UTF8_spec (hs.ext hO hx) (hO := hO')) ?_
    rintro _ _ w ⟨bb, bd, rfl, rfl⟩ hO
    simp only [List.cons_append, List.nil_append] at hO
    refine l_y rfl rfl (y_bysStr (b := bb) hO rfl) ?_
    refine l_y rfl rfl (y_assign rfl) ?_
    refine K2 (K3 (K0 (K1 ?_)))
    refine l_y rfl rfl (y_move rfl) ?_
    refine l_y rfl rfl (y_fldb (o' := 0) rfl) ?_
    refine l_y rfl rfl (D5 hO rfl) ?_
    refine CK [.o a] hO rfl (fun k' hx hr hO' => NodeD_spec hn ha (hO := hO')) ?_
    rintro _ _ w ⟨x8_3, hx8_3, rfl, rfl⟩ hO
    simp only [List.cons_append, List.nil_append] at hO
    refine l_y rfl rfl (y_move rfl) ?_
    refine l_y rfl rfl (y_extract rfl rfl) ?_
    refine l_y rfl rfl (y_extract rfl rfl) ?_
    refine s_alloc (vs := [.int .i64 0, .int .i64 0, .string ⟨#[]⟩, .slice none 0 0, .string ⟨#[]⟩, .string ⟨#[]⟩, .int .i64 0, .int .i64 0, .int .i64 0, .int .i64 0, .int .i64 0, .int .i64 0]) hO rfl rfl rfl fun b8 w hO => ?_
    refine Y3 hO rfl rfl (fun w hO => ?_)
    refine l_y rfl rfl (y_assign rfl) ?_
    refine K2 (K3 (K0 ?_))
    have e8 := hx8_3.last hpt.in1.b
    refine K1 ?_
    refine l_y rfl rfl (y_fldb (o' := 8) rfl) ?_
    refine l_y rfl rfl (D5 hO rfl) ?_
    refine l_y rfl rfl (y_assign rfl) ?_
    refine K2 (K3 (K0 (K0 (K1 ?_))))
    refine l_y rfl rfl (y_move rfl) ?_
    refine l_y rfl rfl (y_fldb (o' := 1) rfl) ?_
    refine l_y rfl rfl (D5 hO rfl) ?_
    refine CK [.o a] hO rfl (fun k' hx hr hO' => NodeD_spec hn ha (hO := hO')) ?_
    rintro _ _ w ⟨x10_3, hx10_3, rfl, rfl⟩ hO
    simp only [List.cons_append, List.nil_append] at hO
    refine l_y rfl rfl (y_move rfl) ?_
    refine l_y rfl rfl (y_extract rfl rfl) ?_
    refine l_y rfl rfl (y_extract rfl rfl) ?_
    refine s_alloc (vs := [.int .i64 0, .int .i64 0, .string ⟨#[]⟩, .slice none 0 0, .string ⟨#[]⟩, .string ⟨#[]⟩, .int .i64 0, .int .i64 0, .int .i64 0, .int .i64 0, .int .i64 0, .int .i64 0]) hO rfl rfl rfl fun b11 w hO => ?_
    refine Y3 hO rfl rfl (fun w hO => ?_)
    refine l_y rfl rfl (y_assign rfl) ?_
    refine K2 (K3 (K0 (K1 ?_)))
    refine l_y rfl rfl (y_move rfl) ?_
    refine N3 (hp := (by simp [errN, hasB])) ?_
    refine l_y rfl rfl (y_move rfl) ?_
    repeat refine M2 ?_
    refine l_y rfl rfl (y_pick_f rfl rfl) ?_
    refine K2 (K3 (L9 (K5 (K3 (K0 (K0 (K1 ?_)))))))
    refine l_y rfl rfl (y_move rfl) ?_
    refine l_y rfl rfl (y_move rfl) ?_
    refine CK [.o a] hO rfl (fun k' hx hr hO' => NodeD_spec hn ha (hO := hO')) ?_
    rintro _ _ w ⟨x13_2, hx13_2, rfl, rfl⟩ hO
    simp only [List.cons_append, List.nil_append] at hO
    refine l_y rfl rfl (y_move rfl) ?_
    refine l_y rfl rfl (y_extract rfl rfl) ?_
    refine l_y rfl rfl (y_extract rfl rfl) ?_
    refine s_alloc (vs := [.int .i64 0, .int .i64 0, .string ⟨#[]⟩, .slice none 0 0, .string ⟨#[]⟩, .string ⟨#[]⟩, .int .i64 0, .int .i64 0, .int .i64 0, .int .i64 0, .int .i64 0, .int .i64 0]) hO rfl rfl rfl fun b13 w hO => ?_
    refine Y3 hO rfl rfl (fun w hO => ?_)
    refine l_y rfl rfl (y_assign rfl) ?_
    refine K2 (K3 (K0 (K1 ?_)))
    refine l_y rfl rfl (y_move rfl) ?_
    refine Z0 (fun h14_1 => ?_) (fun h14_1 => ?_)
    · have h2 : all ≠ [] ∧ (nodeA A 1).Last = 2 ∧ (nodeA A 2).Kind = 2 ∧ (nodeA A 2).Data = runesBytes all ∧ A.length = 3 := by
          rcases hpt.it with ⟨_, _, h2, _⟩ | ⟨h1, h0, h2, _, h4, h5⟩
          · rw [e8, h2] at h14_1; exact absurd h14_1 (by simp [errN, hasB])
          · exact ⟨h1, h2, h4, h5, h0⟩
      rw [e8, h2.2.1] at hx13_2 ⊢
      have hb2 : hasB A 2 = true := by rw [hasB]; exact decide_eq_true ⟨by decide, by rw [h2.2.2.2.2]; decide⟩
      have e9 : x13_2.Kind = 2 := by rw [hx13_2.kind hb2]; exact h2.2.2.1
      have e10 : x13_2.Data = runesBytes all := by rw [hx13_2.data hb2]; exact h2.2.2.2.1
      refine l_y rfl rfl (y_move rfl) ?_
      refine l_y rfl rfl (y_fldb (o' := 0) rfl) ?_
      refine l_y rfl rfl (D5 hO rfl) ?_
      refine N2 (hp := e9) ?_
      refine l_y rfl rfl (y_pick_t rfl rfl) ?_
      refine K2 (K3 (L8 (K0 ?_)))
      refine K1 ?_
      refine l_y rfl rfl (y_move rfl) ?_
      refine l_y rfl rfl (y_move rfl) ?_
      refine l_y rfl rfl (y_fldb (o' := 4) rfl) ?_
      refine l_y rfl rfl (D5 hO rfl) ?_
      refine l_y rfl rfl (y_move rfl) ?_
      rw [e10]
      refine l_y rfl rfl (y_catS rfl rfl (by rw [runesBytes_app, ByteArray.size_append] at hz2; omega)) ?_
      rw [← runesBytes_app]
      obtain ⟨e11, hpt2⟩ := hpt.set (xs := xs) h2.1 (by omega)
      refine CK [.o a] hO rfl (fun k' hx hr hO' => SetDataC_spec hn (hO := hO')) ?_
      rintro _ _ w ⟨rfl, rfl⟩ hO
      simp only [List.cons_append, List.nil_append] at hO
      rw [e11]
      refine l_y rfl rfl (y_assign rfl) ?_
      refine K2 (K3 (K6 (K9 ?_)))
      exact fin1 rfl rfl ⟨_, ⟨rfl, _, K, hpt2, rfl⟩, hO.only [.o a]⟩
    · have h2 : all = [] := by
          rcases hpt.it with ⟨h1, _⟩ | ⟨_, h0, h2, _⟩
          · exact h1
          · rw [e8, h2] at h14_1; exact absurd (by rw [errN, hasB, if_pos (decide_eq_true ⟨by decide, by rw [h0]; decide⟩)]) h14_1
      refine l_y rfl rfl (y_move rfl) ?_
      repeat refine M2 ?_
      refine l_y rfl rfl (y_pick_f rfl rfl) ?_
      refine K2 (K3 (L9 (K5 (K3 (K0 (K1 ?_))))))
      refine l_y rfl rfl (y_move rfl) ?_
      refine l_y rfl rfl (y_move rfl) ?_
      obtain ⟨e12, t1, i1, i2, fr, pa, ki, ab, hpt2⟩ := hpt.put (xs := xs) h2 hxne (by omega)
      refine CK [.o a] hO rfl (fun k' hx hr hO' => Text_spec hn (by omega) (hO := hO')) ?_
      rintro _ _ w ⟨rfl, rfl⟩ hO
      simp only [List.cons_append, List.nil_append] at hO
      rw [e12] at hO ⊢
      refine l_y rfl rfl (y_move rfl) ?_
      refine l_y rfl rfl (y_extract rfl rfl) ?_
      refine l_y rfl rfl (y_extract rfl rfl) ?_
      refine l_y rfl rfl (y_assign rfl) ?_
      refine l_y rfl rfl (y_assign rfl) ?_
      refine K2 (K3 (K0 (K0 (K1 ?_))))
      refine l_y rfl rfl (y_move rfl) ?_
      refine N4 (hp := (by rfl)) ?_
      refine K2 (K3 (L9 (K5 (K3 (K0 (K1 ?_))))))
      refine l_y rfl rfl (y_move rfl) ?_
      refine l_y rfl rfl (D8 (cs := [.int .i64 (Api_spot.mk 1 (-1)).Parent, .int .i64 (Api_spot.mk 1 (-1)).Before]) hO rfl) ?_
      refine l_y rfl rfl (y_move rfl) ?_
      refine CK [.o a] hO rfl (fun k' hx hr hO' => Put_spec t1 (by simp) i1 i2 fr pa ki ab (hO := hO')) ?_
      rintro _ _ w ⟨rfl, rfl⟩ hO
      simp only [List.cons_append, List.nil_append] at hO
      refine l_y rfl rfl (y_assign rfl) ?_
      refine K2 (K3 (K6 ?_))
      exact fin1 rfl rfl ⟨_, ⟨rfl, _, _, hpt2, rfl⟩, hO.only [.o a]⟩
theorem PT.new (q : Option Addr) (d : Nat) : PT ([docD] ++ [blankN (elementN q d 0 pS [])]) (addK [docD] (fun _ => [])) [] :=
  ⟨Tree.new.add (elementN q d 0 pS []) (Nat.zero_le _), rfl, ⟨by decide, by simp⟩, .inl ⟨rfl, rfl, rfl, rfl⟩⟩
set_option maxHeartbeats 2000000 in
theorem PlaceText_spec {lp : Option Addr} {lc : Nat} {L : List Part} (hs : Sli (Ro k) (.slice lp L.length lc) (L.map Part.cells)) (hp : ∀ y ∈ L, Sli (Ro k) (.slice y.P y.X.length y.C) (y.X.map (eI .i32))) (hO : Own k w []) :
    Tri Try.prog 10 #[.slice lp L.length lc] k w fun v m => v = .bool true := by
  refine enter (args := [.slice lp L.length lc]) Try.func10 rfl rfl ?_
  have hgs := sli_gs hs
  refine K0 (K1 ?_)
  refine l_y rfl rfl (y_assign rfl) ?_
  refine K2 (K3 (K0 (K1 ?_)))
  refine CK [] hO rfl (fun k' hx hr hO' => New_spec (hO := hO')) ?_
  rintro _ _ w ⟨a, rfl, rfl⟩ hO
  simp only [List.cons_append, List.nil_append] at hO
  refine l_y rfl rfl (y_assign rfl) ?_
  refine K2 (K3 (K0 (K0 (K1 ?_))))
  refine l_y rfl rfl (y_move rfl) ?_
  refine l_y rfl rfl (y_eqPnil rfl rfl rfl) ?_
  refine K2 (K3 (L9 (K5 (K3 (K0 (K1 ?_))))))
  refine l_y rfl rfl (y_move rfl) ?_
  refine CK [.o a] hO rfl (fun k' hx hr hO' => ElP_spec (n := 0) rfl (by omega) (hO := hO')) ?_
  rintro _ _ w ⟨q1, d1, rfl, rfl⟩ hO
  simp only [List.cons_append, List.nil_append] at hO
  have hp1 := PT.new q1 d1
  refine l_y rfl rfl (y_move rfl) ?_
  refine l_y rfl rfl (y_extract rfl rfl) ?_
  refine l_y rfl rfl (y_extract rfl rfl) ?_
  refine l_y rfl rfl (y_assign rfl) ?_
  refine l_y rfl rfl (y_assign rfl) ?_
  refine K2 (K3 (K0 (K1 ?_)))
  refine l_y rfl rfl (y_move rfl) ?_
  refine s_build (parts := [(0, .tmp 21), (1, .const (.int .i64 (-1)))]) (cs := [.int .i64 1, .int .i64 (-1)]) rfl rfl (fun a ha => partsOf_sound ha _ _ rfl) (by kernel_rfl) ?_
  refine s_alloc (vs := [.int .i64 0, .int .i64 0]) hO rfl rfl rfl fun b6 w hO => ?_
  refine Y3 hO rfl rfl (fun w hO => ?_)
  refine K2 (K3 (K0 (K1 ?_)))
  refine l_y rfl rfl (y_assign rfl) ?_
  refine K2 (K3 (K0 (K0 ?_)))
  have hO : Own k w (sls none 0 21 1 (eI .i32) ([] : List Int) :: _) := sl_nil _ _ hO
  refine K1 ?_
  refine l_y rfl rfl (y_assign rfl) ?_
  refine K2 (K3 (K4 ?_))
  refine c_rounds (X := Nat × List Node_one × (Int → List Int) × List Int × Option Addr × Nat) (fun x => [(0, .slice lp L.length lc), (2, .bool false), (3, .pointer (some ⟨a, 0, none⟩)), (4, .int .i64 1), (6, .pointer (some ⟨b6, 0, none⟩)), (7, .slice x.2.2.2.2.1 x.2.2.2.1.length x.2.2.2.2.2), (8, .int .i64 (x.1 : Int))]) (fun x w => Own k w [arenaL a x.2.1, blk b6 89 [.int .i64 1, .int .i64 (-1)], sls x.2.2.2.2.1 x.2.2.2.2.2 21 1 (eI .i32) x.2.2.2.1] ∧ (PT x.2.1 x.2.2.1 x.2.2.2.1) ∧ (x.2.2.2.1.length ≤ 1000 * x.1) ∧ (x.1 ≤ 100 ∧ x.1 ≤ L.length)) (fun x => L.length - x.1) ((0, _, _, [], none, 0)) ⟨rfl, rfl, rfl, rfl, rfl, rfl, rfl, trivial⟩ ⟨hO.only [.o a, .b b6, .p none], hp1, Nat.zero_le _, ⟨Nat.zero_le _, Nat.zero_le _⟩⟩ ?_
  rintro x w m hm ⟨hO, hpt, hlen, hi⟩
  refine K0 (K0 (K1 ?_))
  refine l_y rfl rfl (y_move rfl) ?_
  refine l_y rfl rfl (y_move rfl) ?_
  refine l_y rfl rfl (y_lenL rfl) ?_
  refine Z0 (fun h8_3 => ?_) (fun h8_3 => ?_)
  · refine l_y rfl rfl (y_move rfl) ?_
    refine l_y rfl rfl (y_move rfl) ?_
    refine Z0 (fun h8_6 => ?_) (fun h8_6 => ?_)
    · refine l_y rfl rfl (y_pick_t rfl rfl) ?_
      refine K2 (K3 (L8 (K5 (K3 (K0 (K4 (K0 (K1 ?_))))))))
      refine l_y rfl rfl (y_move rfl) ?_
      refine l_y rfl rfl (y_move rfl) ?_
      refine l_y rfl rfl (y_idx rfl rfl) ?_
      refine l_y rfl rfl (y_r1 (x0 := 0) (enc := Part.cells) (xs := L) hO rfl) ?_
      refine l_y rfl rfl (y_assign rfl) ?_
      refine K2 (K3 ?_)
      refine c_cut (X := Option Addr × List Int × Nat) (fun z => [(0, .slice lp L.length lc), (2, .bool false), (3, .pointer (some ⟨a, 0, none⟩)), (4, .int .i64 1), (6, .pointer (some ⟨b6, 0, none⟩)), (7, .slice x.2.2.2.2.1 x.2.2.2.1.length x.2.2.2.2.2), (8, .int .i64 (x.1 : Int)), (9, .slice z.1 z.2.1.length z.2.2)]) (fun z w => Own k w [arenaL a x.2.1, blk b6 89 [.int .i64 1, .int .i64 (-1)], sls x.2.2.2.2.1 x.2.2.2.2.2 21 1 (eI .i32) x.2.2.2.1] ∧ (Sli (Ro k) (.slice z.1 z.2.1.length z.2.2) (z.2.1.map (eI .i32))) ∧ (z.2.1.length ≤ 1000)) ?_ ?_
      · refine K0 ?_
        have hpy : Sli (Ro k) (.slice (at_ L ((x.1 : Nat) : Int).toNat).P (at_ L ((x.1 : Nat) : Int).toNat).X.length (at_ L ((x.1 : Nat) : Int).toNat).C) ((at_ L ((x.1 : Nat) : Int).toNat).X.map (eI .i32)) := hp _ (at_mem (xs := L) (i := x.1) (by omega))
        have hpc := hpy.fits.2
        have hgp := sli_gs hpy
        refine K1 ?_
        refine l_y rfl rfl (y_move rfl) ?_
        refine l_y rfl rfl (y_lenL rfl) ?_
        refine Z0 (fun h11_2 => ?_) (fun h11_2 => ?_)
        · obtain ⟨y, hye⟩ : ∃ y, y = (at_ L ((x.1 : Nat) : Int).toNat).X.take 1000 := ⟨_, rfl⟩
          have hy0 : y.length = 1000 := by rw [hye, List.length_take]; omega
          have hyl0 : y.length ≤ 1000 := by omega
          have hy : Sli (Ro k) (.slice (at_ L ((x.1 : Nat) : Int).toNat).P y.length (at_ L ((x.1 : Nat) : Int).toNat).C) (y.map (eI .i32)) := by
            rw [hy0, hye, List.map_take]; exact hpy.head (cuts_ro k) (OneC.rows _) 1000 _ (by omega) (by omega)
          refine K2 (K3 (L8 (K1 ?_)))
          refine l_y rfl rfl (y_move rfl) ?_
          refine l_y rfl rfl (v := .slice (at_ L ((x.1 : Nat) : Int).toNat).P y.length (at_ L ((x.1 : Nat) : Int).toNat).C) (by rw [hy0]; exact y_hd 1000 rfl rfl) ?_
          refine l_y rfl rfl (y_assign rfl) ?_
          refine K2 ?_
          exact q_cut (((at_ L ((x.1 : Nat) : Int).toNat).P, y, (at_ L ((x.1 : Nat) : Int).toNat).C)) ⟨rfl, rfl, rfl, rfl, rfl, rfl, rfl, rfl, trivial⟩ ⟨hO.only [.o a, .b b6, .p x.2.2.2.2.1], hy, hyl0⟩
        · obtain ⟨y, hye⟩ : ∃ y, (at_ L ((x.1 : Nat) : Int).toNat).X = y := ⟨_, rfl⟩
          have hyl0 : y.length ≤ 1000 := by rw [← hye]; omega
          have hy : Sli (Ro k) (.slice (at_ L ((x.1 : Nat) : Int).toNat).P y.length (at_ L ((x.1 : Nat) : Int).toNat).C) (y.map (eI .i32)) := by
            rw [← hye]; exact hpy
          rw [hye]
          refine K2 (K3 (L9 (K5 ?_)))
          exact q_cut (((at_ L ((x.1 : Nat) : Int).toNat).P, y, (at_ L ((x.1 : Nat) : Int).toNat).C)) ⟨rfl, rfl, rfl, rfl, rfl, rfl, rfl, rfl, trivial⟩ ⟨hO.only [.o a, .b b6, .p x.2.2.2.2.1], hy, hyl0⟩
      · rintro z w ⟨hO, hy, hyl⟩
        refine K0 (K0 (K1 ?_))
        refine l_y rfl rfl (y_move rfl) ?_
        refine l_y rfl rfl (D8 (cs := [.int .i64 1, .int .i64 (-1)]) hO rfl) ?_
        refine l_y rfl rfl (y_move rfl) ?_
        refine CK [.o a] hO rfl (fun k' hx hr hO' => Chars_spec hpt (hy.ext hO hx) (by omega) (hO := hO')) ?_
        rintro _ _ w ⟨rfl, A2, KB, hpt2, rfl⟩ hO
        simp only [List.cons_append, List.nil_append] at hO
        refine N4 ?_
        refine K2 (K3 (L9 (K5 (K3 (K1 ?_)))))
        refine l_y rfl rfl (y_move rfl) ?_
        refine l_y rfl rfl (y_move rfl) ?_
        refine s_app hO rfl rfl (src_ro hO (by assumption)) (fun p49 c49 w hO gs49 => ?_) (h63 := by omega) (hb := by omega)
        refine l_y rfl rfl (y_assign rfl) ?_
        refine K2 (K8 (K3 (K1 ?_)))
        refine l_y rfl rfl (y_move rfl) ?_
        refine l_y rfl rfl (D4) ?_
        refine l_y rfl rfl (y_assign rfl) ?_
        refine K2 ?_
        exact q_next ((x.1 + 1, A2, KB, x.2.2.2.1 ++ z.2.1, p49, c49)) ⟨rfl, rfl, rfl, rfl, rfl, rfl, rfl, trivial⟩ ⟨hO.only [.o a, .b b6, .p p49], hpt2, by simp only [List.length_append]; omega, ⟨by omega, by omega⟩⟩ (by dsimp only; omega)
    · refine l_y rfl rfl (y_pick_t rfl rfl) ?_
      refine K2 (K3 (L9 (K7 (L1 (L1 (L2 (K3 (K0 (K1 ?_)))))))))
      refine l_y rfl rfl (y_move rfl) ?_
      refine l_y rfl rfl (y_move rfl) ?_
      refine CK [.o a] hO rfl (fun k' hx hr hO' => KidsT_spec hpt.tree hpt.in1 (by rcases hpt.it with ⟨_, h, _⟩ | ⟨_, h, _⟩ <;> omega) (hO := hO')) ?_
      rintro _ _ w ⟨q9, d9, rfl, rfl⟩ hO
      simp only [List.cons_append, List.nil_append] at hO
      refine l_y rfl rfl (y_assign rfl) ?_
      refine K2 (K3 (K0 (K0 (K1 ?_))))
      refine l_y rfl rfl (y_move rfl) ?_
      refine l_y rfl rfl (y_lenL rfl) ?_
      refine Z0 (fun h17_2 => ?_) (fun h17_2 => ?_)
      · have e1 : x.2.2.2.1 = [] := List.eq_nil_of_length_eq_zero (by omega)
        have e2 : x.2.1.length = 2 ∧ x.2.2.1 1 = [] := by
          rcases hpt.it with ⟨_, h1, _, h2⟩ | ⟨h, _⟩
          · exact ⟨h1, h2⟩
          · exact absurd e1 h
        refine K2 (K3 (L8 (K0 (K1 ?_))))
        refine l_y rfl rfl (y_move rfl) ?_
        refine l_y rfl rfl (y_lenL rfl) ?_
        refine N2 (hp := (by rw [e2.2]; rfl)) ?_
        refine l_y rfl rfl (y_move rfl) ?_
        refine l_y rfl rfl (y_move rfl) ?_
        refine CK [.o a] hO rfl (fun k' hx hr hO' => LenC_spec (by rw [e2.1]; decide) (hO := hO')) ?_
        rintro _ _ w ⟨rfl, rfl⟩ hO
        simp only [List.cons_append, List.nil_append] at hO
        refine N2 (hp := (by rw [e2.1]; rfl)) ?_
        refine l_y rfl rfl (y_pick_t rfl rfl) ?_
        refine l_y rfl rfl (y_assign rfl) ?_
        refine K2 (K3 (K6 (K9 ?_)))
        exact fin1 rfl rfl ⟨_, rfl, hO.only []⟩
      · have e1 : x.2.2.2.1 ≠ [] := by rintro e; rw [e] at h17_2; exact h17_2 rfl
        have e2 : x.2.1.length = 3 ∧ x.2.2.1 1 = [2] ∧ (nodeA x.2.1 2).Kind = 2 ∧ (nodeA x.2.1 2).Data = runesBytes x.2.2.2.1 := by
          rcases hpt.it with ⟨h, _⟩ | ⟨_, h1, _, h2, h3, h4⟩
          · exact absurd h e1
          · exact ⟨h1, h2, h3, h4⟩
        refine K2 (K3 (L9 (K5 (K3 (K0 ?_)))))
        have hn : 0 < x.2.1.length := by rw [e2.1]; decide
        have ha := hpt.tree.attrs
        have hb2 : hasB x.2.1 2 = true := by rw [hasB]; exact decide_eq_true ⟨by decide, by rw [e2.1]; decide⟩
        refine K1 ?_
        refine l_y rfl rfl (y_move rfl) ?_
        refine CK [.o a] hO rfl (fun k' hx hr hO' => NodeD_spec hn ha (hO := hO')) ?_
        rintro _ _ w ⟨x19_1, hx19_1, rfl, rfl⟩ hO
        simp only [List.cons_append, List.nil_append] at hO
        refine l_y rfl rfl (y_move rfl) ?_
        refine l_y rfl rfl (y_extract rfl rfl) ?_
        refine l_y rfl rfl (y_extract rfl rfl) ?_
        refine s_alloc (vs := [.int .i64 0, .int .i64 0, .string ⟨#[]⟩, .slice none 0 0, .string ⟨#[]⟩, .string ⟨#[]⟩, .int .i64 0, .int .i64 0, .int .i64 0, .int .i64 0, .int .i64 0, .int .i64 0]) hO rfl rfl rfl fun b11 w hO => ?_
        refine Y3 hO rfl rfl (fun w hO => ?_)
        refine l_y rfl rfl (y_assign rfl) ?_
        refine K2 (K3 (K0 ?_))
        have e3 : x19_1.Kind = 2 := by rw [hx19_1.kind hb2]; exact e2.2.2.1
        have e4 : x19_1.Data = runesBytes x.2.2.2.1 := by rw [hx19_1.data hb2]; exact e2.2.2.2
        refine K1 ?_
        refine l_y rfl rfl (y_move rfl) ?_
        refine l_y rfl rfl (y_lenL rfl) ?_
        refine N2 (hp := (by rw [e2.2.1]; rfl)) ?_
        refine l_y rfl rfl (y_move rfl) ?_
        refine l_y rfl rfl (y_move rfl) ?_
        refine CK [.o a] hO rfl (fun k' hx hr hO' => LenC_spec (by rw [e2.1]; decide) (hO := hO')) ?_
        rintro _ _ w ⟨rfl, rfl⟩ hO
        simp only [List.cons_append, List.nil_append] at hO
        refine N2 (hp := (by rw [e2.1]; rfl)) ?_
        refine l_y rfl rfl (y_pick_t rfl rfl) ?_
        refine l_y rfl rfl (y_move rfl) ?_
        refine l_y rfl rfl (y_fldb (o' := 0) rfl) ?_
        refine l_y rfl rfl (D5 hO rfl) ?_
        refine N2 (hp := e3) ?_
        refine l_y rfl rfl (y_pick_t rfl rfl) ?_
        refine l_y rfl rfl (y_move rfl) ?_
        refine l_y rfl rfl (y_fldb (o' := 4) rfl) ?_
        refine l_y rfl rfl (D5 hO rfl) ?_
        refine l_y rfl rfl (y_move rfl) ?_
        refine l_y rfl rfl (y_runesStr (sls_sli (p := x.2.2.2.2.1) hO) rfl) ?_
        refine N6 (hp := e4) ?_
        refine l_y rfl rfl (y_pick_t rfl rfl) ?_
        refine l_y rfl rfl (y_assign rfl) ?_
        refine K2 (K3 (K6 ?_))
        exact fin1 rfl rfl ⟨_, rfl, hO.only []⟩
  · refine l_y rfl rfl (y_move rfl) ?_
    repeat refine M2 ?_
    refine l_y rfl rfl (y_pick_f rfl rfl) ?_
    refine K2 (K3 (L9 (K7 (L1 (L1 (L2 (K3 (K0 (K1 ?_)))))))))
    refine l_y rfl rfl (y_move rfl) ?_
    refine l_y rfl rfl (y_move rfl) ?_
    refine CK [.o a] hO rfl (fun k' hx hr hO' => KidsT_spec hpt.tree hpt.in1 (by rcases hpt.it with ⟨_, h, _⟩ | ⟨_, h, _⟩ <;> omega) (hO := hO')) ?_
    rintro _ _ w ⟨q9, d9, rfl, rfl⟩ hO
    simp only [List.cons_append, List.nil_append] at hO
    refine l_y rfl rfl (y_assign rfl) ?_
    refine K2 (K3 (K0 (K0 (K1 ?_))))
    refine l_y rfl rfl (y_move rfl) ?_
    refine l_y rfl rfl (y_lenL rfl) ?_
    refine Z0 (fun h17_2 => ?_) (fun h17_2 => ?_)
    · have e1 : x.2.2.2.1 = [] := List.eq_nil_of_length_eq_zero (by omega)
      have e2 : x.2.1.length = 2 ∧ x.2.2.1 1 = [] := by
        rcases hpt.it with ⟨_, h1, _, h2⟩ | ⟨h, _⟩
        · exact ⟨h1, h2⟩
        · exact absurd e1 h
      refine K2 (K3 (L8 (K0 (K1 ?_))))
      refine l_y rfl rfl (y_move rfl) ?_
      refine l_y rfl rfl (y_lenL rfl) ?_
      refine N2 (hp := (by rw [e2.2]; rfl)) ?_
      refine l_y rfl rfl (y_move rfl) ?_
      refine l_y rfl rfl (y_move rfl) ?_
      refine CK [.o a] hO rfl (fun k' hx hr hO' => LenC_spec (by rw [e2.1]; decide) (hO := hO')) ?_
      rintro _ _ w ⟨rfl, rfl⟩ hO
      simp only [List.cons_append, List.nil_append] at hO
      refine N2 (hp := (by rw [e2.1]; rfl)) ?_
      refine l_y rfl rfl (y_pick_t rfl rfl) ?_
      refine l_y rfl rfl (y_assign rfl) ?_
      refine K2 (K3 (K6 (K9 ?_)))
      exact fin1 rfl rfl ⟨_, rfl, hO.only []⟩
    · have e1 : x.2.2.2.1 ≠ [] := by rintro e; rw [e] at h17_2; exact h17_2 rfl
      have e2 : x.2.1.length = 3 ∧ x.2.2.1 1 = [2] ∧ (nodeA x.2.1 2).Kind = 2 ∧ (nodeA x.2.1 2).Data = runesBytes x.2.2.2.1 := by
        rcases hpt.it with ⟨h, _⟩ | ⟨_, h1, _, h2, h3, h4⟩
        · exact absurd h e1
        · exact ⟨h1, h2, h3, h4⟩
      refine K2 (K3 (L9 (K5 (K3 (K0 ?_)))))
      have hn : 0 < x.2.1.length := by rw [e2.1]; decide
      have ha := hpt.tree.attrs
      have hb2 : hasB x.2.1 2 = true := by rw [hasB]; exact decide_eq_true ⟨by decide, by rw [e2.1]; decide⟩
      refine K1 ?_
      refine l_y rfl rfl (y_move rfl) ?_
      refine CK [.o a] hO rfl (fun k' hx hr hO' => NodeD_spec hn ha (hO := hO')) ?_
      rintro _ _ w ⟨x19_1, hx19_1, rfl, rfl⟩ hO
      simp only [List.cons_append, List.nil_append] at hO
      refine l_y rfl rfl (y_move rfl) ?_
      refine l_y rfl rfl (y_extract rfl rfl) ?_
      refine l_y rfl rfl (y_extract rfl rfl) ?_
      refine s_alloc (vs := [.int .i64 0, .int .i64 0, .string ⟨#[]⟩, .slice none 0 0, .string ⟨#[]⟩, .string ⟨#[]⟩, .int .i64 0, .int .i64 0, .int .i64 0, .int .i64 0, .int .i64 0, .int .i64 0]) hO rfl rfl rfl fun b11 w hO => ?_
      refine Y3 hO rfl rfl (fun w hO => ?_)
      refine l_y rfl rfl (y_assign rfl) ?_
      refine K2 (K3 (K0 ?_))
      have e3 : x19_1.Kind = 2 := by rw [hx19_1.kind hb2]; exact e2.2.2.1
      have e4 : x19_1.Data = runesBytes x.2.2.2.1 := by rw [hx19_1.data hb2]; exact e2.2.2.2
      refine K1 ?_
      refine l_y rfl rfl (y_move rfl) ?_
      refine l_y rfl rfl (y_lenL rfl) ?_
      refine N2 (hp := (by rw [e2.2.1]; rfl)) ?_
      refine l_y rfl rfl (y_move rfl) ?_
      refine l_y rfl rfl (y_move rfl) ?_
      refine CK [.o a] hO rfl (fun k' hx hr hO' => LenC_spec (by rw [e2.1]; decide) (hO := hO')) ?_
      rintro _ _ w ⟨rfl, rfl⟩ hO
      simp only [List.cons_append, List.nil_append] at hO
      refine N2 (hp := (by rw [e2.1]; rfl)) ?_
      refine l_y rfl rfl (y_pick_t rfl rfl) ?_
      refine l_y rfl rfl (y_move rfl) ?_
      refine l_y rfl rfl (y_fldb (o' := 0) rfl) ?_
      refine l_y rfl rfl (D5 hO rfl) ?_
      refine N2 (hp := e3) ?_
      refine l_y rfl rfl (y_pick_t rfl rfl) ?_
      refine l_y rfl rfl (y_move rfl) ?_
      refine l_y rfl rfl (y_fldb (o' := 4) rfl) ?_
      refine l_y rfl rfl (D5 hO rfl) ?_
      refine l_y rfl rfl (y_move rfl) ?_
      refine l_y rfl rfl (y_runesStr (sls_sli (p := x.2.2.2.2.1) hO) rfl) ?_
      refine N6 (hp := e4) ?_
      refine l_y rfl rfl (y_pick_t rfl rfl) ?_
      refine l_y rfl rfl (y_assign rfl) ?_
      refine K2 (K3 (K6 ?_))
      exact fin1 rfl rfl ⟨_, rfl, hO.only []⟩
end
end Go.Proofs.Ytbhicbpfdbnpfaa
