/- What the row of this folder leans on, part 4: the walks of the functions and the laws of what they compute; no condition. -/
import Derived.Test.YtoohapbaelmkcaaGreatBnd3
section
set_option linter.unusedVariables false
set_option linter.unusedSimpArgs false
set_option maxRecDepth 100000
namespace Go.Hb
open Go Go.RowKit
section
variable {P : Program} {ops : Array Oper} {Q : Exit → Act → World → Prop} {n : Nat} {ds : List Deferred} {E : Env} {w : World}
theorem dx_three {lo : List Oper} {f : Nat} {listed : Array Bool} {S : World → Prop} {C : List Nat} (i j l : Nat) {o o' o2 : Oper} (hr : Region.ready .any lo.toArray listed = [i, j, l]) (hi : nthO lo i = some o) (hj : nthO lo j = some o') (hl : nthO lo l = some o2) (hci : C.contains i = false) (hcj : C.contains j = false) (hcl : C.contains l = false)
    (h1 : OW P lo.toArray Q n ds o (fun E w => S w ∧ DX P lo Q n ds S C f (listed.setIfInBounds i true) E w) E w) (h2 : OW P lo.toArray Q n ds o' (fun E w => S w ∧ DX P lo Q n ds S C f (listed.setIfInBounds j true) E w) E w) (h3 : OW P lo.toArray Q n ds o2 (fun E w => S w ∧ DX P lo Q n ds S C f (listed.setIfInBounds l true) E w) E w) : DX P lo Q n ds S C (f + 1) listed E w := fun hQ hS a ha => by
  refine ⟨fun h0 => (by rw [hr] at h0; cases h0), fun q hq => ?_⟩
  rw [hr] at hq
  rcases List.mem_cons.1 hq with rfl | hq
  · exact op_of hi h1 (fun E' a' w' hf' hk => ⟨fun e => (by rw [hci] at e; cases e), fun _ => ⟨hk.1, hk.2 hQ hk.1 a' hf'⟩⟩) ha
  · rcases List.mem_cons.1 hq with rfl | hq
    · exact op_of hj h2 (fun E' a' w' hf' hk => ⟨fun e => (by rw [hcj] at e; cases e), fun _ => ⟨hk.1, hk.2 hQ hk.1 a' hf'⟩⟩) ha
    · obtain rfl : q = l := by simpa using hq
      exact op_of hl h3 (fun E' a' w' hf' hk => ⟨fun e => (by rw [hcl] at e; cases e), fun _ => ⟨hk.1, hk.2 hQ hk.1 a' hf'⟩⟩) ha
/-- a call of a function value is deferred -/
theorem x_deferV {x : Operand} {g : FuncId} {xs : List Operand} {tys : Array TypeId} {first captured vs : List Value} {dd : Option Tmp} {ty : TypeId} {pos : String} {aft : Array Edge} {gu : Option (Nat × Bool)} (hv : ev E x = some (.func (.func g) first.toArray captured.toArray)) (hx : evl E xs = some vs) :
    ∀ a, Fits n ds E a → (execOp a.eval ⟨dd, .defer ⟨.value x, xs.toArray, tys⟩, ty, pos, aft, gu⟩).run P w = .ok (.defer { target := .fn (.func g) captured.toArray, args := (first ++ vs).toArray }) w := fun a ha => by
  have h1 : xs.toArray.map a.eval = vs.toArray := by rw [← evl_sound ha xs vs hx]; simp
  simp [execOp, resolve, ha.eval hv, Deferred.ofValue, h1]
/-- a function's end where one call of a function value was deferred -/
theorem finDKV (qs : List Key) {k : Ctx} {l As rl m0 : List HP} [hp : AtKs l qs As rl m0] {fn : Func} {T : Value → World → Prop} {g : FuncId} [hf : Fun P g] {args captured : List Value} {R : Value → List HP → Prop} (hO : Own k w l)
    (hc : ∀ k', Ext k k' w → (∀ A ∈ rl, ∀ a cs, Has A a cs → Ro k' a cs) → Own k' w As → TriD P g (args ++ captured).toArray k' w R)
    (h : ∀ v m w', R v m → Own k w' (m ++ rl) → QW (bodyPost P fn fun e w' => ∃ v, e = .returned v ∧ T v w') n [] .ret E w') :
    QW (bodyPostD P fn fun e w' => ∃ v, e = .returned v ∧ T v w') n [{ target := .fn (.func g) captured.toArray, args := args.toArray }] .ret E w := fun a ha => by
  show Leaves P fn a.tmps _ a.defers .returning w
  rw [ha.defers]
  refine leaves_cons (by simp) (by simp [invoke, hf.call]) ((TriD.framed hO hp.pulls hc).mono ?_)
  rintro e u' w' ⟨rfl, v, rfl, m, hR, hO'⟩
  obtain ⟨_, v2, hr, hT2⟩ := h v m w' hR hO' { a with defers := [] } ⟨ha.size, rfl, ha.at_⟩
  show Leaves P fn a.tmps _ [] (settle .returning) w'
  exact ⟨v2, hr, hT2⟩
end
end Go.Hb
namespace Go.Proofs.YtoohapbaelmkcaaGreat
open Go Go.Hb Go.RowKit
theorem spotV_ok {A : List Node_one} {K : Int → List Int} {l : List Int} {target : Int} {fo : Bool} (t : Tree A K) (h : WI A) (hel : AllEl A l) (hb : InA A target) : InA A (spotV A l target fo).1.Parent ∧ ((spotV A l target fo).1.Before = -1 ∨ InA A (spotV A l target fo).1.Before) := by
  have hfo := FosOk.of t h hel
  have hat := inA_iff.1 (atV_has (target := target) (f := fo) hfo hb.b)
  have hbef : (fosterV A l).Before = -1 ∨ InA A (fosterV A l).Before := by
    unfold fosterV
    split
    · exact .inl rfl
    · split
      · split <;> exact .inl rfl
      · next h2 =>
        split
        · right
          rcases lastV_cases (namA A tableL) l with h5 | ⟨j, h5, h6, _⟩
          · omega
          · dsimp only
            exact inA_iff.1 (elB_has (hel _ (at_mem (by omega))))
        · split <;> exact .inl rfl
  rw [spotV, if_neg (by rw [hb.b]; simp)]
  dsimp only
  unfold innV
  split
  · next h1 => exact ⟨(t.inner _ hat).resolve_left h1, .inl rfl⟩
  · refine ⟨hat, ?_⟩
    unfold atV
    split
    · exact hbef
    · exact .inl rfl
noncomputable def swE (y : Ag) (f below : Int) (fo : Bool) (q : Option Addr) (d : Nat) : Int × Int × List Node_one := elementL (putF y.A (spotV y.A y.st below fo).1 y.last) 0 (tkF y.L f).Name [] q d
noncomputable def swK (E : Int × Int × List Node_one) (kids : List Int) : List Node_one := kids.foldl (fun A c => putF A ⟨E.1, -1⟩ c) E.2.2
noncomputable def swA (E : Int × Int × List Node_one) (block : Int) (kids : List Int) : List Node_one := putF (swK E kids) ⟨block, -1⟩ E.1
noncomputable def swL (y : Ag) (f : Int) (E : Int × Int × List Node_one) (B : List Node_one) : List Api_entry := (putE B (forgetF y.L y.mark f).1 (forgetF y.L y.mark f).2 ⟨E.1, tkF y.L f⟩).2
noncomputable def swS (y : Ag) (f block : Int) (E : Int × Int × List Node_one) (B : List Node_one) : List Int := (putL B (removeL y.st f).2 (findI (removeL y.st f).2 block + 1) E.1).2
/-- what a formatting element's way into a block leaves -/
structure SwD (f block below : Int) (fo : Bool) (x : Ag) (A' : List Node_one) (st' : List Int) (L' : List Api_entry) (y : Ag) (q : Option Addr) (d : Nat) (Kz : Int → List Int) : Prop where
  inn : InnD f block x y
  tree : Tree (swE y f below fo q d).2.2 Kz
  arena : A' = swA (swE y f below fo q d) block (Kz block)
  stack : st' = swS y f block (swE y f below fo q d) A'
  list : L' = swL y f (swE y f below fo q d) A'
theorem AI.swK {E : Int × Int × List Node_one} (h : AI E.2.2) : ∀ kids : List Int, AI (swK E kids) ∧ Keeps E.2.2 (swK E kids) ∧ (swK E kids).length = E.2.2.length := fun kids => by
  unfold Proofs.YtoohapbaelmkcaaGreat.swK
  generalize hB : E.2.2 = B
  rw [hB] at h
  clear hB
  induction kids generalizing B with
  | nil => exact ⟨h, Keeps.refl, rfl⟩
  | cons c l ih =>
    obtain ⟨h1, h2, h3⟩ := ih _ (h.put ⟨E.1, -1⟩ c)
    exact ⟨h1, (h.keeps _ _).trans h2, h3.trans putF_len⟩
theorem swK_snoc {E : Int × Int × List Node_one} {l : List Int} {c : Int} : swK E (l ++ [c]) = putF (swK E l) ⟨E.1, -1⟩ c := by unfold swK; rw [List.foldl_append]; rfl
section
variable {k : Ctx} {w : World} {g a s l : Nat} {nm : ByteArray} {fo : Bool} {errs mark : Int} {A : List Node_one} {K : Int → List Int} {st : List Int} {L : List Api_entry}
set_option maxHeartbeats 4000000 in
theorem swap1_spec {b4 b5 b6 b11 b12 : Nat} {f block tw : Int} {tk : Api_token} (h : AI A) (hsl : st.length ≤ 1000000) (hL : L.length ≤ 2000000) (hm : -1000000000 ≤ mark ∧ mark ≤ 1000000000)
    (hO : Own k w [blk b4 80 [.pointer (some ⟨g, 0, none⟩)], blk b5 3 [.int .i64 f], blk b11 3 [.int .i64 tw], blk b12 53 (Api_token.cells tk), blk b6 3 [.int .i64 block], agB g a s l nm fo errs mark, arenaL a A, stkL s a st, actL l a L]) :
    Tri Tryz.prog 104 #[.pointer (some ⟨b4, 0, none⟩), .pointer (some ⟨b5, 0, none⟩), .pointer (some ⟨b11, 0, none⟩), .pointer (some ⟨b12, 0, none⟩), .pointer (some ⟨b6, 0, none⟩)] k w (fun v m => m = [agB g a s l nm fo errs (forgetF L mark f).2, arenaL a A, stkL s a (putL A (removeL st f).2 (findI (removeL st f).2 block + 1) tw).2, actL l a (putE A (forgetF L mark f).1 (forgetF L mark f).2 ⟨tw, tk⟩).2]) ∧
    TriD Tryz.prog 104 #[.pointer (some ⟨b4, 0, none⟩), .pointer (some ⟨b5, 0, none⟩), .pointer (some ⟨b11, 0, none⟩), .pointer (some ⟨b12, 0, none⟩), .pointer (some ⟨b6, 0, none⟩)] k w (fun v m => m = [agB g a s l nm fo errs (forgetF L mark f).2, arenaL a A, stkL s a (putL A (removeL st f).2 (findI (removeL st f).2 block + 1) tw).2, actL l a (putE A (forgetF L mark f).1 (forgetF L mark f).2 ⟨tw, tk⟩).2]) := by
  refine enterB (args := [.pointer (some ⟨b4, 0, none⟩), .pointer (some ⟨b5, 0, none⟩), .pointer (some ⟨b11, 0, none⟩), .pointer (some ⟨b12, 0, none⟩), .pointer (some ⟨b6, 0, none⟩)]) Tryz.func104 rfl rfl ?_
  have hfl : (forgetF L mark f).1.length ≤ 2000000 := by rw [forget_fst]; exact Nat.le_trans removeE_sub.length_le hL
  have hrl : (removeL st f).2.length ≤ 1000000 := by
    refine Nat.le_trans ?_ hsl
    unfold removeL
    split
    · exact Nat.le_refl _
    · simp; omega
  have hfb := @findI_lt (removeL st f).2 block
  have hfg := @findI_ge (removeL st f).2 block
  refine K0 (K1 ?_)
  refine l_y rfl rfl (D5 hO rfl) ?_
  refine l_y rfl rfl (D5 hO rfl) ?_
  refine CK [.b g, .o l] hO rfl (fun k' hx hr hO' => forget_spec (id := f) hm hL (hO := hO')) ?_
  rintro _ _ w rfl hO
  simp only [List.cons_append, List.nil_append] at hO
  refine K2 (K3 (K0 ?_))
  refine da_region (by intro c a d v w h; cases d <;> exact h) ?_
  have hO := hO.drew
  refine da_phase _ [10] (SO.ks [.b b4, .b g, .b b11, .b b12] hO) ?_
  refine dx_y 0 (by kernel_rfl) rfl rfl rfl (fun w ⟨m, hw⟩ => D5 hw rfl) ?_
  refine dx_u 1 (by kernel_rfl) rfl rfl rfl (fun w => y_nilCheck rfl rfl) ?_
  refine dx_u 2 (by kernel_rfl) rfl rfl rfl (fun w => y_fldb (o' := 2) rfl) ?_
  refine dx_y 3 (by kernel_rfl) rfl rfl rfl (fun w ⟨m, hw⟩ => D5 hw rfl) ?_
  refine dx_y 4 (by kernel_rfl) rfl rfl rfl (fun w ⟨m, hw⟩ => D5 hw rfl) ?_
  refine dx_u 5 (by kernel_rfl) rfl rfl rfl (fun w => y_nilCheck rfl rfl) ?_
  refine dx_u 6 (by kernel_rfl) rfl rfl rfl (fun w => y_fldb (o' := 6) rfl) ?_
  refine dx_y 7 (by kernel_rfl) rfl rfl rfl (fun w ⟨m, hw⟩ => D5 hw rfl) ?_
  refine dx_y 8 (by kernel_rfl) rfl rfl rfl (fun w ⟨m, hw⟩ => D5 hw rfl) ?_
  refine dx_y 9 (by kernel_rfl) rfl rfl rfl (fun w ⟨m, hw⟩ => D8 (cs := [.int .i64 tk.Kind, .string tk.Name, .string tk.Data, .string tk.System, .int .i64 tk.Has, .bool tk.Quirks, .int .i32 tk.Char, .bool tk.Self, .slice tk.AttrsP tk.Attrs.length tk.AttrsC]) hw rfl) ?_
  refine dx_close 10 (by kernel_rfl) rfl rfl ?_
  refine CK [.o a, .o l] hO rfl (fun k' hx hr hO' => aPut_spec (id := tw) (i := (forgetF L mark f).2) (tk := tk) h.pos h.attrs hfl (hO := hO')) ?_
  rintro _ _ w ⟨rfl, rfl⟩ hO
  simp only [List.cons_append, List.nil_append] at hO
  refine o_done ?_
  refine da_end (by kernel_rfl) ?_
  refine K3 (K0 ?_)
  refine da_region (by intro c a d v w h; cases d <;> exact h) ?_
  have hO := hO.drew
  refine da_phase _ [5] (SO.ks [.b b4, .b g, .b b5] hO) ?_
  refine dx_y 0 (by kernel_rfl) rfl rfl rfl (fun w ⟨m, hw⟩ => D5 hw rfl) ?_
  refine dx_u 1 (by kernel_rfl) rfl rfl rfl (fun w => y_nilCheck rfl rfl) ?_
  refine dx_u 2 (by kernel_rfl) rfl rfl rfl (fun w => y_fldb (o' := 1) rfl) ?_
  refine dx_y 3 (by kernel_rfl) rfl rfl rfl (fun w ⟨m, hw⟩ => D5 hw rfl) ?_
  refine dx_y 4 (by kernel_rfl) rfl rfl rfl (fun w ⟨m, hw⟩ => D5 hw rfl) ?_
  refine dx_close 5 (by kernel_rfl) rfl rfl ?_
  refine CK [.o s] hO rfl (fun k' hx hr hO' => sRemove_spec (id := f) hsl (hO := hO')) ?_
  rintro _ _ w ⟨rfl, rfl⟩ hO
  simp only [List.cons_append, List.nil_append] at hO
  refine o_done ?_
  refine da_end (by kernel_rfl) ?_
  refine K3 ?_
  refine da_region (by intro c a d v w h; cases d <;> exact h) ?_
  have hO := hO.drew
  refine da_phase _ [12] (SO.ks [.b b4, .b g, .b b6, .b b11] hO) ?_
  refine dx_y 0 (by kernel_rfl) rfl rfl rfl (fun w ⟨m, hw⟩ => D5 hw rfl) ?_
  refine dx_u 1 (by kernel_rfl) rfl rfl rfl (fun w => y_nilCheck rfl rfl) ?_
  refine dx_u 2 (by kernel_rfl) rfl rfl rfl (fun w => y_fldb (o' := 1) rfl) ?_
  refine dx_y 3 (by kernel_rfl) rfl rfl rfl (fun w ⟨m, hw⟩ => D5 hw rfl) ?_
  refine dx_y 4 (by kernel_rfl) rfl rfl rfl (fun w ⟨m, hw⟩ => D5 hw rfl) ?_
  refine dx_u 5 (by kernel_rfl) rfl rfl rfl (fun w => y_nilCheck rfl rfl) ?_
  refine dx_u 6 (by kernel_rfl) rfl rfl rfl (fun w => y_fldb (o' := 1) rfl) ?_
  refine dx_y 7 (by kernel_rfl) rfl rfl rfl (fun w ⟨m, hw⟩ => D5 hw rfl) ?_
  refine dx_y 8 (by kernel_rfl) rfl rfl rfl (fun w ⟨m, hw⟩ => D5 hw rfl) ?_
  refine dx_y 11 (by kernel_rfl) rfl rfl rfl (fun w ⟨m, hw⟩ => D5 hw rfl) ?_
  refine dx_only 9 (by kernel_rfl) rfl rfl ?_
  refine CK [.o s] hO rfl (fun k' hx hr hO' => sFindC_spec (x := block) hrl (hO := hO')) ?_
  rintro _ _ w ⟨rfl, rfl⟩ hO
  simp only [List.cons_append, List.nil_append] at hO
  refine o_done ?_
  refine ⟨SO.ks [.b b4, .b g, .b b6, .b b11] hO, ?_⟩
  refine dx_u 10 (by kernel_rfl) rfl rfl rfl (fun w => D4) ?_
  refine dx_close 12 (by kernel_rfl) rfl rfl ?_
  refine CK [.o a, .o s] hO rfl (fun k' hx hr hO' => sPut_spec (i := findI (removeL st f).2 block + 1) (id := tw) h.pos h.attrs hrl (hO := hO')) ?_
  rintro _ _ w ⟨rfl, rfl⟩ hO
  simp only [List.cons_append, List.nil_append] at hO
  refine o_done ?_
  refine da_end (by kernel_rfl) ?_
  exact fin0 rfl ⟨_, rfl, hO.only [.b g, .o a, .o s, .o l]⟩
end
section
variable {k : Ctx} {w : World} {g a s l : Nat} {nm : ByteArray} {fo : Bool} {errs mark : Int} {A : List Node_one} {K : Int → List Int} {st : List Int} {L : List Api_entry}
set_option maxHeartbeats 4000000 in
theorem swap_spec {f block below : Int} {a0 n0 ln : Nat} (hI0 : AgI f a0 n0 ln ⟨A, st, L, findE L f, block, findI st block, 0⟩) (hn0 : n0 + 8 ≤ 32768) (hln : ln ≤ 2000000) (hbl : InA A below) (hbk : InA A block) (hO : Own k w [agB g a s l nm fo errs mark, arenaL a A, stkL s a st, actL l a L]) :
    Tri Tryz.prog 78 #[.pointer (some ⟨g, 0, none⟩), .int .i64 f, .int .i64 block, .int .i64 below] k w fun v m => ∃ A' st' L' y q d Kz mk, SwD f block below fo ⟨A, st, L, findE L f, block, findI st block, 0⟩ A' st' L' y q d Kz ∧ (0 ≤ mk ∧ mk ≤ 2000000) ∧ m = [agB g a s l nm fo errs mk, arenaL a A', stkL s a st', actL l a L'] := by
  refine enterD (args := [.pointer (some ⟨g, 0, none⟩), .int .i64 f, .int .i64 block, .int .i64 below]) Tryz.func78 rfl rfl ?_
  have hLL : L.length ≤ 2000000 := Nat.le_trans hI0.ll hln
  refine K0 (K1 ?_)
  refine s_box (vs := [.pointer (some ⟨g, 0, none⟩)]) hO rfl rfl rfl (by rfl) fun b4 w hO => ?_
  refine s_box (vs := [.int .i64 f]) hO rfl rfl rfl (by rfl) fun b5 w hO => ?_
  refine s_box (vs := [.int .i64 block]) hO rfl rfl rfl (by rfl) fun b6 w hO => ?_
  refine K2 (K3 (K0 ?_))
  refine da_regM ?_
  have hO := hO.drew
  refine da_phase _ [9] (SO.ks [.b b4, .b g, .b b5] hO) ?_
  refine dx_y 0 (by kernel_rfl) rfl rfl rfl (fun w ⟨m, hw⟩ => D5 hw rfl) ?_
  refine dx_y 1 (by kernel_rfl) rfl rfl rfl (fun w ⟨m, hw⟩ => D5 hw rfl) ?_
  refine dx_u 2 (by kernel_rfl) rfl rfl rfl (fun w => y_nilCheck rfl rfl) ?_
  refine dx_u 3 (by kernel_rfl) rfl rfl rfl (fun w => y_fldb (o' := 2) rfl) ?_
  refine dx_y 4 (by kernel_rfl) rfl rfl rfl (fun w ⟨m, hw⟩ => D5 hw rfl) ?_
  refine dx_y 5 (by kernel_rfl) rfl rfl rfl (fun w ⟨m, hw⟩ => D5 hw rfl) ?_
  refine dx_only 6 (by kernel_rfl) rfl rfl ?_
  refine CK [.o l] hO rfl (fun k' hx hr hO' => aFind_spec hLL (hO := hO')) ?_
  rintro _ _ w ⟨rfl, rfl⟩ hO
  simp only [List.cons_append, List.nil_append] at hO
  refine o_done ?_
  refine ⟨SO.ks [.b b4, .b g, .b b5] hO, ?_⟩
  refine dx_u 7 (by kernel_rfl) rfl rfl rfl (fun w => y_nilCheck rfl rfl) ?_
  refine dx_u 8 (by kernel_rfl) rfl rfl rfl (fun w => y_fldb (o' := 6) rfl) ?_
  refine dx_close 9 (by kernel_rfl) rfl rfl ?_
  refine Y1 hO rfl rfl (fun w hO => ?_)
  simp only [List.set_cons_zero, List.set_cons_succ] at hO
  refine o_done ?_
  refine da_end (by kernel_rfl) (q_nopan ?_)
  refine K3 (K0 (K1 ?_))
  refine l_y rfl rfl (D5 hO rfl) ?_
  refine l_y rfl rfl (D5 hO rfl) ?_
  refine l_y rfl rfl (D5 hO rfl) ?_
  refine CK [.b g, .o a, .o s, .o l] hO rfl (fun k' hx hr hO' => descend_spec hI0 (by omega) hln (hO := hO')) ?_
  rintro _ _ w ⟨y, hy, rfl, rfl⟩ hO
  simp only [List.cons_append, List.nil_append] at hO
  have hIy := hy.keep k (by omega) hI0
  have hkk := hy.keepK k (by omega) hI0
  obtain ⟨Ky, ty⟩ := hIy.ai.tree
  have hyl : y.st.length ≤ 1000000 := Nat.le_trans hIy.si.len (Nat.le_trans hIy.len (by omega))
  have hyL : y.L.length ≤ 2000000 := Nat.le_trans hIy.ll hln
  have hsp := spotV_ok (fo := fo) ty hIy.ai.wi hIy.si.el (hbl.keeps hkk)
  have hyA := hIy.len
  obtain ⟨sp, hspe⟩ : ∃ sp, sp = (spotV y.A y.st below fo).1 := ⟨_, rfl⟩
  rw [← hspe] at hsp
  have hA2 := hIy.ai.put sp y.last
  have hK2 := hIy.ai.keeps sp y.last
  have hl2 : (putF y.A sp y.last).length = y.A.length := putF_len
  have hfy := findE_at hIy.fl
  have hent := (hIy.li.ent _ (at_mem hfy.1)).resolve_left (by rw [hfy.2.1]; exact hfy.2.2)
  refine l_y rfl rfl (y_assign rfl) ?_
  refine K2 (K3 ?_)
  refine c_cut (X := Nat) (fun b9 => [(4, .pointer (some ⟨b4, 0, none⟩)), (5, .pointer (some ⟨b5, 0, none⟩)), (6, .pointer (some ⟨b6, 0, none⟩)), (8, .int .i64 y.last), (9, .pointer (some ⟨b9, 0, none⟩))]) (fun b9 w => Own k w [blk b4 80 [.pointer (some ⟨g, 0, none⟩)], blk b5 3 [.int .i64 f], blk b9 135 (Api_spot.cells sp), blk b6 3 [.int .i64 block], agB g a s l nm fo errs y.mark, arenaL a y.A, stkL s a y.st, actL l a y.L] ∧ True) ?_ ?_
  · refine da_regM ?_
    have hO := hO.drew
    refine da_phase _ [18] (SO.ks [.b b4, .b g] hO) ?_
    refine dx_y 0 (by kernel_rfl) rfl rfl rfl (fun w ⟨m, hw⟩ => D5 hw rfl) ?_
    refine dx_u 1 (by kernel_rfl) rfl rfl rfl (fun w => y_nilCheck rfl rfl) ?_
    refine dx_u 2 (by kernel_rfl) rfl rfl rfl (fun w => y_fldb (o' := 0) rfl) ?_
    refine dx_y 3 (by kernel_rfl) rfl rfl rfl (fun w ⟨m, hw⟩ => D5 hw rfl) ?_
    refine dx_y 4 (by kernel_rfl) rfl rfl rfl (fun w ⟨m, hw⟩ => D5 hw rfl) ?_
    refine dx_u 5 (by kernel_rfl) rfl rfl rfl (fun w => y_nilCheck rfl rfl) ?_
    refine dx_u 6 (by kernel_rfl) rfl rfl rfl (fun w => y_fldb (o' := 1) rfl) ?_
    refine dx_y 7 (by kernel_rfl) rfl rfl rfl (fun w ⟨m, hw⟩ => D5 hw rfl) ?_
    refine dx_u 8 (by kernel_rfl) rfl rfl rfl (fun w => y_move rfl) ?_
    refine dx_y 9 (by kernel_rfl) rfl rfl rfl (fun w ⟨m, hw⟩ => D5 hw rfl) ?_
    refine dx_u 10 (by kernel_rfl) rfl rfl rfl (fun w => y_nilCheck rfl rfl) ?_
    refine dx_u 11 (by kernel_rfl) rfl rfl rfl (fun w => y_fldb (o' := 4) rfl) ?_
    refine dx_y 12 (by kernel_rfl) rfl rfl rfl (fun w ⟨m, hw⟩ => D5 hw rfl) ?_
    refine dx_two 13 17 (by kernel_rfl) rfl rfl rfl rfl ?_ ?_
    · refine CK [.o a, .o s] hO rfl (fun k' hx hr hO' => Spot_spec (target := below) (f := fo) hIy.ai.pos hIy.ai.attrs hIy.si.el hyl (FosOk.of ty hIy.ai.wi hIy.si.el) (hO := hO')) ?_
      rintro _ _ w ⟨rfl, rfl⟩ hO
      simp only [List.cons_append, List.nil_append] at hO
      rw [← hspe]
      refine o_done ?_
      refine ⟨SO.ks [.b b4, .b g] hO, ?_⟩
      refine dx_u 14 (by kernel_rfl) rfl rfl rfl (fun w => y_move rfl) ?_
      refine dx_u 15 (by kernel_rfl) rfl rfl rfl (fun w => y_extract rfl rfl) ?_
      refine dx_u 16 (by kernel_rfl) rfl rfl rfl (fun w => y_extract rfl rfl) ?_
      refine dx_only 17 (by kernel_rfl) rfl rfl ?_
      refine s_alloc (vs := [.int .i64 0, .int .i64 0]) hO rfl rfl rfl fun b9 w hO => ?_
      refine o_done ?_
      refine ⟨SO.ks [.b b4, .b g] hO, ?_⟩
      refine dx_close 18 (by kernel_rfl) rfl rfl ?_
      refine Y3 hO rfl rfl (fun w hO => ?_)
      refine o_done ?_
      refine da_phase _ [] (SO.ks [] hO) ?_
      refine dx_u 19 (by kernel_rfl) rfl rfl rfl (fun w => y_assign rfl) ?_
      refine dx_end (by kernel_rfl) (q_nopan ?_)
      exact q_cut (b9) ⟨rfl, rfl, rfl, rfl, rfl, trivial⟩ ⟨hO.only [.b b4, .b b5, .b b9, .b b6, .b g, .o a, .o s, .o l], trivial⟩
    · refine s_alloc (vs := [.int .i64 0, .int .i64 0]) hO rfl rfl rfl fun b9 w hO => ?_
      refine o_done ?_
      refine ⟨SO.ks [.b b4, .b g] hO, ?_⟩
      refine dx_only 13 (by kernel_rfl) rfl rfl ?_
      refine CK [.o a, .o s] hO rfl (fun k' hx hr hO' => Spot_spec (target := below) (f := fo) hIy.ai.pos hIy.ai.attrs hIy.si.el hyl (FosOk.of ty hIy.ai.wi hIy.si.el) (hO := hO')) ?_
      rintro _ _ w ⟨rfl, rfl⟩ hO
      simp only [List.cons_append, List.nil_append] at hO
      rw [← hspe]
      refine o_done ?_
      refine ⟨SO.ks [.b b4, .b g] hO, ?_⟩
      refine dx_u 14 (by kernel_rfl) rfl rfl rfl (fun w => y_move rfl) ?_
      refine dx_u 15 (by kernel_rfl) rfl rfl rfl (fun w => y_extract rfl rfl) ?_
      refine dx_u 16 (by kernel_rfl) rfl rfl rfl (fun w => y_extract rfl rfl) ?_
      refine dx_close 18 (by kernel_rfl) rfl rfl ?_
      refine Y3 hO rfl rfl (fun w hO => ?_)
      refine o_done ?_
      refine da_phase _ [] (SO.ks [] hO) ?_
      refine dx_u 19 (by kernel_rfl) rfl rfl rfl (fun w => y_assign rfl) ?_
      refine dx_end (by kernel_rfl) (q_nopan ?_)
      exact q_cut (b9) ⟨rfl, rfl, rfl, rfl, rfl, trivial⟩ ⟨hO.only [.b b4, .b b5, .b b9, .b b6, .b g, .o a, .o s, .o l], trivial⟩
  · rintro b9 w ⟨hO, _⟩
    refine K0 ?_
    refine da_regM ?_
    have hO := hO.drew
    refine da_phase _ [6] (SO.ks [.b b4, .b g, .b b9] hO) ?_
    refine dx_y 0 (by kernel_rfl) rfl rfl rfl (fun w ⟨m, hw⟩ => D5 hw rfl) ?_
    refine dx_u 1 (by kernel_rfl) rfl rfl rfl (fun w => y_nilCheck rfl rfl) ?_
    refine dx_u 2 (by kernel_rfl) rfl rfl rfl (fun w => y_fldb (o' := 0) rfl) ?_
    refine dx_y 3 (by kernel_rfl) rfl rfl rfl (fun w ⟨m, hw⟩ => D5 hw rfl) ?_
    refine dx_y 4 (by kernel_rfl) rfl rfl rfl (fun w ⟨m, hw⟩ => D8 (cs := [.int .i64 sp.Parent, .int .i64 sp.Before]) hw rfl) ?_
    refine dx_u 5 (by kernel_rfl) rfl rfl rfl (fun w => y_move rfl) ?_
    refine dx_close 6 (by kernel_rfl) rfl rfl ?_
    refine CK [.o a] hO rfl (fun k' hx hr hO' => PutG_spec (want := sp.Parent) (before := sp.Before) (id := y.last) hIy.ai hIy.lst hsp.1 hsp.2 (hO := hO')) ?_
    rintro _ _ w ⟨⟨e9, rfl⟩, rfl⟩ hO
    simp only [List.cons_append, List.nil_append] at hO
    refine o_done ?_
    refine da_end (by kernel_rfl) (q_nopan ?_)
    refine K3 ?_
    refine c_cut (X := Option Addr × Nat × Nat × Nat) (fun z => [(4, .pointer (some ⟨b4, 0, none⟩)), (5, .pointer (some ⟨b5, 0, none⟩)), (6, .pointer (some ⟨b6, 0, none⟩)), (11, .pointer (some ⟨z.2.2.1, 0, none⟩)), (12, .pointer (some ⟨z.2.2.2, 0, none⟩))]) (fun z w => Own k w [blk b4 80 [.pointer (some ⟨g, 0, none⟩)], blk b5 3 [.int .i64 f], blk z.2.2.1 3 [.int .i64 (swE y f below fo z.1 z.2.1).1], blk z.2.2.2 53 (Api_token.cells (at_ y.L (findE y.L f).toNat).Token), blk b6 3 [.int .i64 block], agB g a s l nm fo errs y.mark, arenaL a (swE y f below fo z.1 z.2.1).2.2, stkL s a y.st, actL l a y.L] ∧ True) ?_ ?_
    · refine da_regM ?_
      have hO := hO.drew
      refine da_phase _ [13] (SO.ks [.b b4, .b g, .b b5] hO) ?_
      refine dx_y 0 (by kernel_rfl) rfl rfl rfl (fun w ⟨m, hw⟩ => D5 hw rfl) ?_
      refine dx_y 1 (by kernel_rfl) rfl rfl rfl (fun w ⟨m, hw⟩ => D5 hw rfl) ?_
      refine dx_u 2 (by kernel_rfl) rfl rfl rfl (fun w => y_nilCheck rfl rfl) ?_
      refine dx_u 3 (by kernel_rfl) rfl rfl rfl (fun w => y_fldb (o' := 2) rfl) ?_
      refine dx_y 4 (by kernel_rfl) rfl rfl rfl (fun w ⟨m, hw⟩ => D5 hw rfl) ?_
      refine dx_y 5 (by kernel_rfl) rfl rfl rfl (fun w ⟨m, hw⟩ => D5 hw rfl) ?_
      refine dx_three 6 11 12 (by kernel_rfl) rfl rfl rfl rfl rfl rfl ?_ ?_ ?_
      · refine CK [.o l] hO rfl (fun k' hx hr hO' => aFind_spec hyL (hO := hO')) ?_
        rintro _ _ w ⟨rfl, rfl⟩ hO
        simp only [List.cons_append, List.nil_append] at hO
        refine o_done ?_
        refine ⟨SO.ks [.b b4, .b g, .b b5] hO, ?_⟩
        refine dx_three 7 11 12 (by kernel_rfl) rfl rfl rfl rfl rfl rfl ?_ ?_ ?_
        · refine CK [.b g, .o a, .o l] hO rfl (fun k' hx hr hO' => fresh_specA (e := at_ y.L (findE y.L f).toNat) hA2.pos (by show (putF y.A sp y.last).length ≤ 32768; omega) hyL ⟨hIy.fl, by omega⟩ rfl (hIy.li.tok _ (at_mem hfy.1)) (hO := hO')) ?_
          rintro _ _ w ⟨q1, d1, rfl, rfl⟩ hO
          simp only [List.cons_append, List.nil_append] at hO
          have hEe : elementL (putF y.A ⟨sp.Parent, sp.Before⟩ y.last) 0 (at_ y.L (findE y.L f).toNat).Token.Name [] q1 d1 = swE y f below fo q1 d1 := by rw [swE, ← hspe]; rfl
          rw [hEe] at hO ⊢
          refine o_done ?_
          refine ⟨SO.ks [.b b4, .b g, .b b5] hO, ?_⟩
          refine dx_u 8 (by kernel_rfl) rfl rfl rfl (fun w => y_move rfl) ?_
          refine dx_u 9 (by kernel_rfl) rfl rfl rfl (fun w => y_extract rfl rfl) ?_
          refine dx_u 10 (by kernel_rfl) rfl rfl rfl (fun w => y_extract rfl rfl) ?_
          refine dx_two 11 12 (by kernel_rfl) rfl rfl rfl rfl ?_ ?_
          · refine s_alloc (vs := [.int .i64 0]) hO rfl rfl rfl fun b11 w hO => ?_
            refine o_done ?_
            refine ⟨SO.ks [.b b4, .b g, .b b5] hO, ?_⟩
            refine dx_only 12 (by kernel_rfl) rfl rfl ?_
            refine s_alloc (vs := [.int .i64 0, .string ⟨#[]⟩, .string ⟨#[]⟩, .string ⟨#[]⟩, .int .i64 0, .bool false, .int .i32 0, .bool false, .slice none 0 0]) hO rfl rfl rfl fun b12 w hO => ?_
            refine o_done ?_
            refine ⟨SO.ks [.b b4, .b g, .b b5] hO, ?_⟩
            refine dx_close 13 (by kernel_rfl) rfl rfl ?_
            refine Y1 hO rfl rfl (fun w hO => ?_)
            simp only [List.set_cons_zero, List.set_cons_succ] at hO
            refine o_done ?_
            refine da_only 14 (by kernel_rfl) rfl ?_
            refine Y3 hO rfl rfl (fun w hO => ?_)
            refine o_done ?_
            refine da_end (by kernel_rfl) (q_nopan ?_)
            exact q_cut ((q1, d1, b11, b12)) ⟨rfl, rfl, rfl, rfl, rfl, trivial⟩ ⟨hO.only [.b b4, .b b5, .b b11, .b b12, .b b6, .b g, .o a, .o s, .o l], trivial⟩
          · refine s_alloc (vs := [.int .i64 0, .string ⟨#[]⟩, .string ⟨#[]⟩, .string ⟨#[]⟩, .int .i64 0, .bool false, .int .i32 0, .bool false, .slice none 0 0]) hO rfl rfl rfl fun b12 w hO => ?_
            refine o_done ?_
            refine ⟨SO.ks [.b b4, .b g, .b b5] hO, ?_⟩
            refine dx_only 11 (by kernel_rfl) rfl rfl ?_
            refine s_alloc (vs := [.int .i64 0]) hO rfl rfl rfl fun b11 w hO => ?_
            refine o_done ?_
            refine ⟨SO.ks [.b b4, .b g, .b b5] hO, ?_⟩
            refine dx_close 13 (by kernel_rfl) rfl rfl ?_
            refine Y1 hO rfl rfl (fun w hO => ?_)
            simp only [List.set_cons_zero, List.set_cons_succ] at hO
            refine o_done ?_
            refine da_only 14 (by kernel_rfl) rfl ?_
            refine Y3 hO rfl rfl (fun w hO => ?_)
            refine o_done ?_
            refine da_end (by kernel_rfl) (q_nopan ?_)
            exact q_cut ((q1, d1, b11, b12)) ⟨rfl, rfl, rfl, rfl, rfl, trivial⟩ ⟨hO.only [.b b4, .b b5, .b b11, .b b12, .b b6, .b g, .o a, .o s, .o l], trivial⟩
        · refine s_alloc (vs := [.int .i64 0]) hO rfl rfl rfl fun b11 w hO => ?_
          refine o_done ?_
          refine ⟨SO.ks [.b b4, .b g, .b b5] hO, ?_⟩
          refine dx_two 7 12 (by kernel_rfl) rfl rfl rfl rfl ?_ ?_
          · refine CK [.b g, .o a, .o l] hO rfl (fun k' hx hr hO' => fresh_specA (e := at_ y.L (findE y.L f).toNat) hA2.pos (by show (putF y.A sp y.last).length ≤ 32768; omega) hyL ⟨hIy.fl, by omega⟩ rfl (hIy.li.tok _ (at_mem hfy.1)) (hO := hO')) ?_
            rintro _ _ w ⟨q1, d1, rfl, rfl⟩ hO
            simp only [List.cons_append, List.nil_append] at hO
            have hEe : elementL (putF y.A ⟨sp.Parent, sp.Before⟩ y.last) 0 (at_ y.L (findE y.L f).toNat).Token.Name [] q1 d1 = swE y f below fo q1 d1 := by rw [swE, ← hspe]; rfl
            rw [hEe] at hO ⊢
            refine o_done ?_
            refine ⟨SO.ks [.b b4, .b g, .b b5] hO, ?_⟩
            refine dx_u 8 (by kernel_rfl) rfl rfl rfl (fun w => y_move rfl) ?_
            refine dx_u 9 (by kernel_rfl) rfl rfl rfl (fun w => y_extract rfl rfl) ?_
            refine dx_u 10 (by kernel_rfl) rfl rfl rfl (fun w => y_extract rfl rfl) ?_
            refine dx_only 12 (by kernel_rfl) rfl rfl ?_
            refine s_alloc (vs := [.int .i64 0, .string ⟨#[]⟩, .string ⟨#[]⟩, .string ⟨#[]⟩, .int .i64 0, .bool false, .int .i32 0, .bool false, .slice none 0 0]) hO rfl rfl rfl fun b12 w hO => ?_
            refine o_done ?_
            refine ⟨SO.ks [.b b4, .b g, .b b5] hO, ?_⟩
            refine dx_close 13 (by kernel_rfl) rfl rfl ?_
            refine Y1 hO rfl rfl (fun w hO => ?_)
            simp only [List.set_cons_zero, List.set_cons_succ] at hO
            refine o_done ?_
            refine da_only 14 (by kernel_rfl) rfl ?_
            refine Y3 hO rfl rfl (fun w hO => ?_)
            refine o_done ?_
            refine da_end (by kernel_rfl) (q_nopan ?_)
            exact q_cut ((q1, d1, b11, b12)) ⟨rfl, rfl, rfl, rfl, rfl, trivial⟩ ⟨hO.only [.b b4, .b b5, .b b11, .b b12, .b b6, .b g, .o a, .o s, .o l], trivial⟩
          · refine s_alloc (vs := [.int .i64 0, .string ⟨#[]⟩, .string ⟨#[]⟩, .string ⟨#[]⟩, .int .i64 0, .bool false, .int .i32 0, .bool false, .slice none 0 0]) hO rfl rfl rfl fun b12 w hO => ?_
            refine o_done ?_
            refine ⟨SO.ks [.b b4, .b g, .b b5] hO, ?_⟩
            refine dx_only 7 (by kernel_rfl) rfl rfl ?_
            refine CK [.b g, .o a, .o l] hO rfl (fun k' hx hr hO' => fresh_specA (e := at_ y.L (findE y.L f).toNat) hA2.pos (by show (putF y.A sp y.last).length ≤ 32768; omega) hyL ⟨hIy.fl, by omega⟩ rfl (hIy.li.tok _ (at_mem hfy.1)) (hO := hO')) ?_
            rintro _ _ w ⟨q1, d1, rfl, rfl⟩ hO
            simp only [List.cons_append, List.nil_append] at hO
            have hEe : elementL (putF y.A ⟨sp.Parent, sp.Before⟩ y.last) 0 (at_ y.L (findE y.L f).toNat).Token.Name [] q1 d1 = swE y f below fo q1 d1 := by rw [swE, ← hspe]; rfl
            rw [hEe] at hO ⊢
            refine o_done ?_
            refine ⟨SO.ks [.b b4, .b g, .b b5] hO, ?_⟩
            refine dx_u 8 (by kernel_rfl) rfl rfl rfl (fun w => y_move rfl) ?_
            refine dx_u 9 (by kernel_rfl) rfl rfl rfl (fun w => y_extract rfl rfl) ?_
            refine dx_u 10 (by kernel_rfl) rfl rfl rfl (fun w => y_extract rfl rfl) ?_
            refine dx_close 13 (by kernel_rfl) rfl rfl ?_
            refine Y1 hO rfl rfl (fun w hO => ?_)
            simp only [List.set_cons_zero, List.set_cons_succ] at hO
            refine o_done ?_
            refine da_only 14 (by kernel_rfl) rfl ?_
            refine Y3 hO rfl rfl (fun w hO => ?_)
            refine o_done ?_
            refine da_end (by kernel_rfl) (q_nopan ?_)
            exact q_cut ((q1, d1, b11, b12)) ⟨rfl, rfl, rfl, rfl, rfl, trivial⟩ ⟨hO.only [.b b4, .b b5, .b b11, .b b12, .b b6, .b g, .o a, .o s, .o l], trivial⟩
        · refine s_alloc (vs := [.int .i64 0, .string ⟨#[]⟩, .string ⟨#[]⟩, .string ⟨#[]⟩, .int .i64 0, .bool false, .int .i32 0, .bool false, .slice none 0 0]) hO rfl rfl rfl fun b12 w hO => ?_
          refine o_done ?_
          refine ⟨SO.ks [.b b4, .b g, .b b5] hO, ?_⟩
          refine dx_two 7 11 (by kernel_rfl) rfl rfl rfl rfl ?_ ?_
          · refine CK [.b g, .o a, .o l] hO rfl (fun k' hx hr hO' => fresh_specA (e := at_ y.L (findE y.L f).toNat) hA2.pos (by show (putF y.A sp y.last).length ≤ 32768; omega) hyL ⟨hIy.fl, by omega⟩ rfl (hIy.li.tok _ (at_mem hfy.1)) (hO := hO')) ?_
            rintro _ _ w ⟨q1, d1, rfl, rfl⟩ hO
            simp only [List.cons_append, List.nil_append] at hO
            have hEe : elementL (putF y.A ⟨sp.Parent, sp.Before⟩ y.last) 0 (at_ y.L (findE y.L f).toNat).Token.Name [] q1 d1 = swE y f below fo q1 d1 := by rw [swE, ← hspe]; rfl
            rw [hEe] at hO ⊢
            refine o_done ?_
            refine ⟨SO.ks [.b b4, .b g, .b b5] hO, ?_⟩
            refine dx_u 8 (by kernel_rfl) rfl rfl rfl (fun w => y_move rfl) ?_
            refine dx_u 9 (by kernel_rfl) rfl rfl rfl (fun w => y_extract rfl rfl) ?_
            refine dx_u 10 (by kernel_rfl) rfl rfl rfl (fun w => y_extract rfl rfl) ?_
            refine dx_only 11 (by kernel_rfl) rfl rfl ?_
            refine s_alloc (vs := [.int .i64 0]) hO rfl rfl rfl fun b11 w hO => ?_
            refine o_done ?_
            refine ⟨SO.ks [.b b4, .b g, .b b5] hO, ?_⟩
            refine dx_close 13 (by kernel_rfl) rfl rfl ?_
            refine Y1 hO rfl rfl (fun w hO => ?_)
            simp only [List.set_cons_zero, List.set_cons_succ] at hO
            refine o_done ?_
            refine da_only 14 (by kernel_rfl) rfl ?_
            refine Y3 hO rfl rfl (fun w hO => ?_)
            refine o_done ?_
            refine da_end (by kernel_rfl) (q_nopan ?_)
            exact q_cut ((q1, d1, b11, b12)) ⟨rfl, rfl, rfl, rfl, rfl, trivial⟩ ⟨hO.only [.b b4, .b b5, .b b11, .b b12, .b b6, .b g, .o a, .o s, .o l], trivial⟩
          · refine s_alloc (vs := [.int .i64 0]) hO rfl rfl rfl fun b11 w hO => ?_
            refine o_done ?_
            refine ⟨SO.ks [.b b4, .b g, .b b5] hO, ?_⟩
            refine dx_only 7 (by kernel_rfl) rfl rfl ?_
            refine CK [.b g, .o a, .o l] hO rfl (fun k' hx hr hO' => fresh_specA (e := at_ y.L (findE y.L f).toNat) hA2.pos (by show (putF y.A sp y.last).length ≤ 32768; omega) hyL ⟨hIy.fl, by omega⟩ rfl (hIy.li.tok _ (at_mem hfy.1)) (hO := hO')) ?_
            rintro _ _ w ⟨q1, d1, rfl, rfl⟩ hO
            simp only [List.cons_append, List.nil_append] at hO
            have hEe : elementL (putF y.A ⟨sp.Parent, sp.Before⟩ y.last) 0 (at_ y.L (findE y.L f).toNat).Token.Name [] q1 d1 = swE y f below fo q1 d1 := by rw [swE, ← hspe]; rfl
            rw [hEe] at hO ⊢
            refine o_done ?_
            refine ⟨SO.ks [.b b4, .b g, .b b5] hO, ?_⟩
            refine dx_u 8 (by kernel_rfl) rfl rfl rfl (fun w => y_move rfl) ?_
            refine dx_u 9 (by kernel_rfl) rfl rfl rfl (fun w => y_extract rfl rfl) ?_
            refine dx_u 10 (by kernel_rfl) rfl rfl rfl (fun w => y_extract rfl rfl) ?_
            refine dx_close 13 (by kernel_rfl) rfl rfl ?_
            refine Y1 hO rfl rfl (fun w hO => ?_)
            simp only [List.set_cons_zero, List.set_cons_succ] at hO
            refine o_done ?_
            refine da_only 14 (by kernel_rfl) rfl ?_
            refine Y3 hO rfl rfl (fun w hO => ?_)
            refine o_done ?_
            refine da_end (by kernel_rfl) (q_nopan ?_)
            exact q_cut ((q1, d1, b11, b12)) ⟨rfl, rfl, rfl, rfl, rfl, trivial⟩ ⟨hO.only [.b b4, .b b5, .b b11, .b b12, .b b6, .b g, .o a, .o s, .o l], trivial⟩
      · refine s_alloc (vs := [.int .i64 0]) hO rfl rfl rfl fun b11 w hO => ?_
        refine o_done ?_
        refine ⟨SO.ks [.b b4, .b g, .b b5] hO, ?_⟩
        refine dx_two 6 12 (by kernel_rfl) rfl rfl rfl rfl ?_ ?_
        · refine CK [.o l] hO rfl (fun k' hx hr hO' => aFind_spec hyL (hO := hO')) ?_
          rintro _ _ w ⟨rfl, rfl⟩ hO
          simp only [List.cons_append, List.nil_append] at hO
          refine o_done ?_
          refine ⟨SO.ks [.b b4, .b g, .b b5] hO, ?_⟩
          refine dx_two 7 12 (by kernel_rfl) rfl rfl rfl rfl ?_ ?_
          · refine CK [.b g, .o a, .o l] hO rfl (fun k' hx hr hO' => fresh_specA (e := at_ y.L (findE y.L f).toNat) hA2.pos (by show (putF y.A sp y.last).length ≤ 32768; omega) hyL ⟨hIy.fl, by omega⟩ rfl (hIy.li.tok _ (at_mem hfy.1)) (hO := hO')) ?_
            rintro _ _ w ⟨q1, d1, rfl, rfl⟩ hO
            simp only [List.cons_append, List.nil_append] at hO
            have hEe : elementL (putF y.A ⟨sp.Parent, sp.Before⟩ y.last) 0 (at_ y.L (findE y.L f).toNat).Token.Name [] q1 d1 = swE y f below fo q1 d1 := by rw [swE, ← hspe]; rfl
            rw [hEe] at hO ⊢
            refine o_done ?_
            refine ⟨SO.ks [.b b4, .b g, .b b5] hO, ?_⟩
            refine dx_u 8 (by kernel_rfl) rfl rfl rfl (fun w => y_move rfl) ?_
            refine dx_u 9 (by kernel_rfl) rfl rfl rfl (fun w => y_extract rfl rfl) ?_
            refine dx_u 10 (by kernel_rfl) rfl rfl rfl (fun w => y_extract rfl rfl) ?_
            refine dx_only 12 (by kernel_rfl) rfl rfl ?_
            refine s_alloc (vs := [.int .i64 0, .string ⟨#[]⟩, .string ⟨#[]⟩, .string ⟨#[]⟩, .int .i64 0, .bool false, .int .i32 0, .bool false, .slice none 0 0]) hO rfl rfl rfl fun b12 w hO => ?_
            refine o_done ?_
            refine ⟨SO.ks [.b b4, .b g, .b b5] hO, ?_⟩
            refine dx_close 13 (by kernel_rfl) rfl rfl ?_
            refine Y1 hO rfl rfl (fun w hO => ?_)
            simp only [List.set_cons_zero, List.set_cons_succ] at hO
            refine o_done ?_
            refine da_only 14 (by kernel_rfl) rfl ?_
            refine Y3 hO rfl rfl (fun w hO => ?_)
            refine o_done ?_
            refine da_end (by kernel_rfl) (q_nopan ?_)
            exact q_cut ((q1, d1, b11, b12)) ⟨rfl, rfl, rfl, rfl, rfl, trivial⟩ ⟨hO.only [.b b4, .b b5, .b b11, .b b12, .b b6, .b g, .o a, .o s, .o l], trivial⟩
          · refine s_alloc (vs := [.int .i64 0, .string ⟨#[]⟩, .string ⟨#[]⟩, .string ⟨#[]⟩, .int .i64 0, .bool false, .int .i32 0, .bool false, .slice none 0 0]) hO rfl rfl rfl fun b12 w hO => ?_
            refine o_done ?_
            refine ⟨SO.ks [.b b4, .b g, .b b5] hO, ?_⟩
            refine dx_only 7 (by kernel_rfl) rfl rfl ?_
            refine CK [.b g, .o a, .o l] hO rfl (fun k' hx hr hO' => fresh_specA (e := at_ y.L (findE y.L f).toNat) hA2.pos (by show (putF y.A sp y.last).length ≤ 32768; omega) hyL ⟨hIy.fl, by omega⟩ rfl (hIy.li.tok _ (at_mem hfy.1)) (hO := hO')) ?_
            rintro _ _ w ⟨q1, d1, rfl, rfl⟩ hO
            simp only [List.cons_append, List.nil_append] at hO
            have hEe : elementL (putF y.A ⟨sp.Parent, sp.Before⟩ y.last) 0 (at_ y.L (findE y.L f).toNat).Token.Name [] q1 d1 = swE y f below fo q1 d1 := by rw [swE, ← hspe]; rfl
            rw [hEe] at hO ⊢
            refine o_done ?_
            refine ⟨SO.ks [.b b4, .b g, .b b5] hO, ?_⟩
            refine dx_u 8 (by kernel_rfl) rfl rfl rfl (fun w => y_move rfl) ?_
            refine dx_u 9 (by kernel_rfl) rfl rfl rfl (fun w => y_extract rfl rfl) ?_
            refine dx_u 10 (by kernel_rfl) rfl rfl rfl (fun w => y_extract rfl rfl) ?_
            refine dx_close 13 (by kernel_rfl) rfl rfl ?_
            refine Y1 hO rfl rfl (fun w hO => ?_)
            simp only [List.set_cons_zero, List.set_cons_succ] at hO
            refine o_done ?_
            refine da_only 14 (by kernel_rfl) rfl ?_
            refine Y3 hO rfl rfl (fun w hO => ?_)
            refine o_done ?_
            refine da_end (by kernel_rfl) (q_nopan ?_)
            exact q_cut ((q1, d1, b11, b12)) ⟨rfl, rfl, rfl, rfl, rfl, trivial⟩ ⟨hO.only [.b b4, .b b5, .b b11, .b b12, .b b6, .b g, .o a, .o s, .o l], trivial⟩
        · refine s_alloc (vs := [.int .i64 0, .string ⟨#[]⟩, .string ⟨#[]⟩, .string ⟨#[]⟩, .int .i64 0, .bool false, .int .i32 0, .bool false, .slice none 0 0]) hO rfl rfl rfl fun b12 w hO => ?_
          refine o_done ?_
          refine ⟨SO.ks [.b b4, .b g, .b b5] hO, ?_⟩
          refine dx_only 6 (by kernel_rfl) rfl rfl ?_
          refine CK [.o l] hO rfl (fun k' hx hr hO' => aFind_spec hyL (hO := hO')) ?_
          rintro _ _ w ⟨rfl, rfl⟩ hO
          simp only [List.cons_append, List.nil_append] at hO
          refine o_done ?_
          refine ⟨SO.ks [.b b4, .b g, .b b5] hO, ?_⟩
          refine dx_only 7 (by kernel_rfl) rfl rfl ?_
          refine CK [.b g, .o a, .o l] hO rfl (fun k' hx hr hO' => fresh_specA (e := at_ y.L (findE y.L f).toNat) hA2.pos (by show (putF y.A sp y.last).length ≤ 32768; omega) hyL ⟨hIy.fl, by omega⟩ rfl (hIy.li.tok _ (at_mem hfy.1)) (hO := hO')) ?_
          rintro _ _ w ⟨q1, d1, rfl, rfl⟩ hO
          simp only [List.cons_append, List.nil_append] at hO
          have hEe : elementL (putF y.A ⟨sp.Parent, sp.Before⟩ y.last) 0 (at_ y.L (findE y.L f).toNat).Token.Name [] q1 d1 = swE y f below fo q1 d1 := by rw [swE, ← hspe]; rfl
          rw [hEe] at hO ⊢
          refine o_done ?_
          refine ⟨SO.ks [.b b4, .b g, .b b5] hO, ?_⟩
          refine dx_u 8 (by kernel_rfl) rfl rfl rfl (fun w => y_move rfl) ?_
          refine dx_u 9 (by kernel_rfl) rfl rfl rfl (fun w => y_extract rfl rfl) ?_
          refine dx_u 10 (by kernel_rfl) rfl rfl rfl (fun w => y_extract rfl rfl) ?_
          refine dx_close 13 (by kernel_rfl) rfl rfl ?_
          refine Y1 hO rfl rfl (fun w hO => ?_)
          simp only [List.set_cons_zero, List.set_cons_succ] at hO
          refine o_done ?_
          refine da_only 14 (by kernel_rfl) rfl ?_
          refine Y3 hO rfl rfl (fun w hO => ?_)
          refine o_done ?_
          refine da_end (by kernel_rfl) (q_nopan ?_)
          exact q_cut ((q1, d1, b11, b12)) ⟨rfl, rfl, rfl, rfl, rfl, trivial⟩ ⟨hO.only [.b b4, .b b5, .b b11, .b b12, .b b6, .b g, .o a, .o s, .o l], trivial⟩
      · refine s_alloc (vs := [.int .i64 0, .string ⟨#[]⟩, .string ⟨#[]⟩, .string ⟨#[]⟩, .int .i64 0, .bool false, .int .i32 0, .bool false, .slice none 0 0]) hO rfl rfl rfl fun b12 w hO => ?_
        refine o_done ?_
        refine ⟨SO.ks [.b b4, .b g, .b b5] hO, ?_⟩
        refine dx_two 6 11 (by kernel_rfl) rfl rfl rfl rfl ?_ ?_
        · refine CK [.o l] hO rfl (fun k' hx hr hO' => aFind_spec hyL (hO := hO')) ?_
          rintro _ _ w ⟨rfl, rfl⟩ hO
          simp only [List.cons_append, List.nil_append] at hO
          refine o_done ?_
          refine ⟨SO.ks [.b b4, .b g, .b b5] hO, ?_⟩
          refine dx_two 7 11 (by kernel_rfl) rfl rfl rfl rfl ?_ ?_
          · refine CK [.b g, .o a, .o l] hO rfl (fun k' hx hr hO' => fresh_specA (e := at_ y.L (findE y.L f).toNat) hA2.pos (by show (putF y.A sp y.last).length ≤ 32768; omega) hyL ⟨hIy.fl, by omega⟩ rfl (hIy.li.tok _ (at_mem hfy.1)) (hO := hO')) ?_
            rintro _ _ w ⟨q1, d1, rfl, rfl⟩ hO
            simp only [List.cons_append, List.nil_append] at hO
            have hEe : elementL (putF y.A ⟨sp.Parent, sp.Before⟩ y.last) 0 (at_ y.L (findE y.L f).toNat).Token.Name [] q1 d1 = swE y f below fo q1 d1 := by rw [swE, ← hspe]; rfl
            rw [hEe] at hO ⊢
            refine o_done ?_
            refine ⟨SO.ks [.b b4, .b g, .b b5] hO, ?_⟩
            refine dx_u 8 (by kernel_rfl) rfl rfl rfl (fun w => y_move rfl) ?_
            refine dx_u 9 (by kernel_rfl) rfl rfl rfl (fun w => y_extract rfl rfl) ?_
            refine dx_u 10 (by kernel_rfl) rfl rfl rfl (fun w => y_extract rfl rfl) ?_
            refine dx_only 11 (by kernel_rfl) rfl rfl ?_
            refine s_alloc (vs := [.int .i64 0]) hO rfl rfl rfl fun b11 w hO => ?_
            refine o_done ?_
            refine ⟨SO.ks [.b b4, .b g, .b b5] hO, ?_⟩
            refine dx_close 13 (by kernel_rfl) rfl rfl ?_
            refine Y1 hO rfl rfl (fun w hO => ?_)
            simp only [List.set_cons_zero, List.set_cons_succ] at hO
            refine o_done ?_
            refine da_only 14 (by kernel_rfl) rfl ?_
            refine Y3 hO rfl rfl (fun w hO => ?_)
            refine o_done ?_
            refine da_end (by kernel_rfl) (q_nopan ?_)
            exact q_cut ((q1, d1, b11, b12)) ⟨rfl, rfl, rfl, rfl, rfl, trivial⟩ ⟨hO.only [.b b4, .b b5, .b b11, .b b12, .b b6, .b g, .o a, .o s, .o l], trivial⟩
          · refine s_alloc (vs := [.int .i64 0]) hO rfl rfl rfl fun b11 w hO => ?_
            refine o_done ?_
            refine ⟨SO.ks [.b b4, .b g, .b b5] hO, ?_⟩
            refine dx_only 7 (by kernel_rfl) rfl rfl ?_
            refine CK [.b g, .o a, .o l] hO rfl (fun k' hx hr hO' => fresh_specA (e := at_ y.L (findE y.L f).toNat) hA2.pos (by show (putF y.A sp y.last).length ≤ 32768; omega) hyL ⟨hIy.fl, by omega⟩ rfl (hIy.li.tok _ (at_mem hfy.1)) (hO := hO')) ?_
            rintro _ _ w ⟨q1, d1, rfl, rfl⟩ hO
            simp only [List.cons_append, List.nil_append] at hO
            have hEe : elementL (putF y.A ⟨sp.Parent, sp.Before⟩ y.last) 0 (at_ y.L (findE y.L f).toNat).Token.Name [] q1 d1 = swE y f below fo q1 d1 := by rw [swE, ← hspe]; rfl
            rw [hEe] at hO ⊢
            refine o_done ?_
            refine ⟨SO.ks [.b b4, .b g, .b b5] hO, ?_⟩
            refine dx_u 8 (by kernel_rfl) rfl rfl rfl (fun w => y_move rfl) ?_
            refine dx_u 9 (by kernel_rfl) rfl rfl rfl (fun w => y_extract rfl rfl) ?_
            refine dx_u 10 (by kernel_rfl) rfl rfl rfl (fun w => y_extract rfl rfl) ?_
            refine dx_close 13 (by kernel_rfl) rfl rfl ?_
            refine Y1 hO rfl rfl (fun w hO => ?_)
            simp only [List.set_cons_zero, List.set_cons_succ] at hO
            refine o_done ?_
            refine da_only 14 (by kernel_rfl) rfl ?_
            refine Y3 hO rfl rfl (fun w hO => ?_)
            refine o_done ?_
            refine da_end (by kernel_rfl) (q_nopan ?_)
            exact q_cut ((q1, d1, b11, b12)) ⟨rfl, rfl, rfl, rfl, rfl, trivial⟩ ⟨hO.only [.b b4, .b b5, .b b11, .b b12, .b b6, .b g, .o a, .o s, .o l], trivial⟩
        · refine s_alloc (vs := [.int .i64 0]) hO rfl rfl rfl fun b11 w hO => ?_
          refine o_done ?_
          refine ⟨SO.ks [.b b4, .b g, .b b5] hO, ?_⟩
          refine dx_only 6 (by kernel_rfl) rfl rfl ?_
          refine CK [.o l] hO rfl (fun k' hx hr hO' => aFind_spec hyL (hO := hO')) ?_
          rintro _ _ w ⟨rfl, rfl⟩ hO
          simp only [List.cons_append, List.nil_append] at hO
          refine o_done ?_
          refine ⟨SO.ks [.b b4, .b g, .b b5] hO, ?_⟩
          refine dx_only 7 (by kernel_rfl) rfl rfl ?_
          refine CK [.b g, .o a, .o l] hO rfl (fun k' hx hr hO' => fresh_specA (e := at_ y.L (findE y.L f).toNat) hA2.pos (by show (putF y.A sp y.last).length ≤ 32768; omega) hyL ⟨hIy.fl, by omega⟩ rfl (hIy.li.tok _ (at_mem hfy.1)) (hO := hO')) ?_
          rintro _ _ w ⟨q1, d1, rfl, rfl⟩ hO
          simp only [List.cons_append, List.nil_append] at hO
          have hEe : elementL (putF y.A ⟨sp.Parent, sp.Before⟩ y.last) 0 (at_ y.L (findE y.L f).toNat).Token.Name [] q1 d1 = swE y f below fo q1 d1 := by rw [swE, ← hspe]; rfl
          rw [hEe] at hO ⊢
          refine o_done ?_
          refine ⟨SO.ks [.b b4, .b g, .b b5] hO, ?_⟩
          refine dx_u 8 (by kernel_rfl) rfl rfl rfl (fun w => y_move rfl) ?_
          refine dx_u 9 (by kernel_rfl) rfl rfl rfl (fun w => y_extract rfl rfl) ?_
          refine dx_u 10 (by kernel_rfl) rfl rfl rfl (fun w => y_extract rfl rfl) ?_
          refine dx_close 13 (by kernel_rfl) rfl rfl ?_
          refine Y1 hO rfl rfl (fun w hO => ?_)
          simp only [List.set_cons_zero, List.set_cons_succ] at hO
          refine o_done ?_
          refine da_only 14 (by kernel_rfl) rfl ?_
          refine Y3 hO rfl rfl (fun w hO => ?_)
          refine o_done ?_
          refine da_end (by kernel_rfl) (q_nopan ?_)
          exact q_cut ((q1, d1, b11, b12)) ⟨rfl, rfl, rfl, rfl, rfl, trivial⟩ ⟨hO.only [.b b4, .b b5, .b b11, .b b12, .b b6, .b g, .o a, .o s, .o l], trivial⟩
    · rintro z w ⟨hO, _⟩
      refine K0 ?_
      obtain ⟨q1, d1, b11, b12⟩ := z
      dsimp only at hO
      obtain ⟨EL, hEL⟩ : ∃ EL, EL = swE y f below fo q1 d1 := ⟨_, rfl⟩
      have hel := hA2.el (by omega) hent.2.2 q1 d1
      obtain ⟨hE1, hE2, hE3, hE4, hE5, hE6, hE7, hE8⟩ := hel
      have hEL3 : elementL (putF y.A sp y.last) 0 (at_ y.L (findE y.L f).toNat).Token.Name [] q1 d1 = EL := by rw [hEL, swE, ← hspe]; rfl
      rw [hEL3] at hE1 hE2 hE3 hE4 hE5 hE6 hE7 hE8
      rw [← hEL] at hO
      obtain ⟨Kz, t3⟩ := hE3.tree
      have htw : InA EL.2.2 EL.1 := ⟨by omega, by omega⟩
      have hbk3 : InA EL.2.2 block := ((hbk.keeps hkk).keeps hK2).keeps hE8
      have hK3l := t3.len hbk3
      refine K1 ?_
      refine l_y rfl rfl (y_makeFunc rfl rfl) ?_
      refine l_defer rfl rfl (x_deferV rfl rfl) ?_
      refine K2 (K3 (K0 (K0 ?_)))
      refine da_regM ?_
      have hO := hO.drew
      refine da_phase _ [5] (SO.ks [.b b4, .b g, .b b6] hO) ?_
      refine dx_y 0 (by kernel_rfl) rfl rfl rfl (fun w ⟨m, hw⟩ => D5 hw rfl) ?_
      refine dx_u 1 (by kernel_rfl) rfl rfl rfl (fun w => y_nilCheck rfl rfl) ?_
      refine dx_u 2 (by kernel_rfl) rfl rfl rfl (fun w => y_fldb (o' := 0) rfl) ?_
      refine dx_y 3 (by kernel_rfl) rfl rfl rfl (fun w ⟨m, hw⟩ => D5 hw rfl) ?_
      refine dx_y 4 (by kernel_rfl) rfl rfl rfl (fun w ⟨m, hw⟩ => D5 hw rfl) ?_
      refine dx_u 7 (by kernel_rfl) rfl rfl rfl (fun w => y_move rfl) ?_
      refine dx_close 5 (by kernel_rfl) rfl rfl ?_
      refine CK [.o a] hO rfl (fun k' hx hr hO' => KidsT_spec t3 hbk3 (by omega) (hO := hO')) ?_
      rintro _ _ w ⟨q3, d3, rfl, rfl⟩ hO
      simp only [List.cons_append, List.nil_append] at hO
      have hg3 := (sls_fct (p := q3) hO).2
      refine o_done ?_
      refine da_phase _ [] (SO.ks [] hO) ?_
      refine dx_u 6 (by kernel_rfl) rfl rfl rfl (fun w => y_lenL rfl) ?_
      refine dx_end (by kernel_rfl) (q_nopan ?_)
      refine K3 (K4 ?_)
      refine c_rounds (X := Nat) (fun i => [(4, .pointer (some ⟨b4, 0, none⟩)), (6, .pointer (some ⟨b6, 0, none⟩)), (11, .pointer (some ⟨b11, 0, none⟩)), (12, .pointer (some ⟨b12, 0, none⟩)), (69, .slice q3 (Kz block).length d3), (70, .int .i64 (((Kz block).length : Nat) : Int)), (71, .int .i64 (i : Int))]) (fun i w => Own k w [blk b4 80 [.pointer (some ⟨g, 0, none⟩)], blk b5 3 [.int .i64 f], blk b11 3 [.int .i64 EL.1], blk b12 53 (Api_token.cells (at_ y.L (findE y.L f).toNat).Token), blk b6 3 [.int .i64 block], agB g a s l nm fo errs y.mark, arenaL a (swK EL ((Kz block).take i)), stkL s a y.st, actL l a y.L, sls q3 d3 3 1 (eI .i64) (Kz block)] ∧ (i ≤ (Kz block).length)) (fun i => (Kz block).length - i) (0) ⟨rfl, rfl, rfl, rfl, rfl, rfl, rfl, trivial⟩ ⟨hO.only [.b b4, .b b5, .b b11, .b b12, .b b6, .b g, .o a, .o s, .o l, .p q3], Nat.zero_le _⟩ ?_
      rintro i w m hm ⟨hO, hi⟩
      refine K0 (K1 ?_)
      refine Z0 (fun h8_0 => ?_) (fun h8_0 => ?_)
      · refine K2 (K3 (K0 (L8 (K5 (K3 (K0 (K4 (K0 (K1 ?_)))))))))
        refine l_y rfl rfl (y_idx rfl rfl) ?_
        refine l_y rfl rfl (y_e1 (x0 := 0) hO rfl) ?_
        refine l_y rfl rfl (y_assign rfl) ?_
        refine K2 (K3 ?_)
        have hAK := hE3.swK ((Kz block).take i)
        refine da_regM ?_
        have hO := hO.drew
        refine da_phase _ [7] (SO.ks [.b b4, .b g, .b b11] hO) ?_
        refine dx_y 0 (by kernel_rfl) rfl rfl rfl (fun w ⟨m, hw⟩ => D5 hw rfl) ?_
        refine dx_u 1 (by kernel_rfl) rfl rfl rfl (fun w => y_nilCheck rfl rfl) ?_
        refine dx_u 2 (by kernel_rfl) rfl rfl rfl (fun w => y_fldb (o' := 0) rfl) ?_
        refine dx_y 3 (by kernel_rfl) rfl rfl rfl (fun w ⟨m, hw⟩ => D5 hw rfl) ?_
        refine dx_y 4 (by kernel_rfl) rfl rfl rfl (fun w ⟨m, hw⟩ => D5 hw rfl) ?_
        refine dx_u 6 (by kernel_rfl) rfl rfl rfl (fun w => y_move rfl) ?_
        refine dx_only 5 (by kernel_rfl) rfl rfl ?_
        refine CK [] hO rfl (fun k' hx hr hO' => inside_spec (hO := hO')) ?_
        rintro _ _ w ⟨rfl, rfl⟩ hO
        simp only [List.cons_append, List.nil_append] at hO
        refine o_done ?_
        refine ⟨SO.ks [.b b4, .b g, .b b11] hO, ?_⟩
        refine dx_close 7 (by kernel_rfl) rfl rfl ?_
        refine CK [.o a] hO rfl (fun k' hx hr hO' => PutG_spec (want := EL.1) (before := -1) (id := at_ (Kz block) i) hAK.1 ((((t3.lnk block hbk3).mem (at_mem (by omega))).1).keeps hAK.2.1) (htw.keeps hAK.2.1) (.inl rfl) (hO := hO')) ?_
        rintro _ _ w ⟨⟨e9, rfl⟩, rfl⟩ hO
        simp only [List.cons_append, List.nil_append] at hO
        refine o_done ?_
        refine da_end (by kernel_rfl) (q_nopan ?_)
        refine K8 (K3 (K1 ?_))
        refine l_y rfl rfl (D4) ?_
        refine l_y rfl rfl (y_move rfl) ?_
        refine K2 ?_
        have e9 : swK EL ((Kz block).take (i + 1)) = putF (swK EL ((Kz block).take i)) ⟨EL.1, -1⟩ (at_ (Kz block) i) := by rw [take_succ_at (by omega), swK_snoc]
        rw [← e9] at hO
        exact q_next (i + 1) ⟨rfl, rfl, rfl, rfl, rfl, rfl, rfl, trivial⟩ ⟨hO.only [.b b4, .b b5, .b b11, .b b12, .b b6, .b g, .o a, .o s, .o l, .p q3], by omega⟩ (by omega)
      · refine K2 (K3 (K0 (L9 (K7 (L1 (L1 (L2 (K3 ?_))))))))
        have hAK := hE3.swK (Kz block)
        have hi9 : i = (Kz block).length := by omega
        rw [hi9, List.take_length] at hO
        have hA5 := hAK.1.put ⟨block, -1⟩ EL.1
        refine da_regM ?_
        have hO := hO.drew
        refine da_phase _ [7] (SO.ks [.b b4, .b g, .b b6, .b b11] hO) ?_
        refine dx_y 0 (by kernel_rfl) rfl rfl rfl (fun w ⟨m, hw⟩ => D5 hw rfl) ?_
        refine dx_u 1 (by kernel_rfl) rfl rfl rfl (fun w => y_nilCheck rfl rfl) ?_
        refine dx_u 2 (by kernel_rfl) rfl rfl rfl (fun w => y_fldb (o' := 0) rfl) ?_
        refine dx_y 3 (by kernel_rfl) rfl rfl rfl (fun w ⟨m, hw⟩ => D5 hw rfl) ?_
        refine dx_y 4 (by kernel_rfl) rfl rfl rfl (fun w ⟨m, hw⟩ => D5 hw rfl) ?_
        refine dx_y 6 (by kernel_rfl) rfl rfl rfl (fun w ⟨m, hw⟩ => D5 hw rfl) ?_
        refine dx_only 5 (by kernel_rfl) rfl rfl ?_
        refine CK [] hO rfl (fun k' hx hr hO' => inside_spec (hO := hO')) ?_
        rintro _ _ w ⟨rfl, rfl⟩ hO
        simp only [List.cons_append, List.nil_append] at hO
        refine o_done ?_
        refine ⟨SO.ks [.b b4, .b g, .b b6, .b b11] hO, ?_⟩
        refine dx_close 7 (by kernel_rfl) rfl rfl ?_
        refine CK [.o a] hO rfl (fun k' hx hr hO' => PutG_spec (want := block) (before := -1) (id := EL.1) hAK.1 (htw.keeps hAK.2.1) (hbk3.keeps hAK.2.1) (.inl rfl) (hO := hO')) ?_
        rintro _ _ w ⟨⟨e9, rfl⟩, rfl⟩ hO
        simp only [List.cons_append, List.nil_append] at hO
        refine o_done ?_
        refine da_end (by kernel_rfl) (q_nopan ?_)
        refine finD_n ?_
        have hmk := hIy.mkk
        have hfm := forget_mark (id := f) hIy.mkk
        refine finDKV [.b b4, .b b5, .b b11, .b b12, .b b6, .b g, .o a, .o s, .o l] hO (fun k' hx hr hO' => (swap1_spec hA5 hyl hyL ⟨by omega, by omega⟩ hO').2) ?_
        rintro _ _ w rfl hO
        simp only [List.cons_append, List.nil_append] at hO
        exact fin_ret (fin0 rfl ⟨_, ⟨_, _, _, y, q1, d1, Kz, _, ⟨hy, by rw [← hEL]; exact t3, rfl, rfl, rfl⟩, ⟨hfm.1, by have := hfm.2.1; have := hfm.2.2; omega⟩, rfl⟩, by rw [swS, swL, swA, ← hEL]; exact hO.only [.b g, .o a, .o s, .o l]⟩)
end
end Go.Proofs.YtoohapbaelmkcaaGreat
end
section
set_option linter.unusedVariables false
set_option linter.unusedSimpArgs false
set_option maxRecDepth 100000
namespace Go.Proofs.YtoohapbaelmkcaaGreat
open Go Go.Hb Go.RowKit
theorem freshE_none (A : List Node_one) (l : List Int) : freshE A l (-1) = 6 := by rw [freshE, if_pos (by simp [elB, hasB])]
theorem removeE_none (L : List Api_entry) : removeE L (-1) = (6, L) := by rw [removeE, findE, if_pos rfl, if_pos (by decide)]
section
variable {k : Ctx} {w : World} {a s l : Nat} {nm : ByteArray} {fo : Bool} {A : List Node_one} {st : List Int} {L : List Api_entry}
end
end Go.Proofs.YtoohapbaelmkcaaGreat
end
section
set_option linter.unusedVariables false
set_option linter.unusedSimpArgs false
set_option maxRecDepth 100000
namespace Go.Proofs.YtoohapbaelmkcaaGreat
open Go Go.Hb Go.RowKit
structure Rs where
  A : List Node_one
  st : List Int
  L : List Api_entry
  errs : Int
abbrev fF (x : Rs) (nm : ByteArray) : Int := lastE x.A x.L nm (bk x.L x.L.length)
def topN (st : List Int) (f : Int) : Int := if topI st = f then 0 else 1
inductive RndR (nm : ByteArray) (fo : Bool) : Rs → Bool → Bool → Rs → Prop
  | none (x : Rs) (h : fF x nm = -1) : RndR nm fo x true true x
  | lost (x : Rs) (f : Int) (hf : f = fF x nm) (h : f ≠ -1) (h1 : findI x.st f < 0) : RndR nm fo x true false ⟨x.A, x.st, (removeE x.L f).2, x.errs + 1⟩
  | out (x : Rs) (f : Int) (hf : f = fF x nm) (h : f ≠ -1) (h1 : ¬ findI x.st f < 0) (h2 : scopeL x.A (fun y => decide (y = f)) 0 x.st = false) : RndR nm fo x true false ⟨x.A, x.st, x.L, x.errs + 1⟩
  | plain (x : Rs) (f : Int) (hf : f = fF x nm) (h : f ≠ -1) (h1 : ¬ findI x.st f < 0) (h2 : scopeL x.A (fun y => decide (y = f)) 0 x.st = true) (h3 : furthF x.A x.st f = -1) : RndR nm fo x true false ⟨x.A, x.st.take (findI x.st f).toNat, (removeE x.L f).2, x.errs + topN x.st f⟩
  | go (x : Rs) (f b : Int) (hf : f = fF x nm) (h : f ≠ -1) (h1 : ¬ findI x.st f < 0) (h2 : scopeL x.A (fun y => decide (y = f)) 0 x.st = true) (hb : b = furthF x.A x.st f) (h3 : b ≠ -1) (A' : List Node_one) (st' : List Int) (L' : List Api_entry) (y : Ag) (q : Option Addr) (d : Nat) (Kz : Int → List Int)
      (g : SwD f b (max 0 (atI x.st (findI x.st f - 1))) fo ⟨x.A, x.st, x.L, findE x.L f, b, findI x.st b, 0⟩ A' st' L' y q d Kz) : RndR nm fo x false false ⟨A', st', L', x.errs + topN x.st f⟩
inductive RunD (nm : ByteArray) (fo : Bool) : Nat → Rs → Bool → Rs → Prop
  | out (x : Rs) : RunD nm fo 0 x false x
  | done (n : Nat) (x : Rs) (ot : Bool) (y : Rs) (h : RndR nm fo x true ot y) : RunD nm fo (n + 1) x ot y
  | more (n : Nat) (x z : Rs) (o ot : Bool) (y : Rs) (h : RndR nm fo x false o z) (g : RunD nm fo n z ot y) : RunD nm fo (n + 1) x ot y
def Short (x : Rs) (nm : ByteArray) : Prop := hasB x.A (topI x.st) = true ∧ (nd x.A (topI x.st)).Space = 0 ∧ (nd x.A (topI x.st)).Name = nm ∧ findE x.L (topI x.st) < 0
def RunR (nm : ByteArray) (fo : Bool) (x : Rs) (o : Bool) (y : Rs) : Prop := (Short x nm ∧ o = false ∧ y = ⟨x.A, x.st.take (x.st.length - 1), x.L, x.errs⟩) ∨ (¬ Short x nm ∧ RunD nm fo 8 x o y)
structure RsI (n0 ln : Nat) (x : Rs) : Prop where
  ai : AI x.A
  si : StkI x.A x.st
  li : LI x.A x.L
  len : x.A.length ≤ n0
  ll : x.L.length ≤ ln
section
variable {A : List Node_one} {st : List Int} {L : List Api_entry} {nm : ByteArray} {fo : Bool} {f b : Int} {n0 ln : Nat} {x y : Rs}
theorem lastE_mem : ∀ xs : List Nat, lastE A L nm xs ≠ -1 → ∃ i ∈ xs, (at_ L i).Node = lastE A L nm xs
  | [], h => absurd rfl h
  | i :: xs, h => by
    rw [lastE] at h ⊢
    split at h
    · next c => rw [if_pos c]; exact ⟨i, by simp, rfl⟩
    · next c =>
      rw [if_neg c]
      obtain ⟨j, hj, e⟩ := lastE_mem xs h
      exact ⟨j, by simp [hj], e⟩
theorem fF_find (h : lastE A L nm (bk L L.length) ≠ -1) : 0 ≤ findE L (lastE A L nm (bk L L.length)) := by
  obtain ⟨i, hi, e⟩ := lastE_mem _ h
  exact findE_mem.2 ⟨h, _, at_mem (bk_lt hi), e⟩
theorem furth_at (hn : st.Nodup) (hf : 0 ≤ findI st f) (h : furthF A st f ≠ -1) : ∃ i : Nat, findI st f < i ∧ i < st.length ∧ at_ st i = furthF A st f ∧ findI st (furthF A st f) = i := by
  unfold furthF at h ⊢
  cases hq : (st.drop (findI st f + 1).toNat).find? (specA A) with
  | none => rw [hq] at h; exact absurd rfl h
  | some b =>
    rw [hq] at h
    rw [Option.getD_some]
    have hm := List.mem_of_find?_eq_some hq
    obtain ⟨j, hj, e⟩ := mem_at hm
    have hj2 : (findI st f + 1).toNat + j < st.length := by simp at hj; omega
    have e2 : at_ st ((findI st f + 1).toNat + j) = b := by
      rw [← e]
      refine (at_eq ?_).symm
      rw [List.getElem?_drop, at_get hj2]
    exact ⟨(findI st f + 1).toNat + j, by omega, hj2, e2, findI_of hn hj2 e2⟩
theorem RsI.ag (h : RsI n0 ln x) (hf : f = fF x nm) (h1 : f ≠ -1) (h2 : ¬ findI x.st f < 0) (hb : b = furthF x.A x.st f) (h3 : b ≠ -1) : AgI f (findI x.st f).toNat n0 ln ⟨x.A, x.st, x.L, findE x.L f, b, findI x.st b, 0⟩ ∧ InA x.A b ∧ InA x.A (max 0 (atI x.st (findI x.st f - 1))) := by
  obtain ⟨i, hi1, hi2, hi3, hi4⟩ := furth_at (A := x.A) h.si.nodup (show 0 ≤ findI x.st f by omega) (by rw [← hb]; exact h3)
  rw [← hb] at hi3 hi4
  have hbA : InA x.A b := inA_iff.1 (elB_has (h.si.el _ (by rw [← hi3]; exact at_mem hi2)))
  have hfl : 0 ≤ findE x.L f := by rw [hf]; exact fF_find (by have h9 := h1; rw [hf] at h9; exact h9)
  have hfa := findE_at hfl
  have hlt := @findI_lt x.st f
  refine ⟨⟨h.ai, Nat.le_trans h.len (Nat.le_add_right _ _), h.si, h.li, by dsimp only; omega, ⟨by dsimp only; omega, by dsimp only; omega⟩, hfl, ⟨hfl, by dsimp only; omega⟩, h.ll, hbA⟩, hbA, ?_⟩
  rcases Int.lt_or_le (findI x.st f) 1 with h9 | h9
  · have : atI x.st (findI x.st f - 1) = -1 := by rw [atI, if_pos (by omega)]
    rw [this]; exact ⟨by decide, by have := h.ai.pos; omega⟩
  · have e : atI x.st (findI x.st f - 1) = at_ x.st (findI x.st f - 1).toNat := by rw [atI, if_neg (by omega)]
    have hA : InA x.A (at_ x.st (findI x.st f - 1).toNat) := inA_iff.1 (elB_has (h.si.el _ (at_mem (by omega))))
    rw [e, show max 0 (at_ x.st (findI x.st f - 1).toNat) = at_ x.st (findI x.st f - 1).toNat by have := hA.1; omega]
    exact hA
theorem SwD.keep {a0 : Nat} {block below : Int} {x : Ag} {A' : List Node_one} {st' : List Int} {L' : List Api_entry} {y : Ag} {q : Option Addr} {d : Nat} {Kz : Int → List Int} (g : SwD f block below fo x A' st' L' y q d Kz) (k : Ctx) (h : AgI f a0 n0 ln x) (hc : x.count = 0) (hn0 : n0 + 8 ≤ 32768) (hbl : InA x.A block) (hbe : InA x.A below) :
    AI A' ∧ StkI A' st' ∧ LI A' L' ∧ A'.length ≤ n0 + 8 ∧ L'.length ≤ ln ∧ ElOk (putF y.A (spotV y.A y.st below fo).1 y.last) (tkF y.L f).Name q d := by
  have hIy := g.inn.keep k (by omega) h
  have hkk := g.inn.keepK k (by omega) h
  have hA2 := hIy.ai.put (spotV y.A y.st below fo).1 y.last
  have hK2 := hIy.ai.keeps (spotV y.A y.st below fo).1 y.last
  have hl2 : (putF y.A (spotV y.A y.st below fo).1 y.last).length = y.A.length := putF_len
  have hfy := findE_at hIy.fl
  have hent := (hIy.li.ent _ (at_mem hfy.1)).resolve_left (by rw [hfy.2.1]; exact hfy.2.2)
  have hyA := hIy.len
  have hel : ElOk (putF y.A (spotV y.A y.st below fo).1 y.last) (tkF y.L f).Name q d := hA2.el (by omega) hent.2.2 q d
  obtain ⟨E, hE⟩ : ∃ E, E = swE y f below fo q d := ⟨_, rfl⟩
  have hg := hel
  obtain ⟨hE1, hE2, hE3, hE4, hE5, hE6, hE7, hE8⟩ := hg
  have hEe : elementL (putF y.A (spotV y.A y.st below fo).1 y.last) 0 (tkF y.L f).Name [] q d = E := by rw [hE]; rfl
  rw [hEe] at hE1 hE2 hE3 hE4 hE5 hE6 hE7 hE8
  have hAK := hE3.swK (Kz block)
  have hA5 := hAK.1.put ⟨block, -1⟩ E.1
  have hK5 := hAK.1.keeps ⟨block, -1⟩ E.1
  have hA' : A' = putF (swK E (Kz block)) ⟨block, -1⟩ E.1 := by rw [g.arena, swA, ← hE]
  rw [← hA'] at hA5 hK5
  have hKa : Keeps y.A A' := (hK2.trans hE8).trans (hAK.2.1.trans hK5)
  have hlen : A'.length ≤ n0 + 8 := by rw [hA', putF_len, hAK.2.2]; omega
  have htok := hIy.li.tok _ (at_mem hfy.1)
  have hfgl : (forgetF y.L y.mark f).1.length + 1 = y.L.length := by
    have := hIy.fl
    rw [forget_fst, removeE, if_neg (by omega)]
    simp only [cutE, List.length_append, List.length_take, List.length_drop]; omega
  refine ⟨hA5, ?_, ?_, hlen, ?_, hel⟩
  · rw [g.stack, swS]; exact ((hIy.si.keeps hKa).remove).put
  · rw [g.list, swL, ← hE]
    refine ((hIy.li.keeps hKa).forget).put k htok fun _ => ⟨?_, hent.2.2⟩
    have e := (hAK.2.1.trans hK5).el E.1 (by rw [hE1]; exact hE4)
    rw [e.2, hE1]; exact hE5
  · rw [g.list, swL]
    have := putE_len (A := A') (L := (forgetF y.L y.mark f).1) (e := ⟨(swE y f below fo q d).1, tkF y.L f⟩) (i := (forgetF y.L y.mark f).2)
    have := hIy.ll
    omega
theorem RndR.keep {dn ot : Bool} (g : RndR nm fo x dn ot y) (k : Ctx) (h : RsI n0 ln x) (hn0 : n0 + 8 ≤ 32768) : RsI (n0 + 8) ln y ∧ x.errs ≤ y.errs ∧ y.errs ≤ x.errs + 1 := by
  have h8 : RsI (n0 + 8) ln x := ⟨h.ai, h.si, h.li, Nat.le_trans h.len (Nat.le_add_right _ _), h.ll⟩
  have ht : ∀ f, 0 ≤ topN x.st f ∧ topN x.st f ≤ 1 := fun f => by unfold topN; split <;> decide
  cases g with
  | none h1 => exact ⟨h8, by omega, by omega⟩
  | lost f hf h1 h2 => exact ⟨⟨h.ai, h.si, h.li.sub removeE_sub, h8.len, Nat.le_trans removeE_sub.length_le h.ll⟩, by dsimp only; omega, by dsimp only; omega⟩
  | out f hf h1 h2 h3 => exact ⟨⟨h.ai, h.si, h.li, h8.len, h.ll⟩, by dsimp only; omega, by dsimp only; omega⟩
  | plain f hf h1 h2 h3 h4 => exact ⟨⟨h.ai, h.si.take _, h.li.sub removeE_sub, h8.len, Nat.le_trans removeE_sub.length_le h.ll⟩, by have := ht f; dsimp only; omega, by have := ht f; dsimp only; omega⟩
  | go f b hf h1 h2 h3 hb h4 A' st' L' y q d Kz g =>
    have ha := h.ag hf h1 h2 hb h4
    have := g.keep k ha.1 rfl hn0 ha.2.1 ha.2.2
    exact ⟨⟨this.1, this.2.1, this.2.2.1, this.2.2.2.1, this.2.2.2.2.1⟩, by have := ht f; dsimp only; omega, by have := ht f; dsimp only; omega⟩
theorem RunD.keep {n : Nat} {o : Bool} (g : RunD nm fo n x o y) (k : Ctx) (h : RsI n0 ln x) (hn0 : n0 + 8 * n ≤ 32768) : RsI (n0 + 8 * n) ln y ∧ x.errs ≤ y.errs ∧ y.errs ≤ x.errs + n := by
  induction g generalizing n0 with
  | out x => exact ⟨h, by omega, by omega⟩
  | done n x ot y g =>
    obtain ⟨h1, h2, h3⟩ := g.keep k h (by omega)
    exact ⟨⟨h1.ai, h1.si, h1.li, Nat.le_trans h1.len (by omega), h1.ll⟩, h2, by omega⟩
  | more n x z o ot y g g2 ih =>
    obtain ⟨h1, h2, h3⟩ := g.keep k h (by omega)
    obtain ⟨h4, h5, h6⟩ := ih h1 (by omega)
    exact ⟨⟨h4.ai, h4.si, h4.li, Nat.le_trans h4.len (by omega), h4.ll⟩, by omega, by omega⟩
theorem RunR.keep {o : Bool} (g : RunR nm fo x o y) (k : Ctx) (h : RsI n0 ln x) (hn0 : n0 + 64 ≤ 32768) : RsI (n0 + 64) ln y ∧ x.errs ≤ y.errs ∧ y.errs ≤ x.errs + 8 := by
  rcases g with ⟨_, rfl, rfl⟩ | ⟨_, g⟩
  · exact ⟨⟨h.ai, h.si.take _, h.li, Nat.le_trans h.len (by omega), h.ll⟩, Int.le_refl _, by dsimp only; omega⟩
  · exact g.keep k h hn0
end
section
variable {k : Ctx} {w : World} {g a s l : Nat} {nm : ByteArray} {fo : Bool} {errs mark : Int} {A : List Node_one} {st : List Int} {L : List Api_entry}
set_option maxHeartbeats 4000000 in
theorem round_spec {n0 ln : Nat} (h : RsI n0 ln ⟨A, st, L, errs⟩) (hn0 : n0 + 8 ≤ 32768) (hln : ln ≤ 2000000) (hmk : 0 ≤ mark ∧ mark ≤ 2000000) (her : 0 ≤ errs ∧ errs ≤ 1000) (hO : Own k w [agB g a s l nm fo errs mark, arenaL a A, stkL s a st, actL l a L]) :
    Tri Tryz.prog 38 #[.pointer (some ⟨g, 0, none⟩)] k w fun v m => ∃ dn ot y mk, RndR nm fo ⟨A, st, L, errs⟩ dn ot y ∧ v = .tuple #[.bool dn, .bool ot] ∧ (0 ≤ mk ∧ mk ≤ 2000000 ∨ dn = true) ∧ m = [agB g a s l nm fo y.errs mk, arenaL a y.A, stkL s a y.st, actL l a y.L] := by
  refine enter (args := [.pointer (some ⟨g, 0, none⟩)]) Tryz.func38 rfl rfl ?_
  have hn := h.ai.pos
  have ha := h.ai.attrs
  have hl : st.length ≤ 1000000 := Nat.le_trans h.si.len (Nat.le_trans h.len (by omega))
  have hL : L.length ≤ 2000000 := Nat.le_trans h.ll hln
  have hne : ∀ x ∈ st, x ≠ -1 := h.si.el.ne
  obtain ⟨f, hf⟩ : ∃ f, f = lastE A L nm (bk L L.length) := ⟨_, rfl⟩
  have hlt := @findI_lt st f
  have hlg := @findI_ge st f
  refine K0 (K1 ?_)
  refine l_y rfl rfl (y_assign rfl) ?_
  refine l_y rfl rfl (y_assign rfl) ?_
  refine K2 (K3 ?_)
  refine c_scopeJ (X := Unit) (fun u => [(0, .pointer (some ⟨g, 0, none⟩)), (2, .bool false), (3, .bool false), (4, .int .i64 f)]) (fun u w => Own k w [agB g a s l nm fo errs mark, arenaL a A, stkL s a st, actL l a L] ∧ (findI st f < 0) ∧ (f ≠ -1)) 0 rfl ?_ ?_
  · refine K0 ?_
    refine da_region (by intro c a d v w h; cases d <;> exact h) ?_
    have hO := hO.drew
    refine da_phase _ [8] (SO.ks [.b g] hO) ?_
    refine dx_u 0 (by kernel_rfl) rfl rfl rfl (fun w => y_move rfl) ?_
    refine dx_u 1 (by kernel_rfl) rfl rfl rfl (fun w => y_nilCheck rfl rfl) ?_
    refine dx_u 2 (by kernel_rfl) rfl rfl rfl (fun w => y_fldb (o' := 2) rfl) ?_
    refine dx_y 3 (by kernel_rfl) rfl rfl rfl (fun w ⟨m, hw⟩ => D5 hw rfl) ?_
    refine dx_u 4 (by kernel_rfl) rfl rfl rfl (fun w => y_move rfl) ?_
    refine dx_u 5 (by kernel_rfl) rfl rfl rfl (fun w => y_nilCheck rfl rfl) ?_
    refine dx_u 6 (by kernel_rfl) rfl rfl rfl (fun w => y_fldb (o' := 3) rfl) ?_
    refine dx_y 7 (by kernel_rfl) rfl rfl rfl (fun w ⟨m, hw⟩ => D5 hw rfl) ?_
    refine dx_close 8 (by kernel_rfl) rfl rfl ?_
    refine CK [.o a, .o l] hO rfl (fun k' hx hr hO' => aLast_spec (nm := nm) hn ha hL h.li.has (hO := hO')) ?_
    rintro _ _ w ⟨rfl, rfl⟩ hO
    simp only [List.cons_append, List.nil_append] at hO
    rw [← hf]
    refine o_done ?_
    refine da_phase _ [] (SO.ks [] hO) ?_
    refine dx_u 9 (by kernel_rfl) rfl rfl rfl (fun w => y_assign rfl) ?_
    refine dx_end (by kernel_rfl) ?_
    refine K3 (K0 (K0 (K1 ?_)))
    refine l_y rfl rfl (y_move rfl) ?_
    refine Z0 (fun h2_1 => ?_) (fun h2_1 => ?_)
    · refine K2 (K3 (L8 (K0 (K1 ?_))))
      refine l_y rfl rfl (y_assign rfl) ?_
      refine l_y rfl rfl (y_assign rfl) ?_
      refine K2 (K3 (K6 (K9 (J4 ?_))))
      exact fin2 rfl rfl rfl ⟨_, ⟨true, true, ⟨A, st, L, errs⟩, mark, .none _ (by rw [← h2_1, hf]), rfl, .inr rfl, rfl⟩, hO.ks [.b g, .o a, .o s, .o l]⟩
    · refine K2 (K3 (L9 (K5 (K3 (K0 (K1 ?_))))))
      refine l_y rfl rfl (y_move rfl) ?_
      refine l_y rfl rfl (y_nilCheck rfl rfl) ?_
      refine l_y rfl rfl (y_fldb (o' := 1) rfl) ?_
      refine l_y rfl rfl (D5 hO rfl) ?_
      refine l_y rfl rfl (y_move rfl) ?_
      refine CK [.o s] hO rfl (fun k' hx hr hO' => sFindC_spec (x := f) hl (hO := hO')) ?_
      rintro _ _ w ⟨rfl, rfl⟩ hO
      simp only [List.cons_append, List.nil_append] at hO
      refine l_y rfl rfl (y_assign rfl) ?_
      refine K2 (K3 (K0 (K1 ?_)))
      refine l_y rfl rfl (y_assign rfl) ?_
      refine K2 (K3 (K0 (K0 (K1 ?_))))
      refine l_y rfl rfl (y_move rfl) ?_
      refine Z0 (fun h6_1 => ?_) (fun h6_1 => ?_)
      · refine K2 (K3 (L8 (c_goto (GT1 ?_))))
        exact q_goto (()) ⟨rfl, rfl, rfl, rfl, trivial⟩ ⟨hO.only [.b g, .o a, .o s, .o l], (by omega), (by assumption)⟩
      · refine K2 (K3 (L9 (K5 (K3 (K0 (K0 (K1 ?_)))))))
        refine l_y rfl rfl (y_move rfl) ?_
        refine l_y rfl rfl (y_nilCheck rfl rfl) ?_
        refine l_y rfl rfl (y_fldb (o' := 1) rfl) ?_
        refine l_y rfl rfl (D5 hO rfl) ?_
        refine l_y rfl rfl (y_move rfl) ?_
        refine CK [.o a, .o s] hO rfl (fun k' hx hr hO' => sNodeScope_spec (id := f) (kind := 0) hn ha h.si.el hl (hO := hO')) ?_
        rintro _ _ w ⟨rfl, rfl⟩ hO
        simp only [List.cons_append, List.nil_append] at hO
        obtain ⟨sc, hsc⟩ : ∃ sc, sc = scopeL A (fun x => decide (x = f)) 0 st := ⟨_, rfl⟩
        rw [← hsc]
        refine l_y rfl rfl (y_not rfl rfl) ?_
        refine K2 (K3 ?_)
        refine c_split rfl (fun hc32 => ?_) (fun hc32 => ?_)
        · simp only [Bool.not_eq_true', Bool.not_eq_false'] at hc32
          refine K0 (K1 ?_)
          refine l_y rfl rfl (y_move rfl) ?_
          refine l_y rfl rfl (y_nilCheck rfl rfl) ?_
          refine l_y rfl rfl (y_fldb (o' := 5) rfl) ?_
          refine l_y rfl rfl (D5 hO rfl) ?_
          refine l_y rfl rfl (D4) ?_
          refine l_y rfl rfl (y_nilCheck rfl rfl) ?_
          refine l_y rfl rfl (y_fldb (o' := 5) rfl) ?_
          refine Y1 hO rfl rfl (fun w hO => ?_)
          simp only [List.set_cons_zero, List.set_cons_succ] at hO
          refine K2 (K3 (K0 (K1 ?_)))
          refine l_y rfl rfl (y_assign rfl) ?_
          refine l_y rfl rfl (y_assign rfl) ?_
          refine K2 (K3 (K6 (K9 (J4 ?_))))
          exact fin2 rfl rfl rfl ⟨_, ⟨true, false, ⟨A, st, L, errs + 1⟩, mark, .out _ f hf h2_1 h6_1 (by rw [← hsc]; simpa using hc32), rfl, .inr rfl, rfl⟩, hO.ks [.b g, .o a, .o s, .o l]⟩
        · simp only [Bool.not_eq_true', Bool.not_eq_false'] at hc32
          refine K5 (K3 ?_)
          refine c_cut (X := Int) (fun er => [(0, .pointer (some ⟨g, 0, none⟩)), (2, .bool false), (3, .bool false), (4, .int .i64 f), (5, .int .i64 (findI st f)), (6, .int .i64 (-1))]) (fun er w => Own k w [agB g a s l nm fo er mark, arenaL a A, stkL s a st, actL l a L] ∧ (er = errs + topN st f) ∧ (f ≠ -1) ∧ (¬ findI st f < 0) ∧ (scopeL A (fun x => decide (x = f)) 0 st = true)) ?_ ?_
          · refine K0 (K1 ?_)
            refine l_y rfl rfl (y_move rfl) ?_
            refine l_y rfl rfl (y_nilCheck rfl rfl) ?_
            refine l_y rfl rfl (y_fldb (o' := 1) rfl) ?_
            refine l_y rfl rfl (D5 hO rfl) ?_
            refine CK [.o s] hO rfl (fun k' hx hr hO' => sTopC_spec (x := 0) hl (hO := hO')) ?_
            rintro _ _ w ⟨rfl, rfl⟩ hO
            simp only [List.cons_append, List.nil_append] at hO
            refine l_y rfl rfl (y_move rfl) ?_
            refine Z1 (fun h10_6 => ?_) (fun h10_6 => ?_)
            · refine K2 (K3 (L8 (K1 ?_)))
              refine l_y rfl rfl (y_move rfl) ?_
              refine l_y rfl rfl (y_nilCheck rfl rfl) ?_
              refine l_y rfl rfl (y_fldb (o' := 5) rfl) ?_
              refine l_y rfl rfl (D5 hO rfl) ?_
              refine l_y rfl rfl (D4) ?_
              refine l_y rfl rfl (y_nilCheck rfl rfl) ?_
              refine l_y rfl rfl (y_fldb (o' := 5) rfl) ?_
              refine Y1 hO rfl rfl (fun w hO => ?_)
              simp only [List.set_cons_zero, List.set_cons_succ] at hO
              refine K2 ?_
              exact q_cut (_) ⟨rfl, rfl, rfl, rfl, rfl, rfl, trivial⟩ ⟨hO.only [.b g, .o a, .o s, .o l], (by unfold topN; first | (rw [if_pos (by omega)]; first | rfl | omega; done) | (rw [if_neg (by omega)]; done)), (by assumption), (by assumption), (by rw [← hsc]; simpa using hc32)⟩
            · refine K2 (K3 (L9 (K5 ?_)))
              exact q_cut (_) ⟨rfl, rfl, rfl, rfl, rfl, rfl, trivial⟩ ⟨hO.only [.b g, .o a, .o s, .o l], (by unfold topN; first | (rw [if_pos (by omega)]; first | rfl | omega; done) | (rw [if_neg (by omega)]; done)), (by assumption), (by assumption), (by rw [← hsc]; simpa using hc32)⟩
          · rintro er w ⟨hO, hee, hf9, hat, hsc9⟩
            refine K0 (K0 (K1 ?_))
            refine l_y rfl rfl (y_move rfl) ?_
            refine l_y rfl rfl (y_move rfl) ?_
            refine CK [.b g, .o a, .o s] hO rfl (fun k' hx hr hO' => furthest_spec (f := f) hn ha hl (hO := hO')) ?_
            rintro _ _ w ⟨rfl, rfl⟩ hO
            simp only [List.cons_append, List.nil_append] at hO
            obtain ⟨b, hb⟩ : ∃ b, b = furthF A st f := ⟨_, rfl⟩
            rw [← hb]
            have hO : Own k w [agB g a s l nm fo er mark, arenaL a A, stkL s a (st.take st.length), actL l a L] := by rw [List.take_length]; exact hO.ks [.b g, .o a, .o s, .o l]
            refine l_y rfl rfl (y_assign rfl) ?_
            refine K2 (K3 (K0 (K1 ?_)))
            refine l_y rfl rfl (y_move rfl) ?_
            refine Z0 (fun h13_1 => ?_) (fun h13_1 => ?_)
            · refine K2 (K3 (L8 (K0 (K4 ?_))))
              refine c_rounds (X := Nat) (fun n => [(0, .pointer (some ⟨g, 0, none⟩)), (2, .bool false), (3, .bool false), (4, .int .i64 f), (5, .int .i64 (findI st f))]) (fun n w => Own k w [agB g a s l nm fo er mark, arenaL a A, stkL s a (st.take n), actL l a L] ∧ (findI st f ≤ n ∧ n ≤ st.length)) (fun n => n) (st.length) ⟨rfl, rfl, rfl, rfl, rfl, trivial⟩ ⟨hO.only [.b g, .o a, .o s, .o l], ⟨by omega, Nat.le_refl _⟩⟩ ?_
              rintro n w m hm ⟨hO, hi⟩
              refine K0 (K0 (K1 ?_))
              refine l_y rfl rfl (y_move rfl) ?_
              refine l_y rfl rfl (y_nilCheck rfl rfl) ?_
              refine l_y rfl rfl (y_fldb (o' := 1) rfl) ?_
              refine l_y rfl rfl (D5 hO rfl) ?_
              have hln2 : (st.take n).length = n := by simp; omega
              refine CK [.o s] hO rfl (fun k' hx hr hO' => sLenC_spec (hO := hO')) ?_
              rintro _ _ w ⟨rfl, rfl⟩ hO
              simp only [List.cons_append, List.nil_append] at hO
              refine l_y rfl rfl (y_move rfl) ?_
              refine Z0 (fun h14_6 => ?_) (fun h14_6 => ?_)
              · refine K2 (K3 (L8 (K5 (K3 (K4 (K1 ?_))))))
                refine l_y rfl rfl (y_move rfl) ?_
                refine l_y rfl rfl (y_nilCheck rfl rfl) ?_
                refine l_y rfl rfl (y_fldb (o' := 1) rfl) ?_
                refine l_y rfl rfl (D5 hO rfl) ?_
                refine CK [.o s] hO rfl (fun k' hx hr hO' => sPop_spec (l := st.take n) (by omega) (fun x hx => hne x (List.mem_of_mem_take hx)) (hO := hO')) ?_
                rintro _ _ w ⟨rfl, rfl⟩ hO
                simp only [List.cons_append, List.nil_append] at hO
                rw [hln2, List.take_take, show min (n - 1) n = n - 1 by omega] at hO
                refine K2 (K8 ?_)
                exact q_next (n - 1) ⟨rfl, rfl, rfl, rfl, rfl, trivial⟩ ⟨hO.only [.b g, .o a, .o s, .o l], ⟨by omega, by omega⟩⟩ (by omega)
              · refine K2 (K3 (L9 (K7 (L1 (L1 (L2 (K3 (K0 (K1 ?_)))))))))
                refine l_y rfl rfl (y_move rfl) ?_
                refine l_y rfl rfl (y_move rfl) ?_
                refine CK [.b g, .o l] hO rfl (fun k' hx hr hO' => forget_spec (id := f) ⟨by omega, by omega⟩ hL (hO := hO')) ?_
                rintro _ _ w rfl hO
                simp only [List.cons_append, List.nil_append, forget_fst] at hO
                refine K2 (K3 (K0 (K1 ?_)))
                refine l_y rfl rfl (y_assign rfl) ?_
                refine l_y rfl rfl (y_assign rfl) ?_
                refine K2 (K3 (K6 (K9 (J4 ?_))))
                have hnn : n = (findI st f).toNat := by omega
                rw [hnn, hee] at hO
                exact fin2 rfl rfl rfl ⟨_, ⟨true, false, ⟨A, st.take (findI st f).toNat, (removeE L f).2, errs + topN st f⟩, _, .plain _ f hf hf9 hat hsc9 (by rw [← hb]; exact h13_1), rfl, .inr rfl, rfl⟩, hO.ks [.b g, .o a, .o s, .o l]⟩
            · refine K2 (K3 (L9 (K5 (K3 (K0 ?_)))))
              have hO : Own k w [agB g a s l nm fo er mark, arenaL a A, stkL s a st, actL l a L] := by rw [List.take_length] at hO; exact hO.ks [.b g, .o a, .o s, .o l]
              have hag := h.ag hf hf9 hat hb h13_1
              refine K1 ?_
              refine l_y rfl rfl (y_move rfl) ?_
              refine l_y rfl rfl (y_move rfl) ?_
              refine l_y rfl rfl (y_move rfl) ?_
              refine l_y rfl rfl (y_move rfl) ?_
              refine l_y rfl rfl (y_nilCheck rfl rfl) ?_
              refine l_y rfl rfl (y_fldb (o' := 1) rfl) ?_
              refine l_y rfl rfl (D5 hO rfl) ?_
              refine l_y rfl rfl (y_move rfl) ?_
              refine l_y rfl rfl (D4) ?_
              refine CK [.o s] hO rfl (fun k' hx hr hO' => sAtC_spec (x := findI st f - 1) hl (hO := hO')) ?_
              rintro _ _ w ⟨rfl, rfl⟩ hO
              simp only [List.cons_append, List.nil_append] at hO
              refine l_y rfl rfl (y_max rfl rfl) ?_
              refine CK [.b g, .o a, .o s, .o l] hO rfl (fun k' hx hr hO' => swap_spec (f := f) (block := b) hag.1 hn0 hln hag.2.2 hag.2.1 (hO := hO')) ?_
              rintro _ _ w ⟨A', st', L', y, q, d, Kz, mk, hsw, hmk9, rfl⟩ hO
              simp only [List.cons_append, List.nil_append] at hO
              refine K2 (K3 (K0 (K0 (K1 ?_))))
              refine l_y rfl rfl (y_assign rfl) ?_
              refine l_y rfl rfl (y_assign rfl) ?_
              refine K2 (K3 (K6 (K9 (J4 ?_))))
              rw [hee] at hO
              exact fin2 rfl rfl rfl ⟨_, ⟨false, false, ⟨A', st', L', errs + topN st f⟩, mk, .go _ f b hf hf9 hat hsc9 hb h13_1 A' st' L' y q d Kz hsw, rfl, .inl hmk9, rfl⟩, hO.ks [.b g, .o a, .o s, .o l]⟩
  · rintro u w ⟨hO, hlost, hf9⟩
    refine K0 (K5 (K3 (K0 (K1 ?_))))
    refine l_y rfl rfl (y_move rfl) ?_
    refine l_y rfl rfl (y_nilCheck rfl rfl) ?_
    refine l_y rfl rfl (y_fldb (o' := 5) rfl) ?_
    refine l_y rfl rfl (D5 hO rfl) ?_
    refine l_y rfl rfl (D4) ?_
    refine l_y rfl rfl (y_nilCheck rfl rfl) ?_
    refine l_y rfl rfl (y_fldb (o' := 5) rfl) ?_
    refine Y1 hO rfl rfl (fun w hO => ?_)
    simp only [List.set_cons_zero, List.set_cons_succ] at hO
    refine K2 (K3 (K0 (K1 ?_)))
    refine l_y rfl rfl (y_move rfl) ?_
    refine l_y rfl rfl (y_move rfl) ?_
    refine CK [.b g, .o l] hO rfl (fun k' hx hr hO' => forget_spec (id := f) ⟨by omega, by omega⟩ hL (hO := hO')) ?_
    rintro _ _ w rfl hO
    simp only [List.cons_append, List.nil_append, forget_fst] at hO
    refine K2 (K3 (K0 (K1 ?_)))
    refine l_y rfl rfl (y_assign rfl) ?_
    refine l_y rfl rfl (y_assign rfl) ?_
    refine K2 (K3 (K6 (L4 ?_)))
    exact fin2 rfl rfl rfl ⟨_, ⟨true, false, ⟨A, st, (removeE L f).2, errs + 1⟩, _, .lost _ f hf hf9 hlost, rfl, .inr rfl, rfl⟩, hO.ks [.b g, .o a, .o s, .o l]⟩
end
end Go.Proofs.YtoohapbaelmkcaaGreat
end
section
set_option linter.unusedVariables false
set_option linter.unusedSimpArgs false
set_option maxRecDepth 100000
namespace Go.Proofs.YtoohapbaelmkcaaGreat
open Go Go.Hb Go.RowKit Go.ChangeShapes Go.WideShapes Go.ChangeAt
section
variable {k : Ctx} {w : World} {g a s l : Nat} {nm : ByteArray} {fo : Bool} {errs mark : Int} {A : List Node_one} {st : List Int} {L : List Api_entry}
set_option maxHeartbeats 4000000 in
theorem run_spec {n0 ln : Nat} (h : RsI n0 ln ⟨A, st, L, 0⟩) (hn0 : n0 + 64 ≤ 32768) (hln : ln ≤ 2000000) (hO : Own k w [arenaL a A, stkL s a st, actL l a L]) :
    Tri Tryz.prog 8 #[.pointer (some ⟨a, 0, none⟩), .pointer (some ⟨s, 0, none⟩), .pointer (some ⟨l, 0, none⟩), .string nm, .bool fo] k w fun v m => ∃ o y, RunR nm fo ⟨A, st, L, 0⟩ o y ∧ v = .tuple #[.bool o, .int .i64 y.errs, .int .i64 0] ∧ m = [arenaL a y.A, stkL s a y.st, actL l a y.L] := by
  refine enter (args := [.pointer (some ⟨a, 0, none⟩), .pointer (some ⟨s, 0, none⟩), .pointer (some ⟨l, 0, none⟩), .string nm, .bool fo]) Tryz.func8 rfl rfl ?_
  have hn : 0 < A.length := h.ai.pos
  have ha : AttrsOk A := h.ai.attrs
  have hA : A.length ≤ n0 := h.len
  have hl : st.length ≤ 1000000 := Nat.le_trans h.si.len (Nat.le_trans h.len (by omega))
  have hL : L.length ≤ 2000000 := Nat.le_trans h.ll hln
  have hne : ∀ x ∈ st, x ≠ -1 := h.si.el.ne
  refine K0 (K1 ?_)
  refine l_y rfl rfl (y_assign rfl) ?_
  refine l_y rfl rfl (y_assign rfl) ?_
  refine l_y rfl rfl (y_assign rfl) ?_
  refine K2 (K3 (K0 (K4 (K0 (K1 ?_)))))
  refine l_y rfl rfl (y_move rfl) ?_
  refine CK [.o a] hO rfl (fun k' hx hr hO' => LenC_spec hn (hO := hO')) ?_
  rintro _ _ w ⟨rfl, rfl⟩ hO
  simp only [List.cons_append, List.nil_append] at hO
  refine N3 (hp := (by omega)) ?_
  refine l_y rfl rfl (y_move rfl) ?_
  refine l_y rfl rfl (y_move rfl) ?_
  refine CK [.o a, .o s] hO rfl (fun k' hx hr hO' => sPush_spec hn ha hl (hO := hO')) ?_
  rintro _ _ w ⟨rfl, rfl⟩ hO
  simp only [List.cons_append, List.nil_append, freshE_none] at hO
  rw [freshE_none]
  refine N3 ?_
  refine l_y rfl rfl (y_pick_f rfl rfl) ?_
  refine l_y rfl rfl (y_move rfl) ?_
  refine l_y rfl rfl (y_move rfl) ?_
  refine CK [.o l] hO rfl (fun k' hx hr hO' => aRemove_spec hL (hO := hO')) ?_
  rintro _ _ w ⟨rfl, rfl⟩ hO
  simp only [List.cons_append, List.nil_append, removeE_none] at hO
  rw [removeE_none]
  refine N3 ?_
  refine l_y rfl rfl (y_pick_f rfl rfl) ?_
  refine l_y rfl rfl (y_assign rfl) ?_
  refine K2 (K3 (L9 (K0 (K1 ?_))))
  refine l_y rfl rfl (y_move rfl) ?_
  refine CK [.o a] hO rfl (fun k' hx hr hO' => LenC_spec hn (hO := hO')) ?_
  rintro _ _ w ⟨rfl, rfl⟩ hO
  simp only [List.cons_append, List.nil_append] at hO
  refine N3 (hp := (by omega)) ?_
  refine l_y rfl rfl (y_assign rfl) ?_
  refine K2 (K3 (L9 (K5 (K8 (K3 (K0 (K1 ?_)))))))
  refine l_y rfl rfl (y_move rfl) ?_
  refine CK [.o s] hO rfl (fun k' hx hr hO' => sTopC_spec (x := 0) hl (hO := hO')) ?_
  rintro _ _ w ⟨rfl, rfl⟩ hO
  simp only [List.cons_append, List.nil_append] at hO
  refine l_y rfl rfl (y_assign rfl) ?_
  refine K2 (K3 ?_)
  refine c_cut (X := Unit) (fun u => [(0, .pointer (some ⟨a, 0, none⟩)), (1, .pointer (some ⟨s, 0, none⟩)), (2, .pointer (some ⟨l, 0, none⟩)), (3, .string nm), (4, .bool fo), (10, .bool false), (11, .int .i64 0), (12, .int .i64 0)]) (fun u w => Own k w [arenaL a A, stkL s a st, actL l a L] ∧ (¬ Short ⟨A, st, L, 0⟩ nm)) ?_ ?_
  · refine K0 (K1 ?_)
    refine l_y rfl rfl (y_move rfl) ?_
    refine l_y rfl rfl (y_move rfl) ?_
    refine CK [.o a] hO rfl (fun k' hx hr hO' => NodeD_spec (id := topI st) hn ha (hO := hO')) ?_
    rintro _ _ w ⟨n, hnv, rfl, rfl⟩ hO
    simp only [List.cons_append, List.nil_append] at hO
    refine l_y rfl rfl (y_move rfl) ?_
    refine l_y rfl rfl (y_extract rfl rfl) ?_
    refine l_y rfl rfl (y_extract rfl rfl) ?_
    refine s_alloc (vs := [.int .i64 0, .int .i64 0, .string ⟨#[]⟩, .slice none 0 0, .string ⟨#[]⟩, .string ⟨#[]⟩, .int .i64 0, .int .i64 0, .int .i64 0, .int .i64 0, .int .i64 0, .int .i64 0]) hO rfl rfl rfl fun b14 w hO => ?_
    refine Y3 hO rfl rfl (fun w hO => ?_)
    refine l_y rfl rfl (y_assign rfl) ?_
    refine K2 (K3 (K0 (K1 ?_)))
    refine l_y rfl rfl (y_move rfl) ?_
    refine Z0 (fun h7_1 => ?_) (fun h7_1 => ?_)
    · refine l_y rfl rfl (y_move rfl) ?_
      refine l_y rfl rfl (y_fldb (o' := 1) rfl) ?_
      refine l_y rfl rfl (D5 hO rfl) ?_
      refine Z0 (fun h7_5 => ?_) (fun h7_5 => ?_)
      · refine l_y rfl rfl (y_pick_t rfl rfl) ?_
        refine l_y rfl rfl (y_move rfl) ?_
        refine l_y rfl rfl (y_fldb (o' := 2) rfl) ?_
        refine l_y rfl rfl (D5 hO rfl) ?_
        refine l_y rfl rfl (y_move rfl) ?_
        refine Z2 (fun h7_11 => ?_) (fun h7_11 => ?_)
        · refine l_y rfl rfl (y_pick_t rfl rfl) ?_
          refine l_y rfl rfl (y_move rfl) ?_
          refine l_y rfl rfl (y_move rfl) ?_
          refine l_y rfl rfl (y_move rfl) ?_
          refine CK [.o l] hO rfl (fun k' hx hr hO' => aFind_spec hL (hO := hO')) ?_
          rintro _ _ w ⟨rfl, rfl⟩ hO
          simp only [List.cons_append, List.nil_append] at hO
          refine Z0 (fun h7_17 => ?_) (fun h7_17 => ?_)
          · refine l_y rfl rfl (y_pick_t rfl rfl) ?_
            refine K2 (K3 (L8 (K0 (K1 ?_))))
            refine l_y rfl rfl (y_move rfl) ?_
            refine CK [.o s] hO rfl (fun k' hx hr hO' => sPop_spec hl hne (hO := hO')) ?_
            rintro _ _ w ⟨rfl, rfl⟩ hO
            simp only [List.cons_append, List.nil_append] at hO
            refine K2 (K3 (K0 (K1 ?_)))
            refine l_y rfl rfl (y_assign rfl) ?_
            refine l_y rfl rfl (y_assign rfl) ?_
            refine l_y rfl rfl (y_assign rfl) ?_
            refine K2 (K3 (K6 (K9 ?_)))
            have hb9 : hasB A (topI st) = true := by
              cases h9 : hasB A (topI st) with
              | true => rfl
              | false => rw [errN, h9] at h7_1; exact absurd h7_1 (by decide)
            exact fin3 rfl rfl rfl rfl ⟨_, ⟨false, ⟨A, st.take (st.length - 1), L, 0⟩, .inl ⟨⟨hb9, (hnv.space hb9).symm.trans h7_5, (hnv.name hb9).symm.trans h7_11, by omega⟩, rfl, rfl⟩, rfl, rfl⟩, hO.only [.o a, .o s, .o l]⟩
          · refine l_y rfl rfl (y_pick_t rfl rfl) ?_
            refine K2 (K3 (L9 (K5 ?_)))
            have hsh9 : ¬ Short ⟨A, st, L, 0⟩ nm := by
              rintro ⟨h1, h2, h3, h4⟩
              dsimp only at h1 h2 h3 h4
              first
              | (rw [errN, if_pos h1] at h7_1; exact h7_1 rfl)
              | exact h7_5 ((hnv.space h1).trans h2)
              | exact h7_11 ((hnv.name h1).trans h3)
              | omega
            exact q_cut (()) ⟨rfl, rfl, rfl, rfl, rfl, rfl, rfl, rfl, trivial⟩ ⟨hO.only [.o a, .o s, .o l], hsh9⟩
        · refine l_y rfl rfl (y_pick_t rfl rfl) ?_
          refine l_y rfl rfl (y_move rfl) ?_
          repeat refine M2 ?_
          refine l_y rfl rfl (y_pick_f rfl rfl) ?_
          refine K2 (K3 (L9 (K5 ?_)))
          have hsh9 : ¬ Short ⟨A, st, L, 0⟩ nm := by
            rintro ⟨h1, h2, h3, h4⟩
            dsimp only at h1 h2 h3 h4
            first
            | (rw [errN, if_pos h1] at h7_1; exact h7_1 rfl)
            | exact h7_5 ((hnv.space h1).trans h2)
            | exact h7_11 ((hnv.name h1).trans h3)
            | omega
          exact q_cut (()) ⟨rfl, rfl, rfl, rfl, rfl, rfl, rfl, rfl, trivial⟩ ⟨hO.only [.o a, .o s, .o l], hsh9⟩
      · refine l_y rfl rfl (y_pick_t rfl rfl) ?_
        refine l_y rfl rfl (y_move rfl) ?_
        repeat refine M2 ?_
        refine l_y rfl rfl (y_pick_f rfl rfl) ?_
        refine l_y rfl rfl (y_move rfl) ?_
        repeat refine M2 ?_
        refine l_y rfl rfl (y_pick_f rfl rfl) ?_
        refine K2 (K3 (L9 (K5 ?_)))
        have hsh9 : ¬ Short ⟨A, st, L, 0⟩ nm := by
          rintro ⟨h1, h2, h3, h4⟩
          dsimp only at h1 h2 h3 h4
          first
          | (rw [errN, if_pos h1] at h7_1; exact h7_1 rfl)
          | exact h7_5 ((hnv.space h1).trans h2)
          | exact h7_11 ((hnv.name h1).trans h3)
          | omega
        exact q_cut (()) ⟨rfl, rfl, rfl, rfl, rfl, rfl, rfl, rfl, trivial⟩ ⟨hO.only [.o a, .o s, .o l], hsh9⟩
    · refine l_y rfl rfl (y_move rfl) ?_
      repeat refine M2 ?_
      refine l_y rfl rfl (y_pick_f rfl rfl) ?_
      refine l_y rfl rfl (y_move rfl) ?_
      repeat refine M2 ?_
      refine l_y rfl rfl (y_pick_f rfl rfl) ?_
      refine l_y rfl rfl (y_move rfl) ?_
      repeat refine M2 ?_
      refine l_y rfl rfl (y_pick_f rfl rfl) ?_
      refine K2 (K3 (L9 (K5 ?_)))
      have hsh9 : ¬ Short ⟨A, st, L, 0⟩ nm := by
        rintro ⟨h1, h2, h3, h4⟩
        dsimp only at h1 h2 h3 h4
        first
        | (rw [errN, if_pos h1] at h7_1; exact h7_1 rfl)
        | exact h7_5 ((hnv.space h1).trans h2)
        | exact h7_11 ((hnv.name h1).trans h3)
        | omega
      exact q_cut (()) ⟨rfl, rfl, rfl, rfl, rfl, rfl, rfl, rfl, trivial⟩ ⟨hO.only [.o a, .o s, .o l], hsh9⟩
  · rintro u w ⟨hO, hsh⟩
    refine K0 (K1 ?_)
    refine l_y rfl rfl (y_move rfl) ?_
    refine l_y rfl rfl (y_move rfl) ?_
    refine l_y rfl rfl (y_move rfl) ?_
    refine l_y rfl rfl (y_move rfl) ?_
    refine l_y rfl rfl (y_move rfl) ?_
    refine s_build (parts := [(0, .tmp 66), (1, .tmp 67), (2, .tmp 68), (3, .tmp 69), (4, .tmp 70)]) (cs := [.pointer (some ⟨a, 0, none⟩), .pointer (some ⟨s, 0, none⟩), .pointer (some ⟨l, 0, none⟩), .string nm, .bool fo, .int .i64 0, .int .i64 0]) rfl rfl (fun a ha => partsOf_sound ha _ _ rfl) (by kernel_rfl) ?_
    refine s_box (vs := [.pointer (some ⟨a, 0, none⟩), .pointer (some ⟨s, 0, none⟩), .pointer (some ⟨l, 0, none⟩), .string nm, .bool fo, .int .i64 0, .int .i64 0]) hO rfl rfl rfl (by rfl) fun b72 w hO => ?_
    refine l_y rfl rfl (y_assign rfl) ?_
    refine K2 (K3 (K0 (K0 (K1 ?_))))
    refine l_y rfl rfl (y_move rfl) ?_
    refine K2 (K3 (K4 ?_))
    refine c_rounds (X := Nat × Rs × Int) (fun x => [(10, .bool false), (11, .int .i64 0), (12, .int .i64 0), (16, .pointer (some ⟨b72, 0, none⟩)), (73, .int .i64 (x.1 : Int))]) (fun x w => Own k w [arenaL a x.2.1.A, stkL s a x.2.1.st, actL l a x.2.1.L, agB b72 a s l nm fo x.2.1.errs x.2.2] ∧ (x.1 ≤ 8) ∧ (RsI (n0 + 8 * x.1) ln x.2.1) ∧ (∀ o y, RunD nm fo (8 - x.1) x.2.1 o y → RunD nm fo 8 ⟨A, st, L, 0⟩ o y) ∧ (0 ≤ x.2.1.errs ∧ x.2.1.errs ≤ x.1) ∧ (0 ≤ x.2.2 ∧ x.2.2 ≤ 2000000)) (fun x => 8 - x.1) ((0, ⟨A, st, L, 0⟩, 0)) ⟨rfl, rfl, rfl, rfl, rfl, trivial⟩ ⟨hO.only [.o a, .o s, .o l, .b b72], Nat.zero_le _, h, (fun o y h => h), ⟨Int.le_refl _, Int.le_refl _⟩, ⟨by dsimp only; omega, by dsimp only; omega⟩⟩ ?_
    rintro x w m hm ⟨hO, hi, hR, hD, he, hmk⟩
    refine K0 (K1 ?_)
    refine Z0 (fun h12_0 => ?_) (fun h12_0 => ?_)
    · refine K2 (K3 (K0 (L8 (K5 (K3 (K0 (K4 (K0 (K1 ?_)))))))))
      refine l_y rfl rfl (y_move rfl) ?_
      refine CK [.b b72, .o a, .o s, .o l] hO rfl (fun k' hx hr hO' => round_spec (A := x.2.1.A) (st := x.2.1.st) (L := x.2.1.L) (errs := x.2.1.errs) hR (by omega) hln hmk ⟨by omega, by omega⟩ (hO := hO')) ?_
      rintro _ _ w ⟨dn, ot, y, mk9, hr9, rfl, hmk9, rfl⟩ hO
      simp only [List.cons_append, List.nil_append] at hO
      have hr9 : RndR nm fo x.2.1 dn ot y := hr9
      have hk9 := hr9.keep k hR (by omega)
      refine l_y rfl rfl (y_move rfl) ?_
      refine l_y rfl rfl (y_extract rfl rfl) ?_
      refine l_y rfl rfl (y_extract rfl rfl) ?_
      refine l_y rfl rfl (y_assign rfl) ?_
      refine l_y rfl rfl (y_assign rfl) ?_
      refine K2 (K3 (K0 (K1 ?_)))
      refine l_y rfl rfl (y_move rfl) ?_
      refine K2 (K3 ?_)
      refine c_split rfl (fun hc80 => ?_) (fun hc80 => ?_)
      · refine K0 ?_
        refine da_region (by intro c a d v w h; cases d <;> exact h) ?_
        have hO := hO.drew
        refine da_phase _ [] (SO.ks [.b b72] hO) ?_
        refine dx_u 0 (by kernel_rfl) rfl rfl rfl (fun w => y_move rfl) ?_
        refine dx_u 1 (by kernel_rfl) rfl rfl rfl (fun w => y_move rfl) ?_
        refine dx_u 2 (by kernel_rfl) rfl rfl rfl (fun w => y_nilCheck rfl rfl) ?_
        refine dx_u 3 (by kernel_rfl) rfl rfl rfl (fun w => y_fldb (o' := 5) rfl) ?_
        refine dx_y 4 (by kernel_rfl) rfl rfl rfl (fun w ⟨m, hw⟩ => D5 hw rfl) ?_
        refine dx_u 5 (by kernel_rfl) rfl rfl rfl (fun w => y_assign rfl) ?_
        refine dx_u 6 (by kernel_rfl) rfl rfl rfl (fun w => y_assign rfl) ?_
        refine dx_u 7 (by kernel_rfl) rfl rfl rfl (fun w => y_assign rfl) ?_
        refine dx_end (by kernel_rfl) ?_
        refine K3 (K6 (L0 (K9 (K9 (L0 (K9 ?_))))))
        have hdn : dn = true := by simpa using hc80
        rw [hdn] at hr9
        exact fin3 rfl rfl rfl rfl ⟨_, ⟨ot, y, .inr ⟨hsh, hD _ _ (by rw [show 8 - x.1 = (7 - x.1) + 1 by omega]; exact .done _ _ _ _ hr9)⟩, rfl, rfl⟩, hO.only [.o a, .o s, .o l]⟩
      · refine K5 (K8 (K3 (K1 ?_)))
        refine l_y rfl rfl (D4) ?_
        refine l_y rfl rfl (y_move rfl) ?_
        refine K2 ?_
        have hdn : dn = false := by simpa using hc80
        rw [hdn] at hr9 hmk9
        exact q_next ((x.1 + 1, y, mk9)) ⟨rfl, rfl, rfl, rfl, rfl, trivial⟩ ⟨hO.only [.o a, .o s, .o l, .b b72], (by dsimp only; omega), hk9.1, (fun o y h => hD _ _ (by rw [show 8 - x.1 = (8 - (x.1 + 1)) + 1 by omega]; exact .more _ _ _ _ _ _ hr9 h)), ⟨by have := hk9.2; dsimp only; omega, by have := hk9.2; dsimp only; omega⟩, (by rcases hmk9 with h9 | h9; exact h9; cases h9)⟩ (by dsimp only; omega)
    · refine K2 (K3 (K0 (L9 (K7 (L1 (L1 (L2 (K3 (K0 ?_)))))))))
      refine da_region (by intro c a d v w h; cases d <;> exact h) ?_
      have hO := hO.drew
      refine da_phase _ [] (SO.ks [.b b72] hO) ?_
      refine dx_u 0 (by kernel_rfl) rfl rfl rfl (fun w => y_move rfl) ?_
      refine dx_u 1 (by kernel_rfl) rfl rfl rfl (fun w => y_nilCheck rfl rfl) ?_
      refine dx_u 2 (by kernel_rfl) rfl rfl rfl (fun w => y_fldb (o' := 5) rfl) ?_
      refine dx_y 3 (by kernel_rfl) rfl rfl rfl (fun w ⟨m, hw⟩ => D5 hw rfl) ?_
      refine dx_u 4 (by kernel_rfl) rfl rfl rfl (fun w => y_assign rfl) ?_
      refine dx_u 5 (by kernel_rfl) rfl rfl rfl (fun w => y_assign rfl) ?_
      refine dx_u 6 (by kernel_rfl) rfl rfl rfl (fun w => y_assign rfl) ?_
      refine dx_end (by kernel_rfl) ?_
      refine K3 (K6 ?_)
      have h8 : x.1 = 8 := by omega
      exact fin3 rfl rfl rfl rfl ⟨_, ⟨false, x.2.1, .inr ⟨hsh, hD _ _ (by rw [h8]; exact .out _)⟩, rfl, rfl⟩, hO.only [.o a, .o s, .o l]⟩
end
theorem rd_Law15_act {H : Type} {enc : TypeId × Value → H} {W : World} : Reads enc Tryz.prog W 74 (QSt [QStr, QInt .i64, QBool, QBool, QBool]) := by
  have h : Tryz.prog.cellsOf 74 = 5 := by kernel_rfl
  letI : Und Tryz.prog 74 _ := ⟨Tryz.underlying74⟩
  refine r_st ?_
  rw [h]
  exact .cons (m := 1) rfl (by kernel_rfl) r_str (.cons (m := 1) rfl (by kernel_rfl) r_int (.cons (m := 1) rfl (by kernel_rfl) r_bool (.cons (m := 1) rfl (by kernel_rfl) r_bool (.cons (m := 1) rfl (by kernel_rfl) r_bool (.nil _)))))
theorem of_Law15_act {H : Type} {r : List Value} {d : DataW H} (h : QSt [QStr, QInt .i64, QBool, QBool, QBool] r d) : ∃ o : Law15_act, r = Law15_act.cells o ∧ True := by
  obtain ⟨ps, rfl, hq⟩ := h
  obtain ⟨c0, cs0, d0, ds0, rfl, rfl, g0, hq⟩ := hq.un
  obtain ⟨c1, cs1, d1, ds1, rfl, rfl, g1, hq⟩ := hq.un
  obtain ⟨c2, cs2, d2, ds2, rfl, rfl, g2, hq⟩ := hq.un
  obtain ⟨c3, cs3, d3, ds3, rfl, rfl, g3, hq⟩ := hq.un
  obtain ⟨c4, cs4, d4, ds4, rfl, rfl, g4, hq⟩ := hq.un
  obtain ⟨rfl, rfl⟩ := hq.un0
  obtain ⟨n0, rfl, rfl, _⟩ := g0
  obtain ⟨n1, rfl, rfl, _⟩ := g1
  obtain ⟨n2, rfl, rfl⟩ := g2
  obtain ⟨n3, rfl, rfl⟩ := g3
  obtain ⟨n4, rfl, rfl⟩ := g4
  exact ⟨⟨n0, n1, n2, n3, n4⟩, by simp [Law15_act.cells], trivial⟩
def tokT (nm : ByteArray) : Api_token := ⟨1, nm, ⟨#[]⟩, ⟨#[]⟩, 0, false, 0, false, none, [], 0⟩
def bldS (id : Int) (e : Law15_act) (A : List Node_one) (st : List Int) : List Int := if e.Open = true then (if freshE A st id = 0 then st ++ [id] else st) else st
def bldM (e : Law15_act) (L : List Api_entry) : List Api_entry := if e.Mark = true then L ++ [markE] else L
def bldL (id : Int) (e : Law15_act) (A : List Node_one) (L : List Api_entry) : List Api_entry := if e.Active = true then (if freshF A L id = 0 then pushE A L ⟨id, tokT e.Text⟩ else L) else L
inductive BldD : List Law15_act → List Node_one → List Int → List Api_entry → Prop
  | nil : BldD [] [docD] [] []
  | err (xs : List Law15_act) (A : List Node_one) (st : List Int) (L : List Api_entry) (e : Law15_act) (q : Option Addr) (d : Nat) (g : BldD xs A st L) (h : (elementL A 0 e.Text [] q d).2.1 ≠ 0) : BldD (xs ++ [e]) (elementL A 0 e.Text [] q d).2.2 st L
  | add (xs : List Law15_act) (A : List Node_one) (st : List Int) (L : List Api_entry) (e : Law15_act) (q : Option Addr) (d : Nat) (g : BldD xs A st L) (h : (elementL A 0 e.Text [] q d).2.1 = 0) (B : List Node_one) (hB : B = (linkL (elementL A 0 e.Text [] q d).2.2 e.Up (elementL A 0 e.Text [] q d).1 (-1)).2) :
    BldD (xs ++ [e]) B (bldS (elementL A 0 e.Text [] q d).1 e B st) (bldL (elementL A 0 e.Text [] q d).1 e B (bldM e L))
section
variable {A B : List Node_one} {K : Int → List Int} {nm : ByteArray} {q : Option Addr} {d : Nat} {st : List Int} {L : List Api_entry} {id : Int}
theorem el_size (h : (elementL A 0 nm [] q d).2.1 = 0) : nm.size ≤ 1048576 := by
  rcases Nat.lt_or_ge 1048576 nm.size with hc | hc
  · exfalso
    have hb : longB (nm :: attrTexts []) = true := by simp [longB, attrTexts]; omega
    unfold elementL at h
    rw [if_neg (by omega), if_neg (by simp)] at h
    simp only [hb, if_true] at h
    split at h <;> simp at h
  · exact hc
theorem keeps_el : Keeps A (elementL A 0 nm [] q d).2.2 := ⟨el_lenge, fun x hx => ⟨elB_el hx, by have hb := hasB_true (elB_has hx); rw [nodeA, el_old (by omega)]⟩⟩
theorem keeps_link (t : Tree A K) (up id before : Int) : Keeps A (linkL A up id before).2 := ⟨by rw [linkL_len]; exact Nat.le_refl _, fun x hx => by
  have hb := hasB_true (elB_has hx)
  exact ⟨by rw [elB_core linkL_len (fun y hy => linkL_core t hy)]; exact hx, core_name (linkL_core t (by omega))⟩⟩
theorem AI.link (h : AI A) (up id before : Int) : AI (linkL A up id before).2 := by
  obtain ⟨K, t⟩ := h.tree
  exact ⟨⟨_, t.linkS _ _ _⟩, by rw [linkL_len]; exact h.pos, h.wi.core linkL_len fun y hy => linkL_core t hy⟩
theorem AI.el0 (h : AI A) (nm : ByteArray) (q : Option Addr) (d : Nat) : AI (elementL A 0 nm [] q d).2.2 := by
  obtain ⟨K, t⟩ := h.tree
  exact ⟨t.el nm q d, by have := el_lenge (A := A) (sp := 0) (nm := nm) (q := q) (d := d); have := h.pos; omega, h.wi.el⟩
theorem LI.mark (h : LI A L) : LI A (L ++ [markE]) := by
  refine ⟨List.pairwise_append.2 ⟨h.pw, List.pairwise_singleton _ _, fun x _ y hy _ => by rw [List.mem_singleton.1 hy]; rfl⟩, fun y hy => ?_, fun y hy => ?_⟩
  · rcases List.mem_append.1 hy with hy | hy
    · exact h.ent y hy
    · rw [List.mem_singleton.1 hy]; exact .inl rfl
  · rcases List.mem_append.1 hy with hy | hy
    · exact h.tok y hy
    · rw [List.mem_singleton.1 hy]; exact ⟨rfl, rfl, rfl⟩
theorem LI.push (h : LI A L) (k : Ctx) {e : Api_entry} (h0 : freshF A L e.Node = 0) (ht : e.Token.Attrs = [] ∧ e.Token.AttrsP = none ∧ e.Token.AttrsC = 0) (hn : (nodeA A e.Node).Name = e.Token.Name ∧ e.Token.Name.size ≤ 1048576) : LI A (pushE A L e) ∧ (pushE A L e).length ≤ L.length + 1 := by
  have hp := (h.pl k).push h0 (eok_of k ht)
  have c3 := fresh_ne h0
  have hs : (if 3 ≤ (pk A L e (bk L L.length)).1 then cutE L (pk A L e (bk L L.length)).2 else L).Sublist L := by split; exact cutE_sub; exact List.Sublist.refl _
  refine ⟨⟨hp.1.pw, ?_, ?_⟩, hp.2⟩ <;> intro y hy <;> rw [pushE] at hy <;> rcases List.mem_append.1 hy with hy | hy
  · exact h.ent y (hs.subset hy)
  · rw [List.mem_singleton.1 hy]; exact .inr ⟨c3.1, hn⟩
  · exact h.tok y (hs.subset hy)
  · rw [List.mem_singleton.1 hy]; exact ht
theorem StkI.bld {e : Law15_act} (h : StkI A st) : StkI A (bldS id e A st) := by
  unfold bldS
  split
  · exact h.push
  · exact h
theorem LI.bldM {e : Law15_act} (h : LI A L) : LI A (bldM e L) ∧ (bldM e L).length ≤ L.length + 1 := by
  unfold Proofs.YtoohapbaelmkcaaGreat.bldM
  split
  · exact ⟨h.mark, by simp⟩
  · exact ⟨h, Nat.le_succ _⟩
theorem LI.bldL {e : Law15_act} (h : LI A L) (k : Ctx) (hn : (nodeA A id).Name = e.Text ∧ e.Text.size ≤ 1048576) : LI A (bldL id e A L) ∧ (bldL id e A L).length ≤ L.length + 1 := by
  unfold Proofs.YtoohapbaelmkcaaGreat.bldL
  split
  · split
    · next h0 => exact h.push k h0 ⟨rfl, rfl, rfl⟩ hn
    · exact ⟨h, Nat.le_succ _⟩
  · exact ⟨h, Nat.le_succ _⟩
theorem BldD.inv {xs : List Law15_act} (g : BldD xs A st L) (k : Ctx) (hl : xs.length ≤ 1000) : RsI (1 + 2 * xs.length) (2 * xs.length) ⟨A, st, L, 0⟩ := by
  induction g with
  | nil => exact ⟨AI.new, StkI.nil, LI.nil, Nat.le_refl _, Nat.le_refl _⟩
  | err xs A st L e q d g h ih =>
    simp only [List.length_append, List.length_cons, List.length_nil] at hl ⊢
    have i := ih (by omega)
    have h1 := el_len (A := A) (sp := 0) (nm := e.Text) (q := q) (d := d)
    have h2 := i.len
    have h3 := i.ll
    dsimp only at h2 h3
    exact ⟨i.ai.el0 _ _ _, i.si.keeps keeps_el, i.li.keeps keeps_el, by dsimp only; omega, by dsimp only; omega⟩
  | add xs A st L e q d g h B hB ih =>
    simp only [List.length_append, List.length_cons, List.length_nil] at hl ⊢
    have i := ih (by omega)
    have h2 := i.len
    have h3 := i.ll
    dsimp only at h2 h3
    have hsz := el_size h
    have ho := i.ai.el (by dsimp only; omega) hsz q d
    have hk1 : Keeps A B := by rw [hB]; obtain ⟨K, t⟩ := ho.ai.tree; exact ho.keeps.trans (keeps_link t _ _ _)
    have hk2 : Keeps (elementL A 0 e.Text [] q d).2.2 B := by rw [hB]; obtain ⟨K, t⟩ := ho.ai.tree; exact keeps_link t _ _ _
    have hnm : (nodeA B (elementL A 0 e.Text [] q d).1).Name = e.Text := by
      have e1 := ho.id
      dsimp only at e1
      rw [e1]
      exact (hk2.el _ ho.el).2.trans ho.name
    have h4 := (i.li.keeps hk1).bldM (e := e)
    have h5 := h4.1.bldL k (id := (elementL A 0 e.Text [] q d).1) (e := e) ⟨hnm, hsz⟩
    have h6 : B.length ≤ A.length + 2 := by rw [hB, linkL_len]; exact ho.le
    refine ⟨by dsimp only; rw [hB]; exact ho.ai.link _ _ _, (i.si.keeps hk1).bld, h5.1, by dsimp only; omega, ?_⟩
    dsimp only
    have h7 : (Proofs.YtoohapbaelmkcaaGreat.bldM e L).length ≤ L.length + 1 := h4.2
    have h8 : (Proofs.YtoohapbaelmkcaaGreat.bldL (elementL A 0 e.Text [] q d).1 e B (Proofs.YtoohapbaelmkcaaGreat.bldM e L)).length ≤ (Proofs.YtoohapbaelmkcaaGreat.bldM e L).length + 1 := h5.2
    omega
end
end Go.Proofs.YtoohapbaelmkcaaGreat
end
section
set_option linter.unusedVariables false
set_option linter.unusedSimpArgs false
set_option maxRecDepth 100000
namespace Go.Proofs.YtoohapbaelmkcaaGreat
open Go Go.Hb Go.RowKit
/-- two results that lie in memory -/
theorem fincc {P : Program} {n : Nat} {E : Env} {w : World} {fn : Func} {T : Value → World → Prop} {t u : Nat} {ty tz : TypeId} {m q : Nat} [hl : Lay P ty true m] [hl2 : Lay P tz true q] {a b : Addr} {cs es : List Value} (hrs : fn.results = #[.cell t ty, .cell u tz]) (hv : Hb.look E t = some (.pointer (some a))) (hx : Hb.look E u = some (.pointer (some b))) (hm : cs.length = m) (hn : es.length = q) (hh : Holds w a cs) (hk : Holds w b es) (hT : T (.tuple #[.agg cs.toArray, .agg es.toArray]) w) :
    QW (bodyPost P fn fun e w' => ∃ v, e = .returned v ∧ T v w') n [] .ret E w := fun c hc =>
  ⟨hc.defers, _, by
    subst hm hn
    have h0 := hc.at_ t _ hv
    have h2 := hc.at_ u _ hx
    simp only [Array.getD_eq_getD_getElem?] at h0 h2
    have h1 := run_loadCells_list (P := P) w a cs hh
    have h3 := run_loadCells_list (P := P) w b es hk
    simp [results, hrs, h0, h2, asAddr, loadVar, hl.isAgg, hl.size, hl2.isAgg, hl2.size, h1, h3], _, rfl, hT⟩
section
variable {k : Ctx} {w : World}
section
variable {nm : ByteArray} {fo : Bool} {p q : Option Addr}
end
end
end Go.Proofs.YtoohapbaelmkcaaGreat
end
section
set_option linter.unusedVariables false
set_option linter.unusedSimpArgs false
set_option maxRecDepth 100000
namespace Go.Proofs.YtoohapbaelmkcaaGreat
open Go Go.Hb Go.RowKit
structure W15 where
  i : Nat
  A : List Node_one
  K : Int → List Int
  R : List Ref01_one
  st : List Int
  L : List Api_entry
abbrev wld (b a s l : Nat) : HP := blk b 26 [.pointer (some ⟨a, 0, none⟩), .pointer (some ⟨s, 0, none⟩), .pointer (some ⟨l, 0, none⟩)]
abbrev mir (b r z y : Nat) : HP := blk b 31 [.pointer (some ⟨r, 0, none⟩), .pointer (some ⟨z, 0, none⟩), .pointer (some ⟨y, 0, none⟩)]
theorem BldD.add' {xs : List Law15_act} {A B : List Node_one} {st s9 : List Int} {L L8 : List Api_entry} {e : Law15_act} {q : Option Addr} {d : Nat} {EL : Int × Int × List Node_one} (g : BldD xs A st L) (hE : EL = elementL A 0 e.Text [] q d) (h : EL.2.1 = 0) (hB : B = (linkL EL.2.2 e.Up EL.1 (-1)).2) (hs : s9 = bldS EL.1 e B st) (hL : L8 = bldL EL.1 e B (bldM e L)) : BldD (xs ++ [e]) B s9 L8 := by
  rw [hE] at h hB hs hL
  rw [hs, hL]
  exact .add _ _ _ _ _ _ _ g h _ hB
theorem BldD.err' {xs : List Law15_act} {A : List Node_one} {st : List Int} {L : List Api_entry} {e : Law15_act} {q : Option Addr} {d : Nat} {EL : Int × Int × List Node_one} (g : BldD xs A st L) (hE : EL = elementL A 0 e.Text [] q d) (h : ¬ EL.2.1 = 0) : BldD (xs ++ [e]) EL.2.2 st L := by
  rw [hE] at h ⊢
  exact .err _ _ _ _ _ _ _ g h
section
variable {k : Ctx} {w : World}
set_option maxHeartbeats 4000000 in
theorem build_spec {lp : Option Addr} {lc : Nat} {acts : List Law15_act} (hs : Sli (Ro k) (.slice lp acts.length lc) (acts.map Law15_act.cells)) (hO : Own k w []) :
    Tri Tryz.prog 7 #[.slice lp acts.length lc] k w fun v m => ∃ a s l r z y A K R st L, v = .tuple #[.agg [.pointer (some ⟨a, 0, none⟩), .pointer (some ⟨s, 0, none⟩), .pointer (some ⟨l, 0, none⟩)].toArray, .agg [.pointer (some ⟨r, 0, none⟩), .pointer (some ⟨z, 0, none⟩), .pointer (some ⟨y, 0, none⟩)].toArray] ∧ m = [arenaL a A, stkL s a st, actL l a L, rarL r R, rstkL z r st, ralL y r L] ∧ Two A K R ∧ BldD (acts.take 100) A st L := by
  refine enter (args := [.slice lp acts.length lc]) Tryz.func7 rfl rfl ?_
  have hgs := sli_gs hs
  refine K0 (K1 ?_)
  refine s_alloc (vs := [.pointer none, .pointer none, .pointer none]) hO rfl rfl rfl fun b2 w hO => ?_
  refine s_alloc (vs := [.pointer none, .pointer none, .pointer none]) hO rfl rfl rfl fun b3 w hO => ?_
  refine K2 (K3 (K0 (K1 ?_)))
  refine CK [] hO rfl (fun k' hx hr hO' => New_spec (hO := hO')) ?_
  rintro _ _ w ⟨a11, rfl, rfl⟩ hO
  simp only [List.cons_append, List.nil_append] at hO
  refine s_build (parts := [(0, .tmp 11)]) (cs := [.pointer (some ⟨a11, 0, none⟩), .pointer none, .pointer none]) rfl rfl (fun a ha => partsOf_sound ha _ _ rfl) (by kernel_rfl) ?_
  refine s_alloc (vs := [.pointer none, .pointer none, .pointer none]) hO rfl rfl rfl fun b4 w hO => ?_
  refine Y3 hO rfl rfl (fun w hO => ?_)
  refine K2 (K3 (K0 (K1 ?_)))
  refine l_y rfl rfl (y_fldb (o' := 0) rfl) ?_
  refine l_y rfl rfl (D5 hO rfl) ?_
  refine CK [.o a11] hO rfl (fun k' hx hr hO' => sNew_spec (A := [docD]) (by decide) (hO := hO')) ?_
  rintro _ _ w ⟨s, rfl, rfl⟩ hO
  simp only [List.cons_append, List.nil_append] at hO
  refine l_y rfl rfl (y_move rfl) ?_
  refine l_y rfl rfl (y_extract rfl rfl) ?_
  refine l_y rfl rfl (y_extract rfl rfl) ?_
  refine l_y rfl rfl (y_fldb (o' := 1) rfl) ?_
  refine Y1 hO rfl rfl (fun w hO => ?_)
  simp only [List.set_cons_zero, List.set_cons_succ] at hO
  refine K2 (K3 (K0 (K1 ?_)))
  refine l_y rfl rfl (y_fldb (o' := 0) rfl) ?_
  refine l_y rfl rfl (D5 hO rfl) ?_
  refine CK [.o a11] hO rfl (fun k' hx hr hO' => aNew_spec (A := [docD]) (by decide) (hO := hO')) ?_
  rintro _ _ w ⟨l, rfl, rfl⟩ hO
  simp only [List.cons_append, List.nil_append] at hO
  refine l_y rfl rfl (y_move rfl) ?_
  refine l_y rfl rfl (y_extract rfl rfl) ?_
  refine l_y rfl rfl (y_extract rfl rfl) ?_
  refine l_y rfl rfl (y_fldb (o' := 2) rfl) ?_
  refine Y1 hO rfl rfl (fun w hO => ?_)
  simp only [List.set_cons_zero, List.set_cons_succ] at hO
  refine K2 (K3 (K0 (K1 ?_)))
  refine CK [] hO rfl (fun k' hx hr hO' => rNew_spec (hO := hO')) ?_
  rintro _ _ w ⟨r27, rfl, rfl⟩ hO
  simp only [List.cons_append, List.nil_append] at hO
  refine l_y rfl rfl (y_assign rfl) ?_
  refine K2 (K3 (K0 (K1 ?_)))
  refine l_y rfl rfl (y_move rfl) ?_
  refine l_y rfl rfl (y_move rfl) ?_
  refine CK [.o r27] hO rfl (fun k' hx hr hO' => tNew_spec (hO := hO')) ?_
  rintro _ _ w ⟨z30, rfl, rfl⟩ hO
  simp only [List.cons_append, List.nil_append] at hO
  refine l_y rfl rfl (y_move rfl) ?_
  refine CK [] hO rfl (fun k' hx hr hO' => zNew_spec (p := none) (hO := hO')) ?_
  rintro _ _ w ⟨y32, rfl, rfl⟩ hO
  simp only [List.cons_append, List.nil_append] at hO
  refine s_build (parts := [(0, .tmp 28), (1, .tmp 30), (2, .tmp 32)]) (cs := [.pointer (some ⟨r27, 0, none⟩), .pointer (some ⟨z30, 0, none⟩), .pointer (some ⟨y32, 0, none⟩)]) rfl rfl (fun a ha => partsOf_sound ha _ _ rfl) (by kernel_rfl) ?_
  refine s_alloc (vs := [.pointer none, .pointer none, .pointer none]) hO rfl rfl rfl fun b6 w hO => ?_
  refine Y3 hO rfl rfl (fun w hO => ?_)
  refine K2 (K3 (K0 (K0 (K1 ?_))))
  refine l_y rfl rfl (y_assign rfl) ?_
  refine K2 (K3 (K4 ?_))
  refine c_rounds (X := W15) (fun x => [(0, .slice lp acts.length lc), (2, .pointer (some ⟨b2, 0, none⟩)), (3, .pointer (some ⟨b3, 0, none⟩)), (4, .pointer (some ⟨b4, 0, none⟩)), (5, .pointer (some ⟨r27, 0, none⟩)), (6, .pointer (some ⟨b6, 0, none⟩)), (7, .int .i64 (x.i : Int))]) (fun x w => Own k w [arenaL a11 x.A, stkL s a11 x.st, actL l a11 x.L, rarL r27 x.R, rstkL z30 r27 x.st, ralL y32 r27 x.L, blk b2 26 [.pointer none, .pointer none, .pointer none], blk b3 31 [.pointer none, .pointer none, .pointer none], wld b4 a11 s l, mir b6 r27 z30 y32] ∧ (x.i ≤ acts.length ∧ x.i ≤ 100) ∧ (Two x.A x.K x.R) ∧ (BldD (acts.take x.i) x.A x.st x.L)) (fun x => acts.length - x.i) (⟨0, [docD], fun _ => [], [docR], [], []⟩) ⟨rfl, rfl, rfl, rfl, rfl, rfl, rfl, trivial⟩ ⟨hO.only [.o a11, .o s, .o l, .o r27, .o z30, .o y32, .b b2, .b b3, .b b4, .b b6], ⟨Nat.zero_le _, Nat.zero_le _⟩, Two.new, .nil⟩ ?_
  rintro x w m hm ⟨hO, hi, t, hB⟩
  refine K0 (K0 (K1 ?_))
  refine l_y rfl rfl (y_move rfl) ?_
  refine l_y rfl rfl (y_move rfl) ?_
  refine l_y rfl rfl (y_lenL rfl) ?_
  refine Z0 (fun h7_3 => ?_) (fun h7_3 => ?_)
  · refine l_y rfl rfl (y_move rfl) ?_
    refine l_y rfl rfl (y_move rfl) ?_
    refine Z0 (fun h7_6 => ?_) (fun h7_6 => ?_)
    · refine l_y rfl rfl (y_pick_t rfl rfl) ?_
      refine l_y rfl rfl (y_move rfl) ?_
      refine l_y rfl rfl (y_fldb (o' := 0) rfl) ?_
      refine l_y rfl rfl (D5 hO rfl) ?_
      refine l_y rfl rfl (y_nePnil rfl rfl rfl) ?_
      refine l_y rfl rfl (y_pick_t rfl rfl) ?_
      refine K2 (K3 (L8 (K5 (K3 (K0 (K4 (K0 ?_)))))))
      have hta : acts.take (x.i + 1) = acts.take x.i ++ [at_ acts x.i] := take_succ_at (by omega)
      have hbi := hB.inv k (by simp; omega)
      have hxs : x.st.length ≤ 1000000 := Nat.le_trans hbi.si.len (Nat.le_trans hbi.len (by simp; omega))
      have hxL : x.L.length ≤ 1000 := Nat.le_trans hbi.ll (by simp; omega)
      have hxA : x.A.length ≤ 1000 := Nat.le_trans hbi.len (by simp; omega)
      have hnx : ((x.i : Int)).toNat = x.i := rfl
      obtain ⟨e, he⟩ : ∃ e, e = at_ acts x.i := ⟨_, rfl⟩
      refine da_region (by intro c a d v w h; cases d <;> exact h) ?_
      have hO := hO.drew
      refine da_phase _ [7] (SO.ks [.b b4] hO) ?_
      refine dx_u 0 (by kernel_rfl) rfl rfl rfl (fun w => y_fldb (o' := 0) rfl) ?_
      refine dx_y 1 (by kernel_rfl) rfl rfl rfl (fun w ⟨m, hw⟩ => D5 hw rfl) ?_
      refine dx_u 2 (by kernel_rfl) rfl rfl rfl (fun w => y_move rfl) ?_
      refine dx_u 3 (by kernel_rfl) rfl rfl rfl (fun w => y_move rfl) ?_
      refine dx_u 4 (by kernel_rfl) rfl rfl rfl (fun w => y_idx rfl rfl) ?_
      refine dx_u 5 (by kernel_rfl) rfl rfl rfl (fun w => y_fld (j' := 0) rfl) ?_
      refine dx_y 6 (by kernel_rfl) rfl rfl rfl (fun w ⟨m, hw⟩ => y_r1 (x0 := 0) (enc := Law15_act.cells) (xs := acts) hw rfl) ?_
      refine dx_close 7 (by kernel_rfl) rfl rfl ?_
      rw [hnx, ← he]
      refine CK [.o a11] hO rfl (fun k' hx hr hO' => Element_spec (xs := []) t.pos t.max (Sli.nil rfl) (hO := hO')) ?_
      rintro _ _ w ⟨q1, d1, rfl, rfl⟩ hO
      simp only [List.cons_append, List.nil_append] at hO
      obtain ⟨EL, hEL⟩ : ∃ EL, EL = elementL x.A 0 e.Text [] q1 d1 := ⟨_, rfl⟩
      rw [← hEL] at hO ⊢
      refine o_done ?_
      refine da_phase _ [] (SO.ks [] hO) ?_
      refine dx_u 8 (by kernel_rfl) rfl rfl rfl (fun w => y_move rfl) ?_
      refine dx_u 9 (by kernel_rfl) rfl rfl rfl (fun w => y_extract rfl rfl) ?_
      refine dx_u 10 (by kernel_rfl) rfl rfl rfl (fun w => y_extract rfl rfl) ?_
      refine dx_u 11 (by kernel_rfl) rfl rfl rfl (fun w => y_assign rfl) ?_
      refine dx_u 12 (by kernel_rfl) rfl rfl rfl (fun w => y_assign rfl) ?_
      refine dx_end (by kernel_rfl) ?_
      refine K3 (K0 (K1 ?_))
      refine l_y rfl rfl (y_move rfl) ?_
      refine l_y rfl rfl (y_move rfl) ?_
      refine l_y rfl rfl (y_move rfl) ?_
      refine l_y rfl rfl (y_idx rfl rfl) ?_
      refine l_y rfl rfl (y_fld (j' := 0) rfl) ?_
      refine l_y rfl rfl (y_r1 (x0 := 0) (enc := Law15_act.cells) (xs := acts) hO rfl) ?_
      rw [hnx, ← he]
      refine CK [.o r27] hO rfl (fun k' hx hr hO' => rElement_spec (xs := []) t.rmax (Sli.nil rfl) (hO := hO')) ?_
      rintro _ _ w ⟨q2, d2, rfl, rfl⟩ hO
      simp only [List.cons_append, List.nil_append] at hO
      obtain ⟨e1, e2, Kz, t9⟩ := el_both t 0 e.Text [] q1 q2 d1 d2
      rw [← hEL] at t9
      clear e1 e2
      refine K2 (K3 (K0 (K0 (K1 ?_))))
      refine l_y rfl rfl (y_move rfl) ?_
      refine Z1 (fun h11_1 => ?_) (fun h11_1 => ?_)
      · refine K2 (K3 (L8 (K7 (L1 (L2 (K3 (K1 ?_)))))))
        refine l_y rfl rfl (y_move rfl) ?_
        refine l_y rfl rfl (D4) ?_
        refine l_y rfl rfl (y_assign rfl) ?_
        refine K2 ?_
        try simp only [hnx, ← he] at hc114
        obtain ⟨⟨_, Aa, Ka, Ra, sa, La⟩, rfl, hO, ta, hBa⟩ : ∃ y : W15, y.i = x.i + 1 ∧ Own k w [arenaL a11 y.A, stkL s a11 y.st, actL l a11 y.L, rarL r27 y.R, rstkL z30 r27 y.st, ralL y32 r27 y.L, blk b2 26 [.pointer none, .pointer none, .pointer none], blk b3 31 [.pointer none, .pointer none, .pointer none], wld b4 a11 s l, mir b6 r27 z30 y32] ∧ Two y.A y.K y.R ∧ BldD (acts.take (x.i + 1)) y.A y.st y.L := by
          first
          | exact ⟨⟨x.i + 1, _, Kz, _, x.st, x.L⟩, rfl, hO.only [.o a11, .o s, .o l, .o r27, .o z30, .o y32, .b b2, .b b3, .b b4, .b b6], t9, by rw [hta, ← he]; exact hB.err' hEL h11_1⟩
          | exact ⟨⟨x.i + 1, B, _, R9, s9, if freshF B L9 EL.1 = 0 then pushE B L9 ⟨EL.1, tokT e.Text⟩ else L9⟩, rfl, hO.only [.o a11, .o s, .o l, .o r27, .o z30, .o y32, .b b2, .b b3, .b b4, .b b6], tl, by rw [hta, ← he]; exact hB.add' hEL he0 hB9 hs9 (by rw [← hL9, bldL, if_pos (show e.Active = true by simpa using hc114)])⟩
          | exact ⟨⟨x.i + 1, B, _, R9, s9, L9⟩, rfl, hO.only [.o a11, .o s, .o l, .o r27, .o z30, .o y32, .b b2, .b b3, .b b4, .b b6], tl, by rw [hta, ← he]; exact hB.add' hEL he0 hB9 hs9 (by rw [← hL9, bldL, if_neg (show ¬ e.Active = true by rw [hc114]; simp)])⟩
        exact q_next ((⟨x.i + 1, Aa, Ka, Ra, sa, La⟩ : W15)) ⟨rfl, rfl, rfl, rfl, rfl, rfl, rfl, trivial⟩ ⟨hO.only [.o a11, .o s, .o l, .o r27, .o z30, .o y32, .b b2, .b b3, .b b4, .b b6], ⟨by dsimp only; omega, by dsimp only; omega⟩, ta, hBa⟩ (by dsimp only; omega)
      · refine K2 (K3 (L9 (K5 (K3 (K0 ?_)))))
        have he0 : EL.2.1 = 0 := by omega
        obtain ⟨B, hB9⟩ : ∃ B, B = (linkL EL.2.2 e.Up EL.1 (-1)).2 := ⟨_, rfl⟩
        refine da_region (by intro c a d v w h; cases d <;> exact h) ?_
        have hO := hO.drew
        refine da_phase _ [8] (SO.ks [.b b4] hO) ?_
        refine dx_u 0 (by kernel_rfl) rfl rfl rfl (fun w => y_fldb (o' := 0) rfl) ?_
        refine dx_y 1 (by kernel_rfl) rfl rfl rfl (fun w ⟨m, hw⟩ => D5 hw rfl) ?_
        refine dx_u 2 (by kernel_rfl) rfl rfl rfl (fun w => y_move rfl) ?_
        refine dx_u 3 (by kernel_rfl) rfl rfl rfl (fun w => y_move rfl) ?_
        refine dx_u 4 (by kernel_rfl) rfl rfl rfl (fun w => y_idx rfl rfl) ?_
        refine dx_u 5 (by kernel_rfl) rfl rfl rfl (fun w => y_fld (j' := 1) rfl) ?_
        refine dx_y 6 (by kernel_rfl) rfl rfl rfl (fun w ⟨m, hw⟩ => y_r1 (x0 := 1) (enc := Law15_act.cells) (xs := acts) hw rfl) ?_
        refine dx_u 7 (by kernel_rfl) rfl rfl rfl (fun w => y_move rfl) ?_
        refine dx_close 8 (by kernel_rfl) rfl rfl ?_
        rw [hnx, ← he]
        refine CK [.o a11] hO rfl (fun k' hx hr hO' => LinkC_spec t9.pos t9.tree.rank t9.tree.links (hO := hO')) ?_
        rintro _ _ w ⟨rfl, rfl⟩ hO
        simp only [List.cons_append, List.nil_append] at hO
        rw [← hB9] at hO
        refine o_done ?_
        refine da_end (by kernel_rfl) ?_
        refine K3 (K0 (K1 ?_))
        refine l_y rfl rfl (y_move rfl) ?_
        refine l_y rfl rfl (y_move rfl) ?_
        refine l_y rfl rfl (y_move rfl) ?_
        refine l_y rfl rfl (y_idx rfl rfl) ?_
        refine l_y rfl rfl (y_fld (j' := 1) rfl) ?_
        refine l_y rfl rfl (y_r1 (x0 := 1) (enc := Law15_act.cells) (xs := acts) hO rfl) ?_
        refine l_y rfl rfl (y_move rfl) ?_
        rw [hnx, ← he]
        refine CK [.o r27] hO rfl (fun k' hx hr hO' => rLink_spec t9.tree t9.sim t9.max (hO := hO')) ?_
        rintro _ _ w ⟨rfl, R9, rfl, s9⟩ hO
        simp only [List.cons_append, List.nil_append] at hO
        have tl := t9.link s9
        rw [← hB9] at tl
        have hkl : Keeps x.A B := by
          have h1 := keeps_el (A := x.A) (nm := e.Text) (q := q1) (d := d1)
          rw [← hEL] at h1
          have h2 := keeps_link t9.tree e.Up EL.1 (-1)
          rw [← hB9] at h2
          exact h1.trans h2
        have hsl := hbi.si.keeps hkl
        have hll := hbi.li.keeps hkl
        refine K2 (K3 ?_)
        refine c_cut (X := List Int) (fun s9 => [(0, .slice lp acts.length lc), (2, .pointer (some ⟨b2, 0, none⟩)), (3, .pointer (some ⟨b3, 0, none⟩)), (4, .pointer (some ⟨b4, 0, none⟩)), (5, .pointer (some ⟨r27, 0, none⟩)), (6, .pointer (some ⟨b6, 0, none⟩)), (7, .int .i64 (x.i : Int)), (8, .int .i64 EL.1)]) (fun s9 w => Own k w [arenaL a11 B, stkL s a11 s9, actL l a11 x.L, rarL r27 R9, rstkL z30 r27 s9, ralL y32 r27 x.L, blk b2 26 [.pointer none, .pointer none, .pointer none], blk b3 31 [.pointer none, .pointer none, .pointer none], wld b4 a11 s l, mir b6 r27 z30 y32] ∧ (s9 = bldS EL.1 e B x.st)) ?_ ?_
        · refine K0 (K1 ?_)
          refine l_y rfl rfl (y_move rfl) ?_
          refine l_y rfl rfl (y_move rfl) ?_
          refine l_y rfl rfl (y_idx rfl rfl) ?_
          refine l_y rfl rfl (y_fld (j' := 2) rfl) ?_
          refine l_y rfl rfl (y_r1 (x0 := 2) (enc := Law15_act.cells) (xs := acts) hO rfl) ?_
          refine K2 (K3 ?_)
          refine c_split rfl (fun hc90 => ?_) (fun hc90 => ?_)
          · refine K0 (K1 ?_)
            refine l_y rfl rfl (y_fldb (o' := 1) rfl) ?_
            refine l_y rfl rfl (D5 hO rfl) ?_
            refine l_y rfl rfl (y_move rfl) ?_
            refine CK [.o a11, .o s] hO rfl (fun k' hx hr hO' => sPush_spec tl.pos tl.tree.attrs hxs (hO := hO')) ?_
            rintro _ _ w ⟨rfl, rfl⟩ hO
            simp only [List.cons_append, List.nil_append] at hO
            refine K2 (K3 (K1 ?_))
            refine l_y rfl rfl (y_fldb (o' := 1) rfl) ?_
            refine l_y rfl rfl (D5 hO rfl) ?_
            refine l_y rfl rfl (y_move rfl) ?_
            refine CK [.o r27, .o z30] hO rfl (fun k' hx hr hO' => tPush_spec tl.sim hsl.nodup hxs (hO := hO')) ?_
            rintro _ _ w ⟨rfl, rfl⟩ hO
            simp only [List.cons_append, List.nil_append] at hO
            refine K2 ?_
            exact q_cut (_) ⟨rfl, rfl, rfl, rfl, rfl, rfl, rfl, rfl, trivial⟩ ⟨hO.only [.o a11, .o s, .o l, .o r27, .o z30, .o y32, .b b2, .b b3, .b b4, .b b6], (by rw [bldS]; simp only [hnx, ← he] at hc90; first | (rw [if_pos (show e.Open = true by simpa using hc90)]; done) | (rw [if_neg (show ¬ e.Open = true by rw [hc90]; simp)]; done))⟩
          · refine K5 ?_
            exact q_cut (_) ⟨rfl, rfl, rfl, rfl, rfl, rfl, rfl, rfl, trivial⟩ ⟨hO.only [.o a11, .o s, .o l, .o r27, .o z30, .o y32, .b b2, .b b3, .b b4, .b b6], (by rw [bldS]; simp only [hnx, ← he] at hc90; first | (rw [if_pos (show e.Open = true by simpa using hc90)]; done) | (rw [if_neg (show ¬ e.Open = true by rw [hc90]; simp)]; done))⟩
        · rintro s9 w ⟨hO, hs9⟩
          refine c_cut (X := List Api_entry) (fun L9 => [(0, .slice lp acts.length lc), (2, .pointer (some ⟨b2, 0, none⟩)), (3, .pointer (some ⟨b3, 0, none⟩)), (4, .pointer (some ⟨b4, 0, none⟩)), (5, .pointer (some ⟨r27, 0, none⟩)), (6, .pointer (some ⟨b6, 0, none⟩)), (7, .int .i64 (x.i : Int)), (8, .int .i64 EL.1)]) (fun L9 w => Own k w [arenaL a11 B, stkL s a11 s9, actL l a11 L9, rarL r27 R9, rstkL z30 r27 s9, ralL y32 r27 L9, blk b2 26 [.pointer none, .pointer none, .pointer none], blk b3 31 [.pointer none, .pointer none, .pointer none], wld b4 a11 s l, mir b6 r27 z30 y32] ∧ (L9 = bldM e x.L)) ?_ ?_
          · refine K0 (K1 ?_)
            refine l_y rfl rfl (y_move rfl) ?_
            refine l_y rfl rfl (y_move rfl) ?_
            refine l_y rfl rfl (y_idx rfl rfl) ?_
            refine l_y rfl rfl (y_fld (j' := 4) rfl) ?_
            refine l_y rfl rfl (y_r1 (x0 := 4) (enc := Law15_act.cells) (xs := acts) hO rfl) ?_
            refine K2 (K3 ?_)
            refine c_split rfl (fun hc103 => ?_) (fun hc103 => ?_)
            · refine K0 (K1 ?_)
              refine l_y rfl rfl (y_fldb (o' := 2) rfl) ?_
              refine l_y rfl rfl (D5 hO rfl) ?_
              refine CK [.o l] hO rfl (fun k' hx hr hO' => aMark_spec (by omega) (hO := hO')) ?_
              rintro _ _ w ⟨rfl, rfl⟩ hO
              simp only [List.cons_append, List.nil_append] at hO
              refine K2 (K3 (K1 ?_))
              refine l_y rfl rfl (y_fldb (o' := 2) rfl) ?_
              refine l_y rfl rfl (D5 hO rfl) ?_
              refine CK [.o y32] hO rfl (fun k' hx hr hO' => zMark_spec (by omega) (hO := hO')) ?_
              rintro _ _ w ⟨rfl, rfl⟩ hO
              simp only [List.cons_append, List.nil_append] at hO
              refine K2 ?_
              exact q_cut (_) ⟨rfl, rfl, rfl, rfl, rfl, rfl, rfl, rfl, trivial⟩ ⟨hO.only [.o a11, .o s, .o l, .o r27, .o z30, .o y32, .b b2, .b b3, .b b4, .b b6], (by rw [bldM]; simp only [hnx, ← he] at hc103; first | (rw [if_pos (show e.Mark = true by simpa using hc103)]; done) | (rw [if_neg (show ¬ e.Mark = true by rw [hc103]; simp)]; done))⟩
            · refine K5 ?_
              exact q_cut (_) ⟨rfl, rfl, rfl, rfl, rfl, rfl, rfl, rfl, trivial⟩ ⟨hO.only [.o a11, .o s, .o l, .o r27, .o z30, .o y32, .b b2, .b b3, .b b4, .b b6], (by rw [bldM]; simp only [hnx, ← he] at hc103; first | (rw [if_pos (show e.Mark = true by simpa using hc103)]; done) | (rw [if_neg (show ¬ e.Mark = true by rw [hc103]; simp)]; done))⟩
          · rintro L9 w ⟨hO, hL9⟩
            refine K0 ?_
            have hm9 := hll.bldM (e := e)
            rw [← hL9] at hm9
            have hL1 : L9.length ≤ 2000000 := by
              have h7 : L9.length ≤ x.L.length + 1 := hm9.2
              omega
            refine K1 ?_
            refine l_y rfl rfl (y_move rfl) ?_
            refine l_y rfl rfl (y_move rfl) ?_
            refine l_y rfl rfl (y_idx rfl rfl) ?_
            refine l_y rfl rfl (y_fld (j' := 3) rfl) ?_
            refine l_y rfl rfl (y_r1 (x0 := 3) (enc := Law15_act.cells) (xs := acts) hO rfl) ?_
            refine K2 (K3 ?_)
            refine c_split rfl (fun hc114 => ?_) (fun hc114 => ?_)
            · refine K0 (K1 ?_)
              refine l_y rfl rfl (y_move rfl) ?_
              refine l_y rfl rfl (y_move rfl) ?_
              refine l_y rfl rfl (y_idx rfl rfl) ?_
              refine l_y rfl rfl (y_fld (j' := 0) rfl) ?_
              refine l_y rfl rfl (y_r1 (x0 := 0) (enc := Law15_act.cells) (xs := acts) hO rfl) ?_
              refine s_build (parts := [(0, .const (.int .i64 1)), (1, .tmp 119)]) (cs := [.int .i64 1, .string (at_ acts ((x.i : Int) : Int).toNat).Text, .string ⟨#[]⟩, .string ⟨#[]⟩, .int .i64 0, .bool false, .int .i32 0, .bool false, .slice none 0 0]) rfl rfl (fun a ha => partsOf_sound ha _ _ rfl) (by kernel_rfl) ?_
              refine s_alloc (vs := [.int .i64 0, .string ⟨#[]⟩, .string ⟨#[]⟩, .string ⟨#[]⟩, .int .i64 0, .bool false, .int .i32 0, .bool false, .slice none 0 0]) hO rfl rfl rfl fun b10 w hO => ?_
              refine Y3 hO rfl rfl (fun w hO => ?_)
              refine K2 (K3 (K0 (K1 ?_)))
              refine l_y rfl rfl (y_fldb (o' := 2) rfl) ?_
              refine l_y rfl rfl (D5 hO rfl) ?_
              refine l_y rfl rfl (y_move rfl) ?_
              refine l_y rfl rfl (D8 (cs := [.int .i64 1, .string (at_ acts ((x.i : Int) : Int).toNat).Text, .string ⟨#[]⟩, .string ⟨#[]⟩, .int .i64 0, .bool false, .int .i32 0, .bool false, .slice none 0 0]) hO rfl) ?_
              rw [hnx, ← he]
              refine CK [.o a11, .o l] hO rfl (fun k' hx hr hO' => aPush_spec (id := EL.1) (tk := tokT e.Text) (es := L9) tl.pos tl.tree.attrs hL1 hm9.1.has (fun e he => eok_of k' (hm9.1.tok e he)) ⟨Sli.nil rfl, Nat.zero_le _⟩ (hO := hO')) ?_
              rintro _ _ w ⟨rfl, rfl⟩ hO
              simp only [List.cons_append, List.nil_append] at hO
              refine K2 (K3 (K1 ?_))
              refine l_y rfl rfl (y_fldb (o' := 2) rfl) ?_
              refine l_y rfl rfl (D5 hO rfl) ?_
              refine l_y rfl rfl (y_move rfl) ?_
              refine l_y rfl rfl (D8 (cs := [.int .i64 1, .string (at_ acts ((x.i : Int) : Int).toNat).Text, .string ⟨#[]⟩, .string ⟨#[]⟩, .int .i64 0, .bool false, .int .i32 0, .bool false, .slice none 0 0]) hO rfl) ?_
              rw [hnx, ← he]
              refine CK [.o r27, .o y32] hO rfl (fun k' hx hr hO' => zPush_spec (id := EL.1) (tk := tokT e.Text) (L := L9) tl (hm9.1.pl k').dist hL1 hm9.1.has (fun e he => eok_of k' (hm9.1.tok e he)) ⟨Sli.nil rfl, Nat.zero_le _⟩ (hO := hO')) ?_
              rintro _ _ w ⟨rfl, rfl⟩ hO
              simp only [List.cons_append, List.nil_append] at hO
              refine K2 (K8 (K3 (K1 ?_)))
              refine l_y rfl rfl (y_move rfl) ?_
              refine l_y rfl rfl (D4) ?_
              refine l_y rfl rfl (y_assign rfl) ?_
              refine K2 ?_
              try simp only [hnx, ← he] at hc114
              obtain ⟨⟨_, Aa, Ka, Ra, sa, La⟩, rfl, hO, ta, hBa⟩ : ∃ y : W15, y.i = x.i + 1 ∧ Own k w [arenaL a11 y.A, stkL s a11 y.st, actL l a11 y.L, rarL r27 y.R, rstkL z30 r27 y.st, ralL y32 r27 y.L, blk b2 26 [.pointer none, .pointer none, .pointer none], blk b3 31 [.pointer none, .pointer none, .pointer none], wld b4 a11 s l, mir b6 r27 z30 y32] ∧ Two y.A y.K y.R ∧ BldD (acts.take (x.i + 1)) y.A y.st y.L := by
                first
                | exact ⟨⟨x.i + 1, _, Kz, _, x.st, x.L⟩, rfl, hO.only [.o a11, .o s, .o l, .o r27, .o z30, .o y32, .b b2, .b b3, .b b4, .b b6], t9, by rw [hta, ← he]; exact hB.err' hEL h11_1⟩
                | exact ⟨⟨x.i + 1, B, _, R9, s9, if freshF B L9 EL.1 = 0 then pushE B L9 ⟨EL.1, tokT e.Text⟩ else L9⟩, rfl, hO.only [.o a11, .o s, .o l, .o r27, .o z30, .o y32, .b b2, .b b3, .b b4, .b b6], tl, by rw [hta, ← he]; exact hB.add' hEL he0 hB9 hs9 (by rw [← hL9, bldL, if_pos (show e.Active = true by simpa using hc114)])⟩
                | exact ⟨⟨x.i + 1, B, _, R9, s9, L9⟩, rfl, hO.only [.o a11, .o s, .o l, .o r27, .o z30, .o y32, .b b2, .b b3, .b b4, .b b6], tl, by rw [hta, ← he]; exact hB.add' hEL he0 hB9 hs9 (by rw [← hL9, bldL, if_neg (show ¬ e.Active = true by rw [hc114]; simp)])⟩
              exact q_next ((⟨x.i + 1, Aa, Ka, Ra, sa, La⟩ : W15)) ⟨rfl, rfl, rfl, rfl, rfl, rfl, rfl, trivial⟩ ⟨hO.only [.o a11, .o s, .o l, .o r27, .o z30, .o y32, .b b2, .b b3, .b b4, .b b6], ⟨by dsimp only; omega, by dsimp only; omega⟩, ta, hBa⟩ (by dsimp only; omega)
            · refine K5 (K8 (K3 (K1 ?_)))
              refine l_y rfl rfl (y_move rfl) ?_
              refine l_y rfl rfl (D4) ?_
              refine l_y rfl rfl (y_assign rfl) ?_
              refine K2 ?_
              try simp only [hnx, ← he] at hc114
              obtain ⟨⟨_, Aa, Ka, Ra, sa, La⟩, rfl, hO, ta, hBa⟩ : ∃ y : W15, y.i = x.i + 1 ∧ Own k w [arenaL a11 y.A, stkL s a11 y.st, actL l a11 y.L, rarL r27 y.R, rstkL z30 r27 y.st, ralL y32 r27 y.L, blk b2 26 [.pointer none, .pointer none, .pointer none], blk b3 31 [.pointer none, .pointer none, .pointer none], wld b4 a11 s l, mir b6 r27 z30 y32] ∧ Two y.A y.K y.R ∧ BldD (acts.take (x.i + 1)) y.A y.st y.L := by
                first
                | exact ⟨⟨x.i + 1, _, Kz, _, x.st, x.L⟩, rfl, hO.only [.o a11, .o s, .o l, .o r27, .o z30, .o y32, .b b2, .b b3, .b b4, .b b6], t9, by rw [hta, ← he]; exact hB.err' hEL h11_1⟩
                | exact ⟨⟨x.i + 1, B, _, R9, s9, if freshF B L9 EL.1 = 0 then pushE B L9 ⟨EL.1, tokT e.Text⟩ else L9⟩, rfl, hO.only [.o a11, .o s, .o l, .o r27, .o z30, .o y32, .b b2, .b b3, .b b4, .b b6], tl, by rw [hta, ← he]; exact hB.add' hEL he0 hB9 hs9 (by rw [← hL9, bldL, if_pos (show e.Active = true by simpa using hc114)])⟩
                | exact ⟨⟨x.i + 1, B, _, R9, s9, L9⟩, rfl, hO.only [.o a11, .o s, .o l, .o r27, .o z30, .o y32, .b b2, .b b3, .b b4, .b b6], tl, by rw [hta, ← he]; exact hB.add' hEL he0 hB9 hs9 (by rw [← hL9, bldL, if_neg (show ¬ e.Active = true by rw [hc114]; simp)])⟩
              exact q_next ((⟨x.i + 1, Aa, Ka, Ra, sa, La⟩ : W15)) ⟨rfl, rfl, rfl, rfl, rfl, rfl, rfl, trivial⟩ ⟨hO.only [.o a11, .o s, .o l, .o r27, .o z30, .o y32, .b b2, .b b3, .b b4, .b b6], ⟨by dsimp only; omega, by dsimp only; omega⟩, ta, hBa⟩ (by dsimp only; omega)
    · refine l_y rfl rfl (y_pick_t rfl rfl) ?_
      refine l_y rfl rfl (y_move rfl) ?_
      repeat refine M2 ?_
      refine l_y rfl rfl (y_pick_f rfl rfl) ?_
      refine K2 (K3 (L9 (K7 (L1 (L1 (L2 (K3 (K0 ?_))))))))
      refine da_region (by intro c a d v w h; cases d <;> exact h) ?_
      have hO := hO.drew
      refine da_phase _ [3] (SO.ks [.b b4, .b b6] hO) ?_
      refine dx_y 0 (by kernel_rfl) rfl rfl rfl (fun w ⟨m, hw⟩ => D8 (cs := [.pointer (some ⟨a11, 0, none⟩), .pointer (some ⟨s, 0, none⟩), .pointer (some ⟨l, 0, none⟩)]) hw rfl) ?_
      refine dx_y 1 (by kernel_rfl) rfl rfl rfl (fun w ⟨m, hw⟩ => D8 (cs := [.pointer (some ⟨r27, 0, none⟩), .pointer (some ⟨z30, 0, none⟩), .pointer (some ⟨y32, 0, none⟩)]) hw rfl) ?_
      refine dx_only 2 (by kernel_rfl) rfl rfl ?_
      refine Y3 hO rfl rfl (fun w hO => ?_)
      refine o_done ?_
      refine ⟨SO.ks [.b b4, .b b6] hO, ?_⟩
      refine dx_close 3 (by kernel_rfl) rfl rfl ?_
      refine Y3 hO rfl rfl (fun w hO => ?_)
      refine o_done ?_
      refine da_end (by kernel_rfl) ?_
      refine K3 (K6 ?_)
      have hb2 := (hO.only [.b b2]).holds (.hd _ _ _) (.ofBlkA (o := 0) (cs := [.pointer (some ⟨a11, 0, none⟩), .pointer (some ⟨s, 0, none⟩), .pointer (some ⟨l, 0, none⟩)]) 3 rfl)
      have hb3 := (hO.only [.b b3]).holds (.hd _ _ _) (.ofBlkA (o := 0) (cs := [.pointer (some ⟨r27, 0, none⟩), .pointer (some ⟨z30, 0, none⟩), .pointer (some ⟨y32, 0, none⟩)]) 3 rfl)
      have hxe : acts.take x.i = acts.take 100 := by
        rcases Nat.lt_or_ge acts.length 100 with h | h
        · rw [List.take_of_length_le (by omega), List.take_of_length_le (by omega)]
        · rw [show x.i = 100 by omega]
      exact fincc rfl rfl rfl rfl rfl hb2 hb3 ⟨_, ⟨_, _, _, _, _, _, _, _, _, _, _, rfl, rfl, t, by rw [← hxe]; exact hB⟩, hO.only [.o a11, .o s, .o l, .o r27, .o z30, .o y32]⟩
  · refine l_y rfl rfl (y_move rfl) ?_
    repeat refine M2 ?_
    refine l_y rfl rfl (y_pick_f rfl rfl) ?_
    refine l_y rfl rfl (y_move rfl) ?_
    repeat refine M2 ?_
    refine l_y rfl rfl (y_pick_f rfl rfl) ?_
    refine K2 (K3 (L9 (K7 (L1 (L1 (L2 (K3 (K0 ?_))))))))
    refine da_region (by intro c a d v w h; cases d <;> exact h) ?_
    have hO := hO.drew
    refine da_phase _ [3] (SO.ks [.b b4, .b b6] hO) ?_
    refine dx_y 0 (by kernel_rfl) rfl rfl rfl (fun w ⟨m, hw⟩ => D8 (cs := [.pointer (some ⟨a11, 0, none⟩), .pointer (some ⟨s, 0, none⟩), .pointer (some ⟨l, 0, none⟩)]) hw rfl) ?_
    refine dx_y 1 (by kernel_rfl) rfl rfl rfl (fun w ⟨m, hw⟩ => D8 (cs := [.pointer (some ⟨r27, 0, none⟩), .pointer (some ⟨z30, 0, none⟩), .pointer (some ⟨y32, 0, none⟩)]) hw rfl) ?_
    refine dx_only 2 (by kernel_rfl) rfl rfl ?_
    refine Y3 hO rfl rfl (fun w hO => ?_)
    refine o_done ?_
    refine ⟨SO.ks [.b b4, .b b6] hO, ?_⟩
    refine dx_close 3 (by kernel_rfl) rfl rfl ?_
    refine Y3 hO rfl rfl (fun w hO => ?_)
    refine o_done ?_
    refine da_end (by kernel_rfl) ?_
    refine K3 (K6 ?_)
    have hb2 := (hO.only [.b b2]).holds (.hd _ _ _) (.ofBlkA (o := 0) (cs := [.pointer (some ⟨a11, 0, none⟩), .pointer (some ⟨s, 0, none⟩), .pointer (some ⟨l, 0, none⟩)]) 3 rfl)
    have hb3 := (hO.only [.b b3]).holds (.hd _ _ _) (.ofBlkA (o := 0) (cs := [.pointer (some ⟨r27, 0, none⟩), .pointer (some ⟨z30, 0, none⟩), .pointer (some ⟨y32, 0, none⟩)]) 3 rfl)
    have hxe : acts.take x.i = acts.take 100 := by
      rcases Nat.lt_or_ge acts.length 100 with h | h
      · rw [List.take_of_length_le (by omega), List.take_of_length_le (by omega)]
      · rw [show x.i = 100 by omega]
    exact fincc rfl rfl rfl rfl rfl hb2 hb3 ⟨_, ⟨_, _, _, _, _, _, _, _, _, _, _, rfl, rfl, t, by rw [← hxe]; exact hB⟩, hO.only [.o a11, .o s, .o l, .o r27, .o z30, .o y32]⟩
end
end Go.Proofs.YtoohapbaelmkcaaGreat
end
section
set_option linter.unusedVariables false
set_option linter.unusedSimpArgs false
set_option maxRecDepth 100000
namespace Go.Proofs.YtoohapbaelmkcaaGreat
open Go Go.Hb Go.RowKit
theorem el_one {A : List Node_one} {nm : ByteArray} (h : ¬ tmpl 0 nm) (hs : nm.size ≤ 100) (hl : A.length ≤ 1000) (q : Option Addr) (d : Nat) : elementL A 0 nm [] q d = ((A.length : Int), 0, A ++ [blankN (elementN q d 0 nm [])]) := by
  have h2 : longB (nm :: attrTexts []) = false := by simp [longB, attrTexts]; omega
  rw [elementL, if_neg (by omega), if_neg (by simp), if_neg (fun h1 => h h1.1), if_neg (by rw [h2]; simp), if_neg (by omega), if_neg h]
end Go.Proofs.YtoohapbaelmkcaaGreat
end
section
set_option linter.unusedVariables false
set_option linter.unusedSimpArgs false
set_option maxRecDepth 100000
namespace Go.Proofs.YtoohapbaelmkcaaGreat
open Go Go.Hb Go.RowKit
def eB : Law15_act := ⟨⟨#[98]⟩, 0, true, false, false⟩
theorem bld_nil {A : List Node_one} {st : List Int} {L : List Api_entry} {xs : List Law15_act} (g : BldD xs A st L) (h : xs = []) : A = [docD] ∧ st = [] ∧ L = [] := by
  cases g with
  | nil => exact ⟨rfl, rfl, rfl⟩
  | err xs => simp at h
  | add xs => simp at h
theorem bld_b {A : List Node_one} {st : List Int} {L : List Api_entry} {xs : List Law15_act} (g : BldD xs A st L) (h : xs = [eB]) : st = [1] ∧ L = [] ∧ Short ⟨A, st, L, 0⟩ ⟨#[98]⟩ := by
  have e1 : ∀ (q : Option Addr) (d : Nat), elementL [docD] 0 ⟨#[98]⟩ [] q d = (((([docD] : List Node_one).length : Nat) : Int), 0, [docD] ++ [blankN (elementN q d 0 ⟨#[98]⟩ [])]) := fun q d => el_one (by decide) (by decide) (by decide) q d
  cases g with
  | nil => simp at h
  | err xs A st L e q d g hh =>
    have hx : xs = [] := by
      cases xs with
      | nil => rfl
      | cons a l => simp at h
    subst hx
    obtain rfl : e = eB := by simpa using h
    obtain ⟨rfl, rfl, rfl⟩ := bld_nil g rfl
    have e2 := e1 q d
    exact absurd (show (elementL [docD] 0 ⟨#[98]⟩ [] q d).2.1 = 0 by rw [e2]) hh
  | add xs A0 st L e q d g hh B hB =>
    have hx : xs = [] := by
      cases xs with
      | nil => rfl
      | cons a l => simp at h
    subst hx
    obtain rfl : e = eB := by simpa using h
    obtain ⟨rfl, rfl, rfl⟩ := bld_nil g rfl
    have e2 := e1 q d
    have t0 := Tree.new.add (elementN q d 0 ⟨#[98]⟩ []) (Nat.zero_le _)
    have hB2 : A = (linkL ([docD] ++ [blankN (elementN q d 0 ⟨#[98]⟩ [])]) 0 1 (-1)).2 := by
      rw [hB]
      show (linkL (elementL [docD] 0 ⟨#[98]⟩ [] q d).2.2 0 (elementL [docD] 0 ⟨#[98]⟩ [] q d).1 (-1)).2 = _
      rw [e2]; rfl
    have hid : (elementL [docD] 0 eB.Text [] q d).1 = 1 := by
      show (elementL [docD] 0 ⟨#[98]⟩ [] q d).1 = 1
      rw [e2]; rfl
    have hl : A.length = 2 := by rw [hB2, linkL_len]; rfl
    have hc : coreN (at_ A ((1 : Int)).toNat) = coreN (blankN (elementN q d 0 ⟨#[98]⟩ [])) := by rw [hB2]; exact linkL_core t0 (by decide)
    have hb : hasB A 1 = true := by rw [hasB, hl]; rfl
    have hk : elB A 1 = true := by
      rw [elB, hb]
      have := core_kind hc
      rw [show (at_ A ((1 : Int)).toNat).Node.Kind = 1 from this]; rfl
    have hfr : freshE A [] 1 = 0 := by rw [freshE, hk, if_neg (by simp)]; rfl
    rw [hid]
    have hs : bldS 1 eB A [] = [1] := by
      show (if freshE A [] 1 = 0 then _ else _) = _
      rw [if_pos hfr]; rfl
    rw [hs]
    exact ⟨rfl, rfl, hb, core_space hc, core_name hc, by show findE [] (topI [1]) < 0; decide⟩
section
variable {k : Ctx} {w : World}
set_option maxHeartbeats 1000000 in
theorem awake15_spec (hO : Own k w []) : Tri Tryz.prog 11 #[] k w fun v m => v = .bool true ∧ m = [] := by
  refine enter (args := []) Tryz.func11 rfl rfl ?_
  refine K0 (K1 ?_)
  refine l_y rfl rfl (y_assign rfl) ?_
  refine K2 (K3 (K0 (K1 ?_)))
  refine s_build (parts := [(0, .const (.string ⟨#[98]⟩)), (2, .const (.bool true))]) (cs := [.string ⟨#[98]⟩, .int .i64 0, .bool true, .bool false, .bool false]) rfl rfl (fun a ha => partsOf_sound ha _ _ rfl) (by kernel_rfl) ?_
  refine s_lit (parts := [(0, .tmp 7)]) (enc := Law15_act.cells) [⟨⟨#[98]⟩, 0, true, false, false⟩] [.agg [.string ⟨#[98]⟩, .int .i64 0, .bool true, .bool false, .bool false].toArray] hO rfl (fun b8 w hO => ?_)
  refine CK [] hO rfl (fun k' hx hr hO' => build_spec (acts := [eB]) (sls_roK (p := (some ⟨b8, 0, none⟩)) hr (sls_fct (p := (some ⟨b8, 0, none⟩)) hO)) (hO := hO')) ?_
  rintro _ _ w ⟨a, s, l, r, z, y, A, K, R, st, L, rfl, rfl, t, hB⟩ hO
  simp only [List.cons_append, List.nil_append] at hO
  have hb := bld_b hB rfl
  have hR := hB.inv k (by decide)
  refine l_y rfl rfl (y_move rfl) ?_
  refine l_y rfl rfl (y_extract rfl rfl) ?_
  refine l_y rfl rfl (y_extract rfl rfl) ?_
  refine s_alloc (vs := [.pointer none, .pointer none, .pointer none]) hO rfl rfl rfl fun b1 w hO => ?_
  refine s_alloc (vs := [.pointer none, .pointer none, .pointer none]) hO rfl rfl rfl fun b2 w hO => ?_
  refine Y3 hO rfl rfl (fun w hO => ?_)
  refine Y3 hO rfl rfl (fun w hO => ?_)
  refine K2 (K3 (K0 (K1 ?_)))
  refine l_y rfl rfl (y_fldb (o' := 0) rfl) ?_
  refine l_y rfl rfl (D5 hO rfl) ?_
  refine l_y rfl rfl (y_fldb (o' := 1) rfl) ?_
  refine l_y rfl rfl (D5 hO rfl) ?_
  refine l_y rfl rfl (y_fldb (o' := 2) rfl) ?_
  refine l_y rfl rfl (D5 hO rfl) ?_
  refine CK [.o a, .o s, .o l] hO rfl (fun k' hx hr hO' => run_spec hR (by decide) (by decide) (hO := hO')) ?_
  rintro _ _ w ⟨o, y9, hrun, rfl, rfl⟩ hO
  simp only [List.cons_append, List.nil_append] at hO
  obtain ⟨_, ho, hy⟩ := hrun.resolve_right (fun h => h.1 hb.2.2)
  have h1 : y9.errs = 0 := by rw [hy]
  have h2 : y9.st.length = 0 := by rw [hy]; show (st.take (st.length - 1)).length = 0; rw [hb.1]; rfl
  rw [h1, ho]
  refine l_y rfl rfl (y_move rfl) ?_
  refine l_y rfl rfl (y_extract rfl rfl) ?_
  refine l_y rfl rfl (y_extract rfl rfl) ?_
  refine l_y rfl rfl (y_extract rfl rfl) ?_
  refine l_y rfl rfl (y_assign rfl) ?_
  refine l_y rfl rfl (y_assign rfl) ?_
  refine l_y rfl rfl (y_assign rfl) ?_
  refine K2 (K3 (K0 (K1 ?_)))
  refine l_y rfl rfl (y_move rfl) ?_
  refine l_y rfl rfl (y_not rfl rfl) ?_
  refine l_y rfl rfl (y_move rfl) ?_
  refine l_y rfl rfl (y_move rfl) ?_
  refine N2 ?_
  refine l_y rfl rfl (y_pick_t rfl rfl) ?_
  refine l_y rfl rfl (y_move rfl) ?_
  refine l_y rfl rfl (y_move rfl) ?_
  refine N2 ?_
  refine l_y rfl rfl (y_pick_t rfl rfl) ?_
  refine l_y rfl rfl (y_move rfl) ?_
  refine l_y rfl rfl (y_fldb (o' := 1) rfl) ?_
  refine l_y rfl rfl (D5 hO rfl) ?_
  refine CK [.o s] hO rfl (fun k' hx hr hO' => sLenC_spec (hO := hO')) ?_
  rintro _ _ w ⟨rfl, rfl⟩ hO
  simp only [List.cons_append, List.nil_append] at hO
  rw [h2]
  refine N2 (hp := rfl) ?_
  refine l_y rfl rfl (y_pick_t rfl rfl) ?_
  refine l_y rfl rfl (y_assign rfl) ?_
  refine K2 (K3 (K6 ?_))
  exact fin1 rfl rfl ⟨_, ⟨rfl, rfl⟩, hO.none⟩
set_option maxHeartbeats 4000000 in
theorem AdoptBounded_spec {lp : Option Addr} {lc : Nat} {acts : List Law15_act} {nm : ByteArray} {fo : Bool} (hs : Sli (Ro k) (.slice lp acts.length lc) (acts.map Law15_act.cells)) (hO : Own k w []) :
    Tri Tryz.prog 5 #[.slice lp acts.length lc, .string nm, .bool fo] k w fun v m => v = .bool true := by
  refine enter (args := [.slice lp acts.length lc, .string nm, .bool fo]) Tryz.func5 rfl rfl ?_
  refine K0 (K1 ?_)
  refine l_y rfl rfl (y_assign rfl) ?_
  refine K2 (K3 (K0 (K1 ?_)))
  refine l_y rfl rfl (y_move rfl) ?_
  refine CK [] hO rfl (fun k' hx hr hO' => build_spec (hs.ext hO hx) (hO := hO')) ?_
  rintro _ _ w ⟨a, s, l, r, z, y, A, K, R, st, L, rfl, rfl, t, hB⟩ hO
  simp only [List.cons_append, List.nil_append] at hO
  have hn9 : (acts.take 100).length ≤ 100 := by simp; omega
  have hR0 := hB.inv k (by omega)
  have hA0 : A.length ≤ 201 := Nat.le_trans hR0.len (by omega)
  have hL0 : L.length ≤ 200 := Nat.le_trans hR0.ll (by omega)
  have hR : RsI A.length 200 ⟨A, st, L, 0⟩ := ⟨hR0.ai, hR0.si, hR0.li, Nat.le_refl _, hL0⟩
  refine l_y rfl rfl (y_move rfl) ?_
  refine l_y rfl rfl (y_extract rfl rfl) ?_
  refine l_y rfl rfl (y_extract rfl rfl) ?_
  refine s_alloc (vs := [.pointer none, .pointer none, .pointer none]) hO rfl rfl rfl fun b7 w hO => ?_
  refine s_alloc (vs := [.pointer none, .pointer none, .pointer none]) hO rfl rfl rfl fun b8 w hO => ?_
  refine Y3 hO rfl rfl (fun w hO => ?_)
  refine Y3 hO rfl rfl (fun w hO => ?_)
  refine K2 (K3 (K0 (K0 (K1 ?_))))
  refine l_y rfl rfl (y_fldb (o' := 0) rfl) ?_
  refine l_y rfl rfl (D5 hO rfl) ?_
  refine l_y rfl rfl (y_eqPnil rfl rfl rfl) ?_
  refine l_y rfl rfl (y_move rfl) ?_
  refine l_y rfl rfl (y_fldb (o' := 1) rfl) ?_
  refine l_y rfl rfl (D5 hO rfl) ?_
  refine l_y rfl rfl (y_eqPnil rfl rfl rfl) ?_
  refine l_y rfl rfl (y_pick_f rfl rfl) ?_
  refine l_y rfl rfl (y_move rfl) ?_
  refine l_y rfl rfl (y_fldb (o' := 2) rfl) ?_
  refine l_y rfl rfl (D5 hO rfl) ?_
  refine l_y rfl rfl (y_eqPnil rfl rfl rfl) ?_
  refine l_y rfl rfl (y_pick_f rfl rfl) ?_
  refine K2 (K3 (L9 (K5 (K3 (K0 (K1 ?_))))))
  refine l_y rfl rfl (y_fldb (o' := 0) rfl) ?_
  refine l_y rfl rfl (D5 hO rfl) ?_
  refine CK [.o a] hO rfl (fun k' hx hr hO' => LenC_spec (A := A) hR.ai.pos (hO := hO')) ?_
  rintro _ _ w ⟨rfl, rfl⟩ hO
  simp only [List.cons_append, List.nil_append] at hO
  refine l_y rfl rfl (y_assign rfl) ?_
  refine K2 (K3 (K0 (K1 ?_)))
  refine l_y rfl rfl (y_fldb (o' := 0) rfl) ?_
  refine l_y rfl rfl (D5 hO rfl) ?_
  refine l_y rfl rfl (y_fldb (o' := 1) rfl) ?_
  refine l_y rfl rfl (D5 hO rfl) ?_
  refine l_y rfl rfl (y_fldb (o' := 2) rfl) ?_
  refine l_y rfl rfl (D5 hO rfl) ?_
  refine l_y rfl rfl (y_move rfl) ?_
  refine l_y rfl rfl (y_move rfl) ?_
  refine CK [.o a, .o s, .o l] hO rfl (fun k' hx hr hO' => run_spec (nm := nm) (fo := fo) hR (by omega) (by decide) (hO := hO')) ?_
  rintro _ _ w ⟨o, y9, hrun, rfl, rfl⟩ hO
  simp only [List.cons_append, List.nil_append] at hO
  obtain ⟨h9, hu1, hu2⟩ := hrun.keep k hR (by omega)
  dsimp only at hu1 hu2
  have hA9 : y9.A.length ≤ A.length + 64 := h9.len
  have hL9 : y9.L.length ≤ 200 := h9.ll
  have hs9 : y9.st.length ≤ 1000 := Nat.le_trans h9.si.len (by show y9.A.length ≤ 1000; omega)
  have hp9 : 0 < y9.A.length := h9.ai.pos
  have ha9 : AttrsOk y9.A := h9.ai.attrs
  refine l_y rfl rfl (y_move rfl) ?_
  refine l_y rfl rfl (y_extract rfl rfl) ?_
  refine l_y rfl rfl (y_extract rfl rfl) ?_
  refine l_y rfl rfl (y_extract rfl rfl) ?_
  refine l_y rfl rfl (y_assign rfl) ?_
  refine l_y rfl rfl (y_assign rfl) ?_
  refine l_y rfl rfl (y_assign rfl) ?_
  refine K2 (K3 (K0 (K0 (K1 ?_))))
  refine l_y rfl rfl (y_move rfl) ?_
  refine N4 ?_
  refine l_y rfl rfl (y_move rfl) ?_
  refine l_y rfl rfl (y_move rfl) ?_
  refine N3 (hp := (by omega)) ?_
  refine l_y rfl rfl (y_pick_f rfl rfl) ?_
  refine l_y rfl rfl (y_move rfl) ?_
  refine l_y rfl rfl (y_move rfl) ?_
  refine N3 (hp := (by omega)) ?_
  refine l_y rfl rfl (y_pick_f rfl rfl) ?_
  refine l_y rfl rfl (y_move rfl) ?_
  refine l_y rfl rfl (y_fldb (o' := 0) rfl) ?_
  refine l_y rfl rfl (D5 hO rfl) ?_
  refine CK [.o a] hO rfl (fun k' hx hr hO' => LenC_spec hp9 (hO := hO')) ?_
  rintro _ _ w ⟨rfl, rfl⟩ hO
  simp only [List.cons_append, List.nil_append] at hO
  refine l_y rfl rfl (y_move rfl) ?_
  refine l_y rfl rfl (D4) ?_
  refine N3 (hp := (by omega)) ?_
  refine l_y rfl rfl (y_pick_f rfl rfl) ?_
  refine K2 (K3 (L9 (K5 (K3 (K0 (K0 (K1 ?_)))))))
  refine l_y rfl rfl (y_assign rfl) ?_
  refine K2 (K3 (K4 ?_))
  refine c_rounds (X := Nat) (fun i => [(6, .bool false), (7, .pointer (some ⟨b7, 0, none⟩)), (13, .int .i64 (i : Int))]) (fun i w => Own k w [arenaL a y9.A, stkL s a y9.st, actL l a y9.L, wld b7 a s l] ∧ (i ≤ y9.st.length)) (fun i => y9.st.length - i) (0) ⟨rfl, rfl, rfl, trivial⟩ ⟨hO.only [.o a, .o s, .o l, .b b7], Nat.zero_le _⟩ ?_
  rintro i w m hm ⟨hO, hi⟩
  refine K0 (K0 (K1 ?_))
  refine l_y rfl rfl (y_move rfl) ?_
  refine l_y rfl rfl (y_fldb (o' := 1) rfl) ?_
  refine l_y rfl rfl (D5 hO rfl) ?_
  refine CK [.o s] hO rfl (fun k' hx hr hO' => sLenC_spec (hO := hO')) ?_
  rintro _ _ w ⟨rfl, rfl⟩ hO
  simp only [List.cons_append, List.nil_append] at hO
  refine Z0 (fun h9_4 => ?_) (fun h9_4 => ?_)
  · refine K2 (K3 (L8 (K5 (K3 (K0 (K4 (K0 ?_)))))))
    have hat : atI y9.st (i : Int) = at_ y9.st i := by rw [atI, if_neg (by omega)]; rfl
    have hel := h9.si.el (at_ y9.st i) (at_mem (by show i < y9.st.length; omega))
    have her : errN y9.A (at_ y9.st i) = 0 := by rw [errN, if_pos (elB_has hel)]
    refine da_region (by intro c a d v w h; cases d <;> exact h) ?_
    have hO := hO.drew
    refine da_phase _ [11] (SO.ks [.b b7] hO) ?_
    refine dx_u 0 (by kernel_rfl) rfl rfl rfl (fun w => y_fldb (o' := 0) rfl) ?_
    refine dx_y 1 (by kernel_rfl) rfl rfl rfl (fun w ⟨m, hw⟩ => D5 hw rfl) ?_
    refine dx_u 2 (by kernel_rfl) rfl rfl rfl (fun w => y_fldb (o' := 1) rfl) ?_
    refine dx_y 3 (by kernel_rfl) rfl rfl rfl (fun w ⟨m, hw⟩ => D5 hw rfl) ?_
    refine dx_u 4 (by kernel_rfl) rfl rfl rfl (fun w => y_move rfl) ?_
    refine dx_two 5 10 (by kernel_rfl) rfl rfl rfl rfl ?_ ?_
    · refine CK [.o s] hO rfl (fun k' hx hr hO' => sAtC_spec (x := (i : Int)) (by omega) (hO := hO')) ?_
      rintro _ _ w ⟨rfl, rfl⟩ hO
      simp only [List.cons_append, List.nil_append] at hO
      rw [hat]
      refine o_done ?_
      refine ⟨SO.ks [.b b7] hO, ?_⟩
      refine dx_two 6 10 (by kernel_rfl) rfl rfl rfl rfl ?_ ?_
      · refine CK [.o a] hO rfl (fun k' hx hr hO' => NodeD_spec (id := at_ y9.st i) hp9 ha9 (hO := hO')) ?_
        rintro _ _ w ⟨n, hnv, rfl, rfl⟩ hO
        simp only [List.cons_append, List.nil_append] at hO
        rw [her]
        have hnk : n.Kind = 1 := by
          rw [hnv.kind (elB_has hel)]
          have h5 := hel
          rw [elB, Bool.and_eq_true] at h5
          exact of_decide_eq_true h5.2
        refine o_done ?_
        refine ⟨SO.ks [.b b7] hO, ?_⟩
        refine dx_u 7 (by kernel_rfl) rfl rfl rfl (fun w => y_move rfl) ?_
        refine dx_u 8 (by kernel_rfl) rfl rfl rfl (fun w => y_extract rfl rfl) ?_
        refine dx_u 9 (by kernel_rfl) rfl rfl rfl (fun w => y_extract rfl rfl) ?_
        refine dx_only 10 (by kernel_rfl) rfl rfl ?_
        refine s_alloc (vs := [.int .i64 0, .int .i64 0, .string ⟨#[]⟩, .slice none 0 0, .string ⟨#[]⟩, .string ⟨#[]⟩, .int .i64 0, .int .i64 0, .int .i64 0, .int .i64 0, .int .i64 0, .int .i64 0]) hO rfl rfl rfl fun b14 w hO => ?_
        refine o_done ?_
        refine ⟨SO.ks [.b b7] hO, ?_⟩
        refine dx_close 11 (by kernel_rfl) rfl rfl ?_
        refine Y3 hO rfl rfl (fun w hO => ?_)
        refine o_done ?_
        refine da_phase _ [] (SO.ks [] hO) ?_
        refine dx_u 12 (by kernel_rfl) rfl rfl rfl (fun w => y_assign rfl) ?_
        refine dx_end (by kernel_rfl) ?_
        refine K3 (K0 (K1 ?_))
        refine l_y rfl rfl (y_move rfl) ?_
        refine N4 ?_
        refine l_y rfl rfl (y_move rfl) ?_
        refine l_y rfl rfl (y_fldb (o' := 0) rfl) ?_
        refine l_y rfl rfl (D5 hO rfl) ?_
        refine N4 (hp := hnk) ?_
        refine l_y rfl rfl (y_pick_f rfl rfl) ?_
        refine K2 (K3 (L9 (K5 (K8 (K3 (K1 ?_))))))
        refine l_y rfl rfl (y_move rfl) ?_
        refine l_y rfl rfl (D4) ?_
        refine l_y rfl rfl (y_assign rfl) ?_
        refine K2 ?_
        exact q_next (i + 1) ⟨rfl, rfl, rfl, trivial⟩ ⟨hO.only [.o a, .o s, .o l, .b b7], by omega⟩ (by omega)
      · refine s_alloc (vs := [.int .i64 0, .int .i64 0, .string ⟨#[]⟩, .slice none 0 0, .string ⟨#[]⟩, .string ⟨#[]⟩, .int .i64 0, .int .i64 0, .int .i64 0, .int .i64 0, .int .i64 0, .int .i64 0]) hO rfl rfl rfl fun b14 w hO => ?_
        refine o_done ?_
        refine ⟨SO.ks [.b b7] hO, ?_⟩
        refine dx_only 6 (by kernel_rfl) rfl rfl ?_
        refine CK [.o a] hO rfl (fun k' hx hr hO' => NodeD_spec (id := at_ y9.st i) hp9 ha9 (hO := hO')) ?_
        rintro _ _ w ⟨n, hnv, rfl, rfl⟩ hO
        simp only [List.cons_append, List.nil_append] at hO
        rw [her]
        have hnk : n.Kind = 1 := by
          rw [hnv.kind (elB_has hel)]
          have h5 := hel
          rw [elB, Bool.and_eq_true] at h5
          exact of_decide_eq_true h5.2
        refine o_done ?_
        refine ⟨SO.ks [.b b7] hO, ?_⟩
        refine dx_u 7 (by kernel_rfl) rfl rfl rfl (fun w => y_move rfl) ?_
        refine dx_u 8 (by kernel_rfl) rfl rfl rfl (fun w => y_extract rfl rfl) ?_
        refine dx_u 9 (by kernel_rfl) rfl rfl rfl (fun w => y_extract rfl rfl) ?_
        refine dx_close 11 (by kernel_rfl) rfl rfl ?_
        refine Y3 hO rfl rfl (fun w hO => ?_)
        refine o_done ?_
        refine da_phase _ [] (SO.ks [] hO) ?_
        refine dx_u 12 (by kernel_rfl) rfl rfl rfl (fun w => y_assign rfl) ?_
        refine dx_end (by kernel_rfl) ?_
        refine K3 (K0 (K1 ?_))
        refine l_y rfl rfl (y_move rfl) ?_
        refine N4 ?_
        refine l_y rfl rfl (y_move rfl) ?_
        refine l_y rfl rfl (y_fldb (o' := 0) rfl) ?_
        refine l_y rfl rfl (D5 hO rfl) ?_
        refine N4 (hp := hnk) ?_
        refine l_y rfl rfl (y_pick_f rfl rfl) ?_
        refine K2 (K3 (L9 (K5 (K8 (K3 (K1 ?_))))))
        refine l_y rfl rfl (y_move rfl) ?_
        refine l_y rfl rfl (D4) ?_
        refine l_y rfl rfl (y_assign rfl) ?_
        refine K2 ?_
        exact q_next (i + 1) ⟨rfl, rfl, rfl, trivial⟩ ⟨hO.only [.o a, .o s, .o l, .b b7], by omega⟩ (by omega)
    · refine s_alloc (vs := [.int .i64 0, .int .i64 0, .string ⟨#[]⟩, .slice none 0 0, .string ⟨#[]⟩, .string ⟨#[]⟩, .int .i64 0, .int .i64 0, .int .i64 0, .int .i64 0, .int .i64 0, .int .i64 0]) hO rfl rfl rfl fun b14 w hO => ?_
      refine o_done ?_
      refine ⟨SO.ks [.b b7] hO, ?_⟩
      refine dx_only 5 (by kernel_rfl) rfl rfl ?_
      refine CK [.o s] hO rfl (fun k' hx hr hO' => sAtC_spec (x := (i : Int)) (by omega) (hO := hO')) ?_
      rintro _ _ w ⟨rfl, rfl⟩ hO
      simp only [List.cons_append, List.nil_append] at hO
      rw [hat]
      refine o_done ?_
      refine ⟨SO.ks [.b b7] hO, ?_⟩
      refine dx_only 6 (by kernel_rfl) rfl rfl ?_
      refine CK [.o a] hO rfl (fun k' hx hr hO' => NodeD_spec (id := at_ y9.st i) hp9 ha9 (hO := hO')) ?_
      rintro _ _ w ⟨n, hnv, rfl, rfl⟩ hO
      simp only [List.cons_append, List.nil_append] at hO
      rw [her]
      have hnk : n.Kind = 1 := by
        rw [hnv.kind (elB_has hel)]
        have h5 := hel
        rw [elB, Bool.and_eq_true] at h5
        exact of_decide_eq_true h5.2
      refine o_done ?_
      refine ⟨SO.ks [.b b7] hO, ?_⟩
      refine dx_u 7 (by kernel_rfl) rfl rfl rfl (fun w => y_move rfl) ?_
      refine dx_u 8 (by kernel_rfl) rfl rfl rfl (fun w => y_extract rfl rfl) ?_
      refine dx_u 9 (by kernel_rfl) rfl rfl rfl (fun w => y_extract rfl rfl) ?_
      refine dx_close 11 (by kernel_rfl) rfl rfl ?_
      refine Y3 hO rfl rfl (fun w hO => ?_)
      refine o_done ?_
      refine da_phase _ [] (SO.ks [] hO) ?_
      refine dx_u 12 (by kernel_rfl) rfl rfl rfl (fun w => y_assign rfl) ?_
      refine dx_end (by kernel_rfl) ?_
      refine K3 (K0 (K1 ?_))
      refine l_y rfl rfl (y_move rfl) ?_
      refine N4 ?_
      refine l_y rfl rfl (y_move rfl) ?_
      refine l_y rfl rfl (y_fldb (o' := 0) rfl) ?_
      refine l_y rfl rfl (D5 hO rfl) ?_
      refine N4 (hp := hnk) ?_
      refine l_y rfl rfl (y_pick_f rfl rfl) ?_
      refine K2 (K3 (L9 (K5 (K8 (K3 (K1 ?_))))))
      refine l_y rfl rfl (y_move rfl) ?_
      refine l_y rfl rfl (D4) ?_
      refine l_y rfl rfl (y_assign rfl) ?_
      refine K2 ?_
      exact q_next (i + 1) ⟨rfl, rfl, rfl, trivial⟩ ⟨hO.only [.o a, .o s, .o l, .b b7], by omega⟩ (by omega)
  · refine K2 (K3 (L9 (K7 (L1 (L1 (L2 (K3 (K0 (K0 (K1 ?_))))))))))
    refine l_y rfl rfl (y_assign rfl) ?_
    refine K2 (K3 (K4 ?_))
    refine c_rounds (X := Nat) (fun j => [(6, .bool false), (7, .pointer (some ⟨b7, 0, none⟩)), (16, .int .i64 (j : Int))]) (fun j w => Own k w [arenaL a y9.A, stkL s a y9.st, actL l a y9.L, wld b7 a s l] ∧ (j ≤ y9.L.length)) (fun j => y9.L.length - j) (0) ⟨rfl, rfl, rfl, trivial⟩ ⟨hO.only [.o a, .o s, .o l, .b b7], Nat.zero_le _⟩ ?_
    rintro j w m hm ⟨hO, hj⟩
    refine K0 (K0 (K1 ?_))
    refine l_y rfl rfl (y_move rfl) ?_
    refine l_y rfl rfl (y_fldb (o' := 2) rfl) ?_
    refine l_y rfl rfl (D5 hO rfl) ?_
    refine CK [.o l] hO rfl (fun k' hx hr hO' => aLen_spec (hO := hO')) ?_
    rintro _ _ w ⟨rfl, rfl⟩ hO
    simp only [List.cons_append, List.nil_append] at hO
    refine Z0 (fun h15_4 => ?_) (fun h15_4 => ?_)
    · refine K2 (K3 (L8 (K5 (K3 (K0 (K4 (K0 ?_)))))))
      obtain ⟨e, he⟩ : ∃ e, e = at_ y9.L j := ⟨_, rfl⟩
      have hent := h9.li.ent e (by rw [he]; exact at_mem (by show j < y9.L.length; omega))
      refine K1 ?_
      refine l_y rfl rfl (y_fldb (o' := 2) rfl) ?_
      refine l_y rfl rfl (D5 hO rfl) ?_
      refine l_y rfl rfl (y_move rfl) ?_
      refine CK [.o l] hO rfl (fun k' hx hr hO' => aAt_spec (i := (j : Int)) (by omega) (hO := hO')) ?_
      rintro _ _ w ⟨h5, rfl⟩ hO
      simp only [List.cons_append, List.nil_append] at hO
      obtain ⟨_, rfl⟩ := h5.resolve_left (fun h => by omega)
      rw [show at_ y9.L ((j : Int)).toNat = e from he.symm]
      refine l_y rfl rfl (y_move rfl) ?_
      refine l_y rfl rfl (y_extract rfl rfl) ?_
      refine l_y rfl rfl (y_extract rfl rfl) ?_
      refine s_alloc (vs := [.int .i64 0, .int .i64 0, .string ⟨#[]⟩, .string ⟨#[]⟩, .string ⟨#[]⟩, .int .i64 0, .bool false, .int .i32 0, .bool false, .slice none 0 0]) hO rfl rfl rfl fun b17 w hO => ?_
      refine Y3 hO rfl rfl (fun w hO => ?_)
      refine l_y rfl rfl (y_assign rfl) ?_
      refine K2 (K3 (K0 (K1 ?_)))
      refine l_y rfl rfl (y_fldb (o' := 0) rfl) ?_
      refine l_y rfl rfl (D5 hO rfl) ?_
      refine l_y rfl rfl (y_fldb (o' := 0) rfl) ?_
      refine l_y rfl rfl (D5 hO rfl) ?_
      refine CK [.o a] hO rfl (fun k' hx hr hO' => NodeD_spec (id := e.Node) hp9 ha9 (hO := hO')) ?_
      rintro _ _ w ⟨n, hnv, rfl, rfl⟩ hO
      simp only [List.cons_append, List.nil_append] at hO
      have hn1 : e.Node ≠ -1 → errN y9.A e.Node = 0 ∧ n.Kind = 1 ∧ n.Name = e.Token.Name := fun hne => by
        have h5 := hent.resolve_left hne
        have h6 := elB_has h5.1
        refine ⟨by rw [errN, if_pos h6], ?_, (hnv.name h6).trans h5.2.1⟩
        rw [hnv.kind h6]
        have h7 := h5.1
        rw [elB, Bool.and_eq_true] at h7
        exact of_decide_eq_true h7.2
      refine l_y rfl rfl (y_move rfl) ?_
      refine l_y rfl rfl (y_extract rfl rfl) ?_
      refine l_y rfl rfl (y_extract rfl rfl) ?_
      refine s_alloc (vs := [.int .i64 0, .int .i64 0, .string ⟨#[]⟩, .slice none 0 0, .string ⟨#[]⟩, .string ⟨#[]⟩, .int .i64 0, .int .i64 0, .int .i64 0, .int .i64 0, .int .i64 0, .int .i64 0]) hO rfl rfl rfl fun b19 w hO => ?_
      refine Y3 hO rfl rfl (fun w hO => ?_)
      refine l_y rfl rfl (y_assign rfl) ?_
      refine K2 (K3 (K0 (K1 ?_)))
      refine l_y rfl rfl (y_fldb (o' := 0) rfl) ?_
      refine l_y rfl rfl (D5 hO rfl) ?_
      refine Z1 (fun h19_2 => ?_) (fun h19_2 => ?_)
      · refine l_y rfl rfl (y_move rfl) ?_
        refine l_y rfl rfl (y_move rfl) ?_
        refine N4 (hp := (hn1 h19_2).1) ?_
        refine l_y rfl rfl (y_move rfl) ?_
        refine l_y rfl rfl (y_fldb (o' := 0) rfl) ?_
        refine l_y rfl rfl (D5 hO rfl) ?_
        refine N4 (hp := (hn1 h19_2).2.1) ?_
        refine l_y rfl rfl (y_pick_f rfl rfl) ?_
        refine l_y rfl rfl (y_move rfl) ?_
        refine l_y rfl rfl (y_fldb (o' := 2) rfl) ?_
        refine l_y rfl rfl (D5 hO rfl) ?_
        refine l_y rfl rfl (y_fldb (o' := 1) rfl) ?_
        refine l_y rfl rfl (y_fldb (o' := 2) rfl) ?_
        refine l_y rfl rfl (D5 hO rfl) ?_
        refine N8 (hp := (hn1 h19_2).2.2) ?_
        refine l_y rfl rfl (y_pick_f rfl rfl) ?_
        refine l_y rfl rfl (y_pick_t rfl rfl) ?_
        refine K2 (K3 (L9 (K5 (K8 (K3 (K1 ?_))))))
        refine l_y rfl rfl (y_move rfl) ?_
        refine l_y rfl rfl (D4) ?_
        refine l_y rfl rfl (y_assign rfl) ?_
        refine K2 ?_
        exact q_next (j + 1) ⟨rfl, rfl, rfl, trivial⟩ ⟨hO.only [.o a, .o s, .o l, .b b7], by omega⟩ (by omega)
      · refine l_y rfl rfl (y_move rfl) ?_
        repeat refine M2 ?_
        refine l_y rfl rfl (y_pick_f rfl rfl) ?_
        refine K2 (K3 (L9 (K5 (K8 (K3 (K1 ?_))))))
        refine l_y rfl rfl (y_move rfl) ?_
        refine l_y rfl rfl (D4) ?_
        refine l_y rfl rfl (y_assign rfl) ?_
        refine K2 ?_
        exact q_next (j + 1) ⟨rfl, rfl, rfl, trivial⟩ ⟨hO.only [.o a, .o s, .o l, .b b7], by omega⟩ (by omega)
    · refine K2 (K3 (L9 (K7 (L1 (L1 (L2 (K3 (K0 (K1 ?_)))))))))
      refine CK [] hO rfl (fun k' hx hr hO' => awake15_spec (hO := hO')) ?_
      rintro _ _ w ⟨rfl, rfl⟩ hO
      simp only [List.cons_append, List.nil_append] at hO
      refine l_y rfl rfl (y_assign rfl) ?_
      refine K2 (K3 (K6 ?_))
      exact fin1 rfl rfl ⟨_, rfl, hO⟩
end
end Go.Proofs.YtoohapbaelmkcaaGreat
end
