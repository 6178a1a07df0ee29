/- For every law, freezes, a gauge, a tick, an interval and two days the law function RetainCovers returns true and leaves its arguments as they were. Conditions: none beyond those of the given row, that the table of the lengths of the months reads as its initialiser lays it, which the given tie pays. -/
import Derived.Test.YtjmchgpbejldlaaDoorCards
import Derived.Test.YtjmchgpbejldlaaDoorTie
import Derived.Test.YtjmchgpbejldlaaDoorC9
import Derived.Test.YtjmchgpbejldlaaDoorD1
import Derived.Test.YtjmchgpbejldlaaDoorA4
set_option linter.unusedVariables false
set_option linter.unusedSimpArgs false
namespace Go.Am
open Go.Proofs
theorem VSub.slc' {st n : Nat} {f f' : Nat → List AVal} (h : ∀ k, k < n → f' k = f k) : VSub (.slc st n f) (.slc st n f') := .inr (.inr ⟨st, n, f, f', rfl, rfl, h⟩)
theorem three_inv {xs : List AVal} (h : ShsOk [.int .i64, .int .i64, .int .i64] xs) : ∃ z : Fz, xs = z.cells := by
  obtain ⟨x, xs, rfl, h1, h⟩ := h.cons_inv
  obtain ⟨y, xs, rfl, h2, h⟩ := h.cons_inv
  obtain ⟨z, xs, rfl, h3, h⟩ := h.cons_inv
  obtain rfl := h.nil_inv
  obtain ⟨a, rfl, _, _⟩ := h1.int_inv
  obtain ⟨b, rfl, _, _⟩ := h2.int_inv
  obtain ⟨c, rfl, _, _⟩ := h3.int_inv
  exact ⟨⟨a, b, c⟩, rfl⟩
set_option maxRecDepth 100000 in
theorem args_inv {xs : List AVal} (h : ArgsOk Tryd.prog 10 [23, 24, 28] xs) :
    ∃ (w : Lw) (q : Nat → Fz) (n : Nat) (f : Nat → List AVal) (g tick a b before today : Int), xs = [.agg w.cells, .slc 3 n f, .agg [.int .i64 g, .int .i64 tick, .int .i64 a, .int .i64 b, .int .i64 before, .int .i64 today]] ∧ ∀ k, k < n → (q k).cells = f k := by
  match xs, h with
  | [x, y, z], ⟨⟨s1, e1, o1⟩, ⟨s2, e2, o2⟩, ⟨s3, e3, o3⟩, _⟩ =>
  have t1 : shapeOf Tryd.prog 10 23 = some [.int .i64, .int .i64, .int .i64, .int .i64] := by kernel_rfl
  have t2 : shapeOf Tryd.prog 10 24 = some [.slc [.int .i64, .int .i64, .int .i64]] := by kernel_rfl
  have t3 : shapeOf Tryd.prog 10 28 = some [.int .i64, .int .i64, .int .i64, .int .i64, .int .i64, .int .i64] := by kernel_rfl
  have a1 : isAggT Tryd.prog 23 = true := by kernel_rfl
  have a2 : isAggT Tryd.prog 24 = false := by kernel_rfl
  have a3 : isAggT Tryd.prog 28 = true := by kernel_rfl
  obtain rfl := Option.some.inj (t1.symm.trans e1)
  obtain rfl := Option.some.inj (t2.symm.trans e2)
  obtain rfl := Option.some.inj (t3.symm.trans e3)
  rcases o1 with ⟨_, xs, rfl, h1⟩ | ⟨h, _⟩
  rotate_left
  · rw [a1] at h; cases h
  rcases o2 with ⟨h, _⟩ | ⟨_, s, hs, h2⟩
  · rw [a2] at h; cases h
  rcases o3 with ⟨_, zs, rfl, h3⟩ | ⟨h, _⟩
  rotate_left
  · rw [a3] at h; cases h
  obtain rfl : .slc [.int .i64, .int .i64, .int .i64] = s := by injection hs
  obtain ⟨n, f, rfl, _, hf⟩ := h2.slc_inv
  obtain ⟨x, xs, rfl, p1, h1⟩ := h1.cons_inv
  obtain ⟨y, xs, rfl, p2, h1⟩ := h1.cons_inv
  obtain ⟨z, xs, rfl, p3, h1⟩ := h1.cons_inv
  obtain ⟨u, xs, rfl, p4, h1⟩ := h1.cons_inv
  obtain rfl := h1.nil_inv
  obtain ⟨r, rfl, _, _⟩ := p1.int_inv
  obtain ⟨hh, rfl, _, _⟩ := p2.int_inv
  obtain ⟨d, rfl, _, _⟩ := p3.int_inv
  obtain ⟨m, rfl, _, _⟩ := p4.int_inv
  obtain ⟨x, zs, rfl, p1, h3⟩ := h3.cons_inv
  obtain ⟨y, zs, rfl, p2, h3⟩ := h3.cons_inv
  obtain ⟨z, zs, rfl, p3, h3⟩ := h3.cons_inv
  obtain ⟨u, zs, rfl, p4, h3⟩ := h3.cons_inv
  obtain ⟨v, zs, rfl, p5, h3⟩ := h3.cons_inv
  obtain ⟨w, zs, rfl, p6, h3⟩ := h3.cons_inv
  obtain rfl := h3.nil_inv
  obtain ⟨g, rfl, _, _⟩ := p1.int_inv
  obtain ⟨tick, rfl, _, _⟩ := p2.int_inv
  obtain ⟨a, rfl, _, _⟩ := p3.int_inv
  obtain ⟨b, rfl, _, _⟩ := p4.int_inv
  obtain ⟨before, rfl, _, _⟩ := p5.int_inv
  obtain ⟨today, rfl, _, _⟩ := p6.int_inv
  have ex : ∀ i, ∃ z : Fz, i < n → z.cells = f i := fun i => by
    by_cases hi : i < n
    · obtain ⟨z, hz⟩ := three_inv (hf i hi)
      exact ⟨z, fun _ => hz.symm⟩
    · exact ⟨Fz.zero, fun h => absurd h hi⟩
  exact ⟨⟨r, hh, d, m⟩, fun i => (ex i).choose, n, f, g, tick, a, b, before, today, rfl, fun k hk => (ex k).choose_spec hk⟩
theorem Still.args3 {f : FuncId} {x z r : AVal} {st n : Nat} {h h' : Nat → List AVal} (e : ∀ k, k < n → h' k = h k) (H : Still EE Tryd.prog f [x, .slc st n h', z] r) : Still EE Tryd.prog f [x, .slc st n h, z] r :=
  fun hp => ATr.weaken (args' := [x, .slc st n h', z]) (h' := hp) ⟨.refl _, .slc' e, .refl _, trivial⟩ (fun i => .refl _) (H hp)
theorem law4_all (xs : List AVal) (h : ArgsOk Tryd.prog 10 Tryd.f4.params.toList xs) : Still EE Tryd.prog 4 xs (.bool true) := by
  rw [Tryd.params4] at h
  obtain ⟨w, q, n, f, g, tick, a, b, before, today, rfl, hq⟩ := args_inv h
  refine Still.args3 (h' := fun i => (q i).cells) hq ?_
  exact law4_st sanity_st w q n g tick a b before today
theorem laws_shape : ∀ t ∈ ([23, 24, 28] : List TypeId), (shapeOf Tryd.prog 10 t).isSome = true := by
  intro t ht
  simp only [List.mem_cons, List.not_mem_nil, or_false] at ht
  rcases ht with rfl | rfl | rfl <;> kernel_rfl
theorem glob_ok {W : World} (ht : Lib.TabIs Tryd.prog W "rivermark/calendar.lengths" .i64 [31, 28, 31, 30, 31, 30, 31, 31, 30, 31, 30, 31]) (gT : Tryd.prog.globalNamed "rivermark/calendar.lengths" = some 0) (g : Gh) (hg : ∀ b, b < W.heap.size → g.fz b) (i : Nat) :
    RV g W (EE i) (.pointer (some ⟨i, 0, none⟩)) := by
  unfold EE
  by_cases hi : i = 0
  · subst hi
    rw [if_pos rfl]
    have hc : ∀ j, j < 12 → W.cell? ⟨0, 0 + j, none⟩ = some (.int .i64 (lens j)) := by
      intro j hj
      have := ht.cell gT j (by simpa using hj)
      rw [Nat.zero_add, this]
      have : j = 0 ∨ j = 1 ∨ j = 2 ∨ j = 3 ∨ j = 4 ∨ j = 5 ∨ j = 6 ∨ j = 7 ∨ j = 8 ∨ j = 9 ∨ j = 10 ∨ j = 11 := by omega
      rcases this with rfl | rfl | rfl | rfl | rfl | rfl | rfl | rfl | rfl | rfl | rfl | rfl <;> rfl
    exact .cptr _ 12 0 0 0 (fun j => .int .i64 (lens j)) (hg 0 (cell?_none (hc 0 (by omega))).2) hc (fun j hj => .int _ _)
  · rw [if_neg hi]; exact .top _
end Go.Am
namespace Go.Proofs.YtjmchgpbejldlaaDoor
open Go.ChangeShapes Go.WideShapes Go.ChangeAt Go.RowKit
theorem own : ownKnob Tryd.prog.godebug = none := by kernel_rfl
theorem gTab : Tryd.prog.globalNamed "rivermark/calendar.lengths" = some 0 := by kernel_rfl
theorem gTabType : (Tryd.prog.globals[0]?).map (·.type) = some 132 := by kernel_rfl
theorem cells132 : Tryd.prog.cellsOf 132 = 12 := by kernel_rfl
theorem cells3 : Tryd.prog.cellsOf 3 = 1 := by kernel_rfl
theorem table3 {W : World} (h : laidMetH Tryd.prog Rows.retainCoversRow.laid W) : Lib.TabIs Tryd.prog W "rivermark/calendar.lengths" .i64 [31, 28, 31, 30, 31, 30, 31, 31, 30, 31, 30, 31] :=
  Lib.tabIs_of_head (rest := []) gTab gTabType Tryd.underlying132 Tryd.underlying3 cells3 cells132 h
theorem spec3 {H : Type} : ∀ ds : List (DataW H), ds.length = Tryd.f4.params.toList.length → Rows.retainCoversSpec.fn H ds = { results := [.lit (.bool true)], args := ds } := by
  intro ds h
  rw [Tryd.params4] at h
  match ds, h with
  | [_, _, _], _ => rfl
set_option maxRecDepth 100000 in
theorem contract3 (H : Type) (enc : TypeId × Value → H) (W : World) (base : Nat) (args : Array Value) (ds gs : List (DataW H)) (before : List MemPlace)
    (hval : ∀ (j : Nat) t v, Tryd.f4.params[j]? = some t → args[j]? = some v → Value.okWide Tryd.prog W .any base t v)
    (hW : DataW.Whole enc Tryd.prog Tryd.f4.params.toList Rows.retainCoversSpec.vars false W args.toList ds gs before) (hL : laidMetH Tryd.prog Rows.retainCoversRow.laid W) :
    Calls Tryd.prog 4 args W fun e W' => ∃ v, e = .returned v ∧ Rows.retainCoversSpec.post enc Tryd.prog Tryd.f4 false true false false W args v W' :=
  Am.law_contract (E := Am.EE) (m := 10) (tb := 4) (laid := Rows.retainCoversRow.laid.map id) (by rw [Tryd.params4]; exact Am.laws_shape) (by kernel_rfl) Tryd.underlying4 rfl spec3 (fun g hg i => Am.glob_ok (table3 hL) gTab g hg i) Am.law4_all hval hW
noncomputable def laidWorld (os : Os) : World :=
  { World.holding Tryd.prog os ⟨#[], #[], []⟩ with heap := (World.holding Tryd.prog os ⟨#[], #[], []⟩).heap.modify 0 fun
      | .cells _ t frozen => .cells #[.int .i64 31, .int .i64 28, .int .i64 31, .int .i64 30, .int .i64 31, .int .i64 30, .int .i64 31, .int .i64 31, .int .i64 30, .int .i64 31, .int .i64 30, .int .i64 31] t frozen
      | o => o }
def wit : Array Value := #[.agg #[.int .i64 0, .int .i64 0, .int .i64 0, .int .i64 0], .slice none 0 0, .agg #[.int .i64 0, .int .i64 0, .int .i64 0, .int .i64 0, .int .i64 0, .int .i64 0]]
theorem laid_met (os : Os) : laidMet Tryd.prog Rows.retainCoversRow.laid ((laidWorld os).forCall (fun _ _ => 0) ⟨#[], wit, []⟩).memory :=
  laidMet_of_run' 16 (by kernel_rfl) (by kernel_rfl)
def witD {H : Type} : List (DataW H) := [.agg [.lit (.int .i64 0), .lit (.int .i64 0), .lit (.int .i64 0), .lit (.int .i64 0)], .nil, .agg [.lit (.int .i64 0), .lit (.int .i64 0), .agg [.lit (.int .i64 0), .lit (.int .i64 0)], .lit (.int .i64 0), .lit (.int .i64 0)]]
theorem reads3 (os : Os) {H : Type} (enc : TypeId × Value → H) : ∃ places, DataW.whole enc Tryd.prog ((laidWorld os).forCall (fun _ _ => 0) ⟨#[], wit, []⟩).memory Tryd.f4.params.toList Rows.retainCoversSpec.vars false wit.toList 8 = some (witD, [], places) :=
  ⟨[], by kernel_rfl⟩
set_option maxRecDepth 100000 in
theorem lifted3 (os : Os) (started : os.Started) (H : Type) (enc : TypeId × Value → H) (F : Stop.Interp) :
    ReturnsInHanded {} Tryd.checked os 4 .any ((OpenSpec.ofChange Rows.retainCoversSpec).preRow enc Tryd.prog Tryd.f4 Rows.retainCoversRow.domain false Rows.retainCoversRow.laid) (((OpenSpec.ofChange Rows.retainCoversSpec).at F).post enc Tryd.prog Tryd.f4 false true false false) := by
  obtain ⟨places, hx⟩ := reads3 os enc
  refine returnsInHanded_of_row (C := Tryd.checked) (s := OpenSpec.ofChange Rows.retainCoversSpec) own started (by kernel_rfl) Tryd.func4
    (witness_row_at (enc := enc) (C := Tryd.checked) false (laidWorld os) wit rfl (by kernel_rfl) (by kernel_rfl) (by kernel_rfl)
      (OpenSpec.preRow_of_cond 8 hx (by kernel_rfl) (fun k hk => by cases hk) (by kernel_rfl) (laid_met os))) ?_
  intro W base args ds gs before hval hW _ _ _ hL _ _
  exact contract3 H enc W base args ds gs before hval hW hL
theorem said3 : Rows.RetainCoversSaid :=
  OpenClaim.holds_of_cond 4 Tryd.f4 rfl rfl rfl rfl rfl rfl rfl ⟨rfl, rfl, rfl, rfl, rfl⟩ rfl rfl rfl rfl rfl (by kernel_rfl) Tryd.func4 (by kernel_rfl)
    (of_decide_eq_true (by kernel_rfl)) (by unfold Func.isWrapper; first | (rw [if_pos (by decide +kernel)]; kernel_rfl) | (rw [if_neg (by decide +kernel)]; exact ⟨rfl, rfl⟩))
    (fun os started H enc _ F => by rw [OpenClaim.pre_eq_preRow]; exact lifted3 os started H enc F)
theorem plain3 (f : FuncId) (fn : Func) (hf : Tryd.pinned.checked.prog.funcNamed "rivermark/rivermarklaw25.RetainCovers" = some f) (hfn : Tryd.pinned.checked.prog.funcs[f]? = some fn) :
    false = Tryd.pinned.checked.prog.looks [] ∧ ∀ (j : Nat) t, fn.params[j]? = some t → Tryd.pinned.checked.prog.wantsStandIn t = false := by
  obtain rfl : f = 4 := Option.some.inj ((show Tryd.prog.funcNamed "rivermark/rivermarklaw25.RetainCovers" = some 4 by kernel_rfl).symm.trans hf) |>.symm
  obtain rfl : fn = Tryd.f4 := (Option.some.inj (Tryd.func4.symm.trans hfn)).symm
  refine ⟨by kernel_rfl, fun j t ht => ?_⟩
  rw [Tryd.params4] at ht
  have hm : t ∈ ([23, 24, 28] : List TypeId) := by simpa using Array.mem_of_getElem? ht
  simp only [List.mem_cons, List.not_mem_nil, or_false] at hm
  rcases hm with rfl | rfl | rfl
  · exact (show Tryd.prog.wantsStandIn 23 = false by kernel_rfl)
  · exact (show Tryd.prog.wantsStandIn 24 = false by kernel_rfl)
  · exact (show Tryd.prog.wantsStandIn 28 = false by kernel_rfl)
theorem retainCovers_holds : Rows.RetainCoversCardSaid :=
  Claim7.holds_tied_plain_at .later [] _ _ _ _ said3 (fun _ h => by cases h) (by kernel_rfl) (fun _ h => by cases h) retainCovers_row_tie rfl ⟨rfl, rfl⟩ (by kernel_rfl) rfl plain3 (by kernel_rfl)
end Go.Proofs.YtjmchgpbejldlaaDoor
