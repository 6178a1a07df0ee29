/- For all arguments the law function RetainByStages returns true and leaves its arguments as they were. Conditions: none beyond those of the given row, that tables of Go's own read as their initialisers lay them, which the given tie pays. -/
import Derived.Test.YtjlgleghnenojaaDoorCards
import Derived.Test.YtjlgleghnenojaaDoorTie
import Derived.Test.YtjlgleghnenojaaDoorK1
import Derived.Test.YtjlgleghnenojaaDoorU3
import Derived.Test.YtjlgleghnenojaaDoorA4
set_option linter.unusedSimpArgs false
set_option linter.unusedVariables false
namespace Go.Am
open Go.Proofs
abbrev Z (a : Int) : Prop := -9223372036854775808 ≤ a ∧ a ≤ 9223372036854775807
theorem ci {N : Nat} {s : List Sh} {xs : List AVal} (h : kz7 N (.int .i64 :: s) xs) : ∃ a ys, xs = .int .i64 a :: ys ∧ Z a ∧ kz7 N s ys := by
  obtain ⟨x, ys, rfl, h1, h2⟩ := h.cons_inv
  obtain ⟨a, rfl, p, q⟩ := h1.int_inv
  simp only [IntKind.min, IntKind.max, IntKind.signed, IntKind.bits] at p q
  exact ⟨a, ys, rfl, ⟨by first | exact p | exact Int.le_trans (by decide) p, by first | exact q | exact Int.le_trans q (by decide)⟩, h2⟩
theorem list_inv {α : Type} [Inhabited α] {c : α → List AVal} {Q : α → Prop} {n : Nat} {f : Nat → List AVal} (h : ∀ i, i < n → ∃ z : α, Ws (f i) (c z) ∧ Q z) : ∃ l : List α, l.length = n ∧ (∀ k, k < n → Ws (f k) (qzd c l k)) ∧ ∀ x, x ∈ l → Q x := by
  have ex : ∀ i, ∃ z : α, i < n → Ws (f i) (c z) ∧ Q z := fun i => by
    by_cases hi : i < n
    · obtain ⟨z, hz⟩ := h i hi
      exact ⟨z, fun _ => hz⟩
    · exact ⟨default, fun h => absurd h hi⟩
  refine ⟨(List.range n).map fun i => (ex i).choose, by simp, fun k hk => ?_, fun x hx => ?_⟩
  · rw [qzo (x := (ex k).choose) (by simp [hk])]
    exact ((ex k).choose_spec hk).1
  · obtain ⟨i, hi, rfl⟩ := List.mem_map.1 hx
    exact ((ex i).choose_spec (List.mem_range.1 hi)).2
theorem slc_ws {α : Type} [Inhabited α] {c : α → List AVal} {Q : α → Prop} {st n : Nat} {f : Nat → List AVal} (h : ∀ i, i < n → ∃ z : α, Ws (f i) (c z) ∧ Q z) : ∃ l : List α, W (.slc st n f) (slcV st c l) ∧ l.length = n ∧ ∀ x, x ∈ l → Q x := by
  obtain ⟨l, hl, hk, hq⟩ := list_inv h
  subst hl
  exact ⟨l, qzpo.2 ⟨rfl, rfl, hk⟩, rfl, hq⟩
theorem i_T3 {N : Nat} {xs : List AVal} (h : kz7 N [.int .i64] xs) : ∃ z : Int, Ws xs ((cI .i64) z) ∧ Z z := by
  obtain ⟨x1, xs, rfl, h1, h⟩ := h.cons_inv
  obtain rfl := h.nil_inv
  obtain ⟨a, rfl, p, q⟩ := h1.int_inv
  simp only [IntKind.min, IntKind.max, IntKind.signed, IntKind.bits] at p q
  exact ⟨a, ⟨.refl _, trivial⟩, by first | exact p | exact Int.le_trans (by decide) p, by first | exact q | exact Int.le_trans q (by decide)⟩
def B_api_History (N : Nat) (z : wz2c) : Prop := Z z.From ∧ (z.Stages.length ≤ N ∧ ∀ x, x ∈ z.Stages → Z x)
theorem i_api_History {N : Nat} {xs : List AVal} (h : kz7 N [.int .i64, .slc [.int .i64]] xs) : ∃ z : wz2c, Ws xs z.cells ∧ B_api_History N z := by
  obtain ⟨a1, xs, rfl, p1, h⟩ := ci h
  obtain ⟨x2, xs, rfl, h2, h⟩ := h.cons_inv
  obtain rfl := h.nil_inv
  obtain ⟨n2, f2, rfl, m2, g2⟩ := h2.slc_inv
  obtain ⟨a2, w2, k2, j2⟩ := slc_ws (c := (cI .i64)) (st := 1) (f := f2) (n := n2) (Q := fun x => Z x) fun i hi => i_T3 (g2 i hi)
  exact ⟨⟨a1, a2⟩, ⟨.refl _, w2, trivial⟩, ⟨p1, ⟨Nat.le_trans (Nat.le_of_eq k2) m2, j2⟩⟩⟩
def B_api_Law (N : Nat) (z : kzhx) : Prop := Z z.Raw ∧ Z z.Hour ∧ Z z.Day ∧ Z z.Month
theorem i_api_Law {N : Nat} {xs : List AVal} (h : kz7 N [.int .i64, .int .i64, .int .i64, .int .i64] xs) : ∃ z : kzhx, Ws xs z.cells ∧ B_api_Law N z := by
  obtain ⟨a1, xs, rfl, p1, h⟩ := ci h
  obtain ⟨a2, xs, rfl, p2, h⟩ := ci h
  obtain ⟨a3, xs, rfl, p3, h⟩ := ci h
  obtain ⟨a4, xs, rfl, p4, h⟩ := ci h
  obtain rfl := h.nil_inv
  exact ⟨⟨a1, a2, a3, a4⟩, ⟨.refl _, .refl _, .refl _, .refl _, trivial⟩, ⟨p1, p2, p3, p4⟩⟩
def B_api_Freeze (N : Nat) (z : kzhv) : Prop := Z z.Gauge ∧ Z z.From ∧ Z z.To
theorem i_api_Freeze {N : Nat} {xs : List AVal} (h : kz7 N [.int .i64, .int .i64, .int .i64] xs) : ∃ z : kzhv, Ws xs z.cells ∧ B_api_Freeze N z := by
  obtain ⟨a1, xs, rfl, p1, h⟩ := ci h
  obtain ⟨a2, xs, rfl, p2, h⟩ := ci h
  obtain ⟨a3, xs, rfl, p3, h⟩ := ci h
  obtain rfl := h.nil_inv
  exact ⟨⟨a1, a2, a3⟩, ⟨.refl _, .refl _, .refl _, trivial⟩, ⟨p1, p2, p3⟩⟩
def B_law25_Days (N : Nat) (z : kzh0) : Prop := (z.Freezes.length ≤ N ∧ ∀ x, x ∈ z.Freezes → B_api_Freeze N x) ∧ Z z.Gauge ∧ Z z.Before ∧ Z z.Today
theorem i_law25_Days {N : Nat} {xs : List AVal} (h : kz7 N [.slc [.int .i64, .int .i64, .int .i64], .int .i64, .int .i64, .int .i64] xs) : ∃ z : kzh0, Ws xs z.cells ∧ B_law25_Days N z := by
  obtain ⟨x1, xs, rfl, h1, h⟩ := h.cons_inv
  obtain ⟨a2, xs, rfl, p2, h⟩ := ci h
  obtain ⟨a3, xs, rfl, p3, h⟩ := ci h
  obtain ⟨a4, xs, rfl, p4, h⟩ := ci h
  obtain rfl := h.nil_inv
  obtain ⟨n1, f1, rfl, m1, g1⟩ := h1.slc_inv
  obtain ⟨a1, w1, k1, j1⟩ := slc_ws (c := kzhv.cells) (st := 3) (f := f1) (n := n1) (Q := fun x => B_api_Freeze N x) fun i hi => i_api_Freeze (g1 i hi)
  exact ⟨⟨a1, a2, a3, a4⟩, ⟨w1, .refl _, .refl _, .refl _, trivial⟩, ⟨⟨Nat.le_trans (Nat.le_of_eq k1) m1, j1⟩, p2, p3, p4⟩⟩
set_option maxRecDepth 100000 in
theorem args_inv {xs : List AVal} (h : qzma maxLen Tryd.prog 30 [24, 26, 29] xs) : ∃ (a1 : wz2c) (a2 : kzhx) (a3 : kzh0), Ws xs [.agg a1.cells, .agg a2.cells, .agg a3.cells] ∧ B_api_History maxLen a1 ∧ B_api_Law maxLen a2 ∧ B_law25_Days maxLen a3 := by
  match xs, h with
  | [x1, x2, x3], ⟨⟨u1, e1, o1⟩, ⟨u2, e2, o2⟩, ⟨u3, e3, o3⟩, _⟩ =>
  have t24 : kzd Tryd.prog 30 24 = some [.int .i64, .slc [.int .i64]] := by kernel_rfl
  have g24 : qzgq Tryd.prog 24 = true := by kernel_rfl
  have t26 : kzd Tryd.prog 30 26 = some [.int .i64, .int .i64, .int .i64, .int .i64] := by kernel_rfl
  have g26 : qzgq Tryd.prog 26 = true := by kernel_rfl
  have t29 : kzd Tryd.prog 30 29 = some [.slc [.int .i64, .int .i64, .int .i64], .int .i64, .int .i64, .int .i64] := by kernel_rfl
  have g29 : qzgq Tryd.prog 29 = true := by kernel_rfl
  obtain rfl := Option.some.inj (t24.symm.trans e1)
  rcases o1 with ⟨_, y1, rfl, h1⟩ | ⟨h, _⟩
  rotate_left
  · rw [g24] at h; cases h
  obtain ⟨s1, w1, b1⟩ := i_api_History h1
  obtain rfl := Option.some.inj (t26.symm.trans e2)
  rcases o2 with ⟨_, y2, rfl, h2⟩ | ⟨h, _⟩
  rotate_left
  · rw [g26] at h; cases h
  obtain ⟨s2, w2, b2⟩ := i_api_Law h2
  obtain rfl := Option.some.inj (t29.symm.trans e3)
  rcases o3 with ⟨_, y3, rfl, h3⟩ | ⟨h, _⟩
  rotate_left
  · rw [g29] at h; cases h
  obtain ⟨s3, w3, b3⟩ := i_law25_Days h3
  exact ⟨s1, s2, s3, ⟨qzqa.2 w1, qzqa.2 w2, qzqa.2 w3, trivial⟩, b1, b2, b3⟩
theorem law_all (xs : List AVal) (h : qzma maxLen Tryd.prog 30 Tryd.f3.params.toList xs) : qzq EE Tryd.prog 3 xs (.bool true) := by
  rw [Tryd.params3] at h
  obtain ⟨a1, a2, a3, hw, b1, b2, b3⟩ := args_inv h
  have hk : qzq EE Tryd.prog 3 [.agg a1.cells, .agg a2.cells, .agg a3.cells] (.bool true) := yk3.still (x := (a1, a2, a3)) (y := true) (kzts a1 a2 a3) (by kernel_rfl)
  exact hk.w hw
theorem laws_shape : ∀ t ∈ ([24, 26, 29] : List TypeId), (kzd Tryd.prog 30 t).isSome = true := by
  intro t ht
  simp only [List.mem_cons, List.not_mem_nil, or_false] at ht
  rcases ht with rfl | rfl | rfl <;> kernel_rfl
theorem glob_ok {W : World} (ht : Lib.TabIs Tryd.prog W "rivermark/calendar.lengths" .i64 [31, 28, 31, 30, 31, 30, 31, 31, 30, 31, 30, 31]) (gT : Tryd.prog.globalNamed "rivermark/calendar.lengths" = some 0) (g : Gh) (hg : ∀ b, b < W.heap.size → g.fz b) (i : Nat) :
    RV g W (EE i) (.pointer (some ⟨i, 0, none⟩)) := by
  unfold EE
  by_cases hi : i = 0
  · subst hi
    rw [if_pos rfl]
    have hc : ∀ j, j < 12 → W.cell? ⟨0, 0 + j, none⟩ = some (.int .i64 (kzmt j)) := by
      intro j hj
      have := ht.cell gT j (by simpa using hj)
      rw [Nat.zero_add, this]
      have : j = 0 ∨ j = 1 ∨ j = 2 ∨ j = 3 ∨ j = 4 ∨ j = 5 ∨ j = 6 ∨ j = 7 ∨ j = 8 ∨ j = 9 ∨ j = 10 ∨ j = 11 := by omega
      rcases this with rfl | rfl | rfl | rfl | rfl | rfl | rfl | rfl | rfl | rfl | rfl | rfl <;> rfl
    exact .cptr _ 12 0 0 0 (fun j => .int .i64 (kzmt j)) (hg 0 (qzpt (hc 0 (by omega))).2) hc (fun j hj => .int _ _)
  · rw [if_neg hi]; exact .top _
end Go.Am
namespace Go.Proofs.YtjlgleghnenojaaDoor
open Go.ChangeShapes Go.WideShapes Go.ChangeAt Go.RowKit
theorem own : ownKnob Tryd.prog.godebug = none := by kernel_rfl
theorem gTab : Tryd.prog.globalNamed "rivermark/calendar.lengths" = some 0 := by kernel_rfl
theorem gTabType : (Tryd.prog.globals[0]?).map (·.type) = some 120 := by kernel_rfl
theorem cells120 : Tryd.prog.cellsOf 120 = 12 := by kernel_rfl
theorem cells3 : Tryd.prog.cellsOf 3 = 1 := by kernel_rfl
theorem table3 {W : World} (h : laidMetH Tryd.prog Rows.retainByStagesRow.laid W) : Lib.TabIs Tryd.prog W "rivermark/calendar.lengths" .i64 [31, 28, 31, 30, 31, 30, 31, 31, 30, 31, 30, 31] :=
  Lib.tabIs_of_head (rest := []) gTab gTabType Tryd.underlying120 Tryd.underlying3 cells3 cells120 h
theorem spec3 {H : Type} : ∀ ds : List (DataW H), ds.length = Tryd.f3.params.toList.length → Rows.retainByStagesSpec.fn H ds = { results := [.lit (.bool true)], args := ds } := by
  intro ds h
  rw [Tryd.params3] at h
  match ds, h with
  | [_, _, _], _ => rfl
set_option maxRecDepth 100000 in
theorem contract3 (H : Type) (enc : TypeId × Value → H) (W : World) (base : Nat) (args : Array Value) (ds gs : List (DataW H)) (before : List MemPlace)
    (hval : ∀ (j : Nat) t v, Tryd.f3.params[j]? = some t → args[j]? = some v → Value.okWide Tryd.prog W .any base t v)
    (hW : DataW.Whole enc Tryd.prog Tryd.f3.params.toList Rows.retainByStagesSpec.vars false W args.toList ds gs before) (hL : laidMetH Tryd.prog Rows.retainByStagesRow.laid W) :
    Calls Tryd.prog 3 args W fun e W' => ∃ v, e = .returned v ∧ Rows.retainByStagesSpec.post enc Tryd.prog Tryd.f3 false true false false W args v W' :=
  Am.law_contract (E := Am.EE) (N := maxLen) (m := 30) (tb := 4) (laid := Rows.retainByStagesRow.laid.map id) (by rw [Tryd.params3]; exact Am.laws_shape) (by kernel_rfl) Tryd.underlying4 rfl spec3 (fun g hg i => Am.glob_ok (table3 hL) gTab g hg i) (.inl (Nat.le_refl _)) Am.law_all hval hW
noncomputable def laidWorld (os : Os) : World :=
  { World.holding Tryd.prog os ⟨#[], #[], []⟩ with heap := (World.holding Tryd.prog os ⟨#[], #[], []⟩).heap.modify 0 fun
      | .cells _ t frozen => .cells #[.int .i64 31, .int .i64 28, .int .i64 31, .int .i64 30, .int .i64 31, .int .i64 30, .int .i64 31, .int .i64 31, .int .i64 30, .int .i64 31, .int .i64 30, .int .i64 31] t frozen
      | o => o }
def wit : Array Value := #[.agg #[.int .i64 0, .slice none 0 0], .agg #[.int .i64 0, .int .i64 0, .int .i64 0, .int .i64 0], .agg #[.slice none 0 0, .int .i64 0, .int .i64 0, .int .i64 0]]
set_option maxRecDepth 100000 in
theorem laid_met (os : Os) : laidMet Tryd.prog Rows.retainByStagesRow.laid ((laidWorld os).forCall (fun _ _ => 0) ⟨#[], wit, []⟩).memory :=
  laidMet_of_run' 16 (by kernel_rfl) (by kernel_rfl)
def witD {H : Type} : List (DataW H) := [.agg [.lit (.int .i64 0), .nil], .agg [.lit (.int .i64 0), .lit (.int .i64 0), .lit (.int .i64 0), .lit (.int .i64 0)], .agg [.nil, .lit (.int .i64 0), .lit (.int .i64 0), .lit (.int .i64 0)]]
theorem reads3 (os : Os) {H : Type} (enc : TypeId × Value → H) : ∃ places, DataW.whole enc Tryd.prog ((laidWorld os).forCall (fun _ _ => 0) ⟨#[], wit, []⟩).memory Tryd.f3.params.toList Rows.retainByStagesSpec.vars false wit.toList 8 = some (witD, [], places) :=
  ⟨[], by kernel_rfl⟩
set_option maxRecDepth 100000 in
theorem lifted3 (os : Os) (started : os.Started) (H : Type) (enc : TypeId × Value → H) (F : Stop.Interp) :
    ReturnsInHanded {} Tryd.checked os 3 .any ((OpenSpec.ofChange Rows.retainByStagesSpec).preRow enc Tryd.prog Tryd.f3 Rows.retainByStagesRow.domain false Rows.retainByStagesRow.laid) (((OpenSpec.ofChange Rows.retainByStagesSpec).at F).post enc Tryd.prog Tryd.f3 false true false false) := by
  obtain ⟨places, hx⟩ := reads3 os enc
  refine returnsInHanded_of_row (C := Tryd.checked) (s := OpenSpec.ofChange Rows.retainByStagesSpec) own started (by kernel_rfl) Tryd.func3
    (witness_row_at (enc := enc) (C := Tryd.checked) false (laidWorld os) wit rfl (by kernel_rfl) (by kernel_rfl) (by kernel_rfl)
      (OpenSpec.preRow_of_cond 8 hx (by kernel_rfl) (fun k hk => by cases hk) (by kernel_rfl) (laid_met os))) ?_
  intro W base args ds gs before hval hW _ _ _ hL _ _
  exact contract3 H enc W base args ds gs before hval hW hL
theorem said3 : Rows.RetainByStagesSaid :=
  OpenClaim.holds_of_cond 3 Tryd.f3 rfl rfl rfl rfl rfl rfl rfl ⟨rfl, rfl, rfl, rfl, rfl⟩ rfl rfl rfl rfl rfl (by kernel_rfl) Tryd.func3 (by kernel_rfl)
    (of_decide_eq_true (by kernel_rfl)) (by unfold Func.isWrapper; first | (rw [if_pos (by decide +kernel)]; kernel_rfl) | (rw [if_neg (by decide +kernel)]; exact ⟨rfl, rfl⟩))
    (fun os started H enc _ F => by rw [OpenClaim.pre_eq_preRow]; exact lifted3 os started H enc F)
theorem plain3 (f : FuncId) (fn : Func) (hf : Tryd.pinned.checked.prog.funcNamed "rivermark/rivermarklaw25.RetainByStages" = some f) (hfn : Tryd.pinned.checked.prog.funcs[f]? = some fn) :
    false = Tryd.pinned.checked.prog.looks [] ∧ ∀ (j : Nat) t, fn.params[j]? = some t → Tryd.pinned.checked.prog.wantsStandIn t = false := by
  obtain rfl : f = 3 := Option.some.inj ((show Tryd.prog.funcNamed "rivermark/rivermarklaw25.RetainByStages" = some 3 by kernel_rfl).symm.trans hf) |>.symm
  obtain rfl : fn = Tryd.f3 := (Option.some.inj (Tryd.func3.symm.trans hfn)).symm
  refine ⟨by kernel_rfl, fun j t ht => ?_⟩
  rw [Tryd.params3] at ht
  have hm : t ∈ ([24, 26, 29] : List TypeId) := by simpa using Array.mem_of_getElem? ht
  simp only [List.mem_cons, List.not_mem_nil, or_false] at hm
  rcases hm with rfl | rfl | rfl
  · exact (show Tryd.prog.wantsStandIn 24 = false by kernel_rfl)
  · exact (show Tryd.prog.wantsStandIn 26 = false by kernel_rfl)
  · exact (show Tryd.prog.wantsStandIn 29 = false by kernel_rfl)
theorem retainByStages_holds : Rows.RetainByStagesCardSaid :=
  Claim7.holds_tied_plain_at .later [] _ _ _ _ said3 (fun _ h => by cases h) (by kernel_rfl) (fun _ h => by cases h) retainByStages_row_tie rfl ⟨rfl, rfl⟩ (by kernel_rfl) rfl plain3 (by kernel_rfl)
end Go.Proofs.YtjlgleghnenojaaDoor

