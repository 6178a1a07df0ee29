/- For every two sides (histories, spans, levels) and every lag the law function LevelTimesAsSpecified returns true and leaves its arguments as they were. Conditions: none beyond those of the given row, that two tables of Go's own read as their initialisers lay them, which the given tie pays. -/
import Derived.Test.YtomegmhiddbmbaaGreatDoorCards
import Derived.Test.YtomegmhiddbmbaaGreatDoorTie
import Derived.Test.YtomegmhiddbmbaaGreatDoorK1
import Derived.Test.YtomegmhiddbmbaaGreatDoorV1
import Derived.Test.YtomegmhiddbmbaaGreatDoorA4
set_option linter.unusedSimpArgs false
set_option linter.unusedVariables false
namespace Go.Am
open Go.Proofs
theorem rat_inv {N : Nat} {xs : List AVal} (h : kz7 N [.bool, .str, .str] xs) : ∃ z : qza, xs = z.cells := by
  obtain ⟨x, xs, rfl, h1, h⟩ := h.cons_inv
  obtain ⟨y, xs, rfl, h2, h⟩ := h.cons_inv
  obtain ⟨z, xs, rfl, h3, h⟩ := h.cons_inv
  obtain rfl := h.nil_inv
  obtain ⟨a, rfl⟩ := h1.bool_inv
  obtain ⟨b, rfl, _⟩ := h2.str_inv
  obtain ⟨c, rfl, _⟩ := h3.str_inv
  exact ⟨⟨a, b, c⟩, rfl⟩
theorem pt_inv {N : Nat} {xs : List AVal} (h : kz7 N [.int .i64, .bool, .str, .str] xs) : ∃ z : wz2g, xs = z.cells := by
  obtain ⟨x, xs, rfl, h1, h⟩ := h.cons_inv
  obtain ⟨y, xs, rfl, h2, h⟩ := h.cons_inv
  obtain ⟨z, xs, rfl, h3, h⟩ := h.cons_inv
  obtain ⟨w, xs, rfl, h4, h⟩ := h.cons_inv
  obtain rfl := h.nil_inv
  obtain ⟨a, rfl, _, _⟩ := h1.int_inv
  obtain ⟨b, rfl⟩ := h2.bool_inv
  obtain ⟨c, rfl, _⟩ := h3.str_inv
  obtain ⟨d, rfl, _⟩ := h4.str_inv
  exact ⟨⟨a, ⟨b, c, d⟩⟩, rfl⟩
theorem in_inv {N : Nat} {xs : List AVal} (h : kz7 N [.int .i64] xs) : ∃ z : Int, xs = cI .i64 z := by
  obtain ⟨x, xs, rfl, h1, h⟩ := h.cons_inv
  obtain rfl := h.nil_inv
  obtain ⟨a, rfl, _, _⟩ := h1.int_inv
  exact ⟨a, rfl⟩
theorem list_inv {α : Type} [Inhabited α] {c : α → List AVal} {n : Nat} {f : Nat → List AVal} (h : ∀ i, i < n → ∃ z : α, Ws (f i) (c z)) : ∃ l : List α, l.length = n ∧ ∀ k, k < n → Ws (f k) (qzd c l k) := by
  have ex : ∀ i, ∃ z : α, i < n → Ws (f i) (c z) := fun i => by
    by_cases hi : i < n
    · obtain ⟨z, hz⟩ := h i hi
      exact ⟨z, fun _ => hz⟩
    · exact ⟨default, fun h => absurd h hi⟩
  refine ⟨(List.range n).map fun i => (ex i).choose, by simp, fun k hk => ?_⟩
  rw [qzo (x := (ex k).choose) (by simp [hk])]
  exact (ex k).choose_spec hk
theorem slc_ws {α : Type} [Inhabited α] {c : α → List AVal} {st n : Nat} {f : Nat → List AVal} (h : ∀ i, i < n → ∃ z : α, Ws (f i) (c z)) : ∃ l : List α, W (.slc st n f) (slcV st c l) := by
  obtain ⟨l, hl, hk⟩ := list_inv h
  subst hl
  exact ⟨l, qzpo.2 ⟨rfl, rfl, hk⟩⟩
theorem ws_of {xs ys : List AVal} (h : xs = ys) : Ws xs ys := by rw [h]; exact Ws.refl _
theorem span_inv {N : Nat} {xs : List AVal} (h : kz7 N [.int .i64, .int .i64, .bool, .str, .str, .int .i64, .slc [.int .i64, .bool, .str, .str]] xs) : ∃ z : wz2b, Ws xs z.cells := by
  obtain ⟨x1, xs, rfl, h1, h⟩ := h.cons_inv
  obtain ⟨x2, xs, rfl, h2, h⟩ := h.cons_inv
  obtain ⟨x3, xs, rfl, h3, h⟩ := h.cons_inv
  obtain ⟨x4, xs, rfl, h4, h⟩ := h.cons_inv
  obtain ⟨x5, xs, rfl, h5, h⟩ := h.cons_inv
  obtain ⟨x6, xs, rfl, h6, h⟩ := h.cons_inv
  obtain ⟨x7, xs, rfl, h7, h⟩ := h.cons_inv
  obtain rfl := h.nil_inv
  obtain ⟨a1, rfl, _, _⟩ := h1.int_inv
  obtain ⟨a2, rfl, _, _⟩ := h2.int_inv
  obtain ⟨a3, rfl⟩ := h3.bool_inv
  obtain ⟨a4, rfl, _⟩ := h4.str_inv
  obtain ⟨a5, rfl, _⟩ := h5.str_inv
  obtain ⟨a6, rfl, _, _⟩ := h6.int_inv
  obtain ⟨n, f, rfl, _, hf⟩ := h7.slc_inv
  obtain ⟨l, hl⟩ := slc_ws (c := wz2g.cells) (st := 4) (f := f) (n := n) fun i hi => let ⟨z, hz⟩ := pt_inv (hf i hi); ⟨z, ws_of hz⟩
  exact ⟨⟨a1, a2, ⟨a3, a4, a5⟩, a6, ⟨l⟩⟩, .refl _, .refl _, .refl _, .refl _, .refl _, .refl _, hl, trivial⟩
theorem side_inv {N : Nat} {xs : List AVal} (h : kz7 N [.int .i64, .slc [.int .i64], .slc [.int .i64, .int .i64, .bool, .str, .str, .int .i64, .slc [.int .i64, .bool, .str, .str]], .bool, .str, .str] xs) : ∃ z : wz2p, Ws xs z.cells := by
  obtain ⟨x1, xs, rfl, h1, h⟩ := h.cons_inv
  obtain ⟨x2, xs, rfl, h2, h⟩ := h.cons_inv
  obtain ⟨x3, xs, rfl, h3, h⟩ := h.cons_inv
  obtain ⟨x4, xs, rfl, h4, h⟩ := h.cons_inv
  obtain ⟨x5, xs, rfl, h5, h⟩ := h.cons_inv
  obtain ⟨x6, xs, rfl, h6, h⟩ := h.cons_inv
  obtain rfl := h.nil_inv
  obtain ⟨a1, rfl, _, _⟩ := h1.int_inv
  obtain ⟨n, f, rfl, _, hf⟩ := h2.slc_inv
  obtain ⟨m, g, rfl, _, hg⟩ := h3.slc_inv
  obtain ⟨a4, rfl⟩ := h4.bool_inv
  obtain ⟨a5, rfl, _⟩ := h5.str_inv
  obtain ⟨a6, rfl, _⟩ := h6.str_inv
  obtain ⟨l, hl⟩ := slc_ws (c := cI .i64) (st := 1) (f := f) (n := n) fun i hi => let ⟨z, hz⟩ := in_inv (hf i hi); ⟨z, ws_of hz⟩
  obtain ⟨k, hk⟩ := slc_ws (c := wz2b.cells) (st := 7) (f := g) (n := m) fun i hi => span_inv (hg i hi)
  exact ⟨⟨⟨a1, l⟩, k, ⟨a4, a5, a6⟩⟩, .refl _, hl, hk, .refl _, .refl _, .refl _, trivial⟩
set_option maxRecDepth 100000 in
theorem args_inv {xs : List AVal} (h : qzma maxLen Tryz.prog 30 [29, 29, 3] xs) : ∃ (s1 : wz2p) (s2 : wz2p) (n : Int), (-9223372036854775808 ≤ n ∧ n ≤ 9223372036854775807) ∧ Ws xs [.agg s1.cells, .agg s2.cells, .int .i64 n] := by
  match xs, h with
  | [x1, x2, y], ⟨⟨u1, e1, o1⟩, ⟨u2, e2, o2⟩, ⟨tn, fn, on⟩, _⟩ =>
  have t1 : kzd Tryz.prog 30 29 = some [.int .i64, .slc [.int .i64], .slc [.int .i64, .int .i64, .bool, .str, .str, .int .i64, .slc [.int .i64, .bool, .str, .str]], .bool, .str, .str] := by kernel_rfl
  have t2 : kzd Tryz.prog 30 3 = some [.int .i64] := by kernel_rfl
  have a1 : qzgq Tryz.prog 29 = true := by kernel_rfl
  have a2 : qzgq Tryz.prog 3 = false := by kernel_rfl
  obtain rfl := Option.some.inj (t1.symm.trans e1)
  rcases o1 with ⟨_, y1, rfl, h1⟩ | ⟨h, _⟩
  rotate_left
  · rw [a1] at h; cases h
  obtain ⟨s1, hs1⟩ := side_inv h1
  obtain rfl := Option.some.inj (t1.symm.trans e2)
  rcases o2 with ⟨_, y2, rfl, h2⟩ | ⟨h, _⟩
  rotate_left
  · rw [a1] at h; cases h
  obtain ⟨s2, hs2⟩ := side_inv h2
  obtain rfl := Option.some.inj (t2.symm.trans fn)
  rcases on with ⟨h, _⟩ | ⟨_, s, hs, hn⟩
  · rw [a2] at h; cases h
  obtain rfl : .int .i64 = s := by injection hs
  obtain ⟨n, rfl, p1, p2⟩ := hn.int_inv
  have e1 : IntKind.i64.min = -9223372036854775808 := by decide
  have e2 : IntKind.i64.max = 9223372036854775807 := by decide
  rw [e1] at p1
  rw [e2] at p2
  exact ⟨s1, s2, n, ⟨p1, p2⟩, qzqa.2 hs1, qzqa.2 hs2, .refl _, trivial⟩
theorem law_all (xs : List AVal) (h : qzma maxLen Tryz.prog 30 Tryz.f4.params.toList xs) : qzq EE Tryz.prog 4 xs (.bool true) := by
  rw [Tryz.params4] at h
  obtain ⟨s1, s2, n, hn, hw⟩ := args_inv h
  have hk : qzq EE Tryz.prog 4 [.agg s1.cells, .agg s2.cells, .int .i64 n] (.bool true) := yk4.still (x := (s1, s2, n)) (y := true) (jzmf s1 s2 n) (by kernel_rfl)
  exact hk.w hw
theorem laws_shape : ∀ t ∈ ([29, 29, 3] : List TypeId), (kzd Tryz.prog 30 t).isSome = true := by
  intro t ht
  simp only [List.mem_cons, List.not_mem_nil, or_false] at ht
  rcases ht with rfl | rfl | rfl <;> kernel_rfl
end Go.Am
namespace Go.Proofs.YtomegmhiddbmbaaGreatDoor
open Go.ChangeShapes Go.WideShapes Go.ChangeAt Go.RowKit
theorem own : ownKnob Tryz.prog.godebug = none := by kernel_rfl
theorem spec3 {H : Type} : ∀ ds : List (DataW H), ds.length = Tryz.f4.params.toList.length → Rows.levelTimesAsSpecifiedSpec.fn H ds = { results := [.lit (.bool true)], args := ds } := by
  intro ds h
  rw [Tryz.params4] at h
  match ds, h with
  | [_, _, _], _ => rfl
set_option maxRecDepth 100000 in
theorem contract3 (H : Type) (enc : TypeId × Value → H) (W : World) (base : Nat) (args : Array Value) (ds gs : List (DataW H)) (before : List MemPlace)
    (hval : ∀ (j : Nat) t v, Tryz.f4.params[j]? = some t → args[j]? = some v → Value.okWide Tryz.prog W .any base t v)
    (hW : DataW.Whole enc Tryz.prog Tryz.f4.params.toList Rows.levelTimesAsSpecifiedSpec.vars false W args.toList ds gs before) :
    Calls Tryz.prog 4 args W fun e W' => ∃ v, e = .returned v ∧ Rows.levelTimesAsSpecifiedSpec.post enc Tryz.prog Tryz.f4 false true false false W args v W' :=
  Am.law_contract (E := Am.EE) (m := 30) (tb := 4) (laid := Rows.levelTimesAsSpecifiedRow.laid.map id) (by rw [Tryz.params4]; exact Am.laws_shape) (by kernel_rfl) Tryz.underlying4 rfl spec3 (fun g hg i => .top _) (.inl (Nat.le_refl _)) Am.law_all hval hW
def lay (l : List Nat) : Obj → Obj
  | .cells _ t frozen => .cells (l.map fun n : Nat => Value.int .u8 (n : Int)).toArray t frozen
  | o => o
noncomputable def laidWorld (os : Os) : World :=
  { World.holding Tryz.prog os ⟨#[], #[], []⟩ with heap := ((World.holding Tryz.prog os ⟨#[], #[], []⟩).heap.modify 0 (lay Go.Pinned.utf8FirstZ)).modify 1 (lay [128, 191, 160, 191, 128, 159, 144, 191, 128, 143, 0, 0, 0, 0, 0, 0, 0, 0, 0, 0, 0, 0, 0, 0, 0, 0, 0, 0, 0, 0, 0, 0]) }
def wit : Array Value := #[.agg #[.int .i64 0, .slice none 0 0, .slice none 0 0, .bool false, .string (ByteArray.mk #[]), .string (ByteArray.mk #[])], .agg #[.int .i64 0, .slice none 0 0, .slice none 0 0, .bool false, .string (ByteArray.mk #[]), .string (ByteArray.mk #[])], .int .i64 0]
set_option maxRecDepth 100000 in
theorem laid_met (os : Os) : laidMet Tryz.prog Rows.levelTimesAsSpecifiedRow.laid ((laidWorld os).forCall (fun _ _ => 0) ⟨#[], wit, []⟩).memory :=
  laidMet_of_run' 300 (by kernel_rfl) (by kernel_rfl)
def witD {H : Type} : List (DataW H) := [.agg [.agg [.lit (.int .i64 0), .nil], .nil, .agg [.lit (.bool false), .lit (.string []), .lit (.string [])]], .agg [.agg [.lit (.int .i64 0), .nil], .nil, .agg [.lit (.bool false), .lit (.string []), .lit (.string [])]], .lit (.int .i64 0)]
theorem reads3 (os : Os) {H : Type} (enc : TypeId × Value → H) : ∃ places, DataW.whole enc Tryz.prog ((laidWorld os).forCall (fun _ _ => 0) ⟨#[], wit, []⟩).memory Tryz.f4.params.toList Rows.levelTimesAsSpecifiedSpec.vars false wit.toList 8 = some (witD, [], places) :=
  ⟨[], by kernel_rfl⟩
set_option maxRecDepth 100000 in
theorem lifted3 (os : Os) (started : os.Started) (H : Type) (enc : TypeId × Value → H) (F : Stop.Interp) :
    ReturnsInHanded {} Tryz.checked os 4 .any ((OpenSpec.ofChange Rows.levelTimesAsSpecifiedSpec).preRow enc Tryz.prog Tryz.f4 Rows.levelTimesAsSpecifiedRow.domain false Rows.levelTimesAsSpecifiedRow.laid) (((OpenSpec.ofChange Rows.levelTimesAsSpecifiedSpec).at F).post enc Tryz.prog Tryz.f4 false true false false) := by
  obtain ⟨places, hx⟩ := reads3 os enc
  refine returnsInHanded_of_row (C := Tryz.checked) (s := OpenSpec.ofChange Rows.levelTimesAsSpecifiedSpec) own started (by kernel_rfl) Tryz.func4
    (witness_row_at (enc := enc) (C := Tryz.checked) false (laidWorld os) wit rfl (by kernel_rfl) (by kernel_rfl) (by kernel_rfl)
      (OpenSpec.preRow_of_cond 8 hx (by kernel_rfl) (fun k hk => by cases hk) (by kernel_rfl) (laid_met os))) ?_
  intro W base args ds gs before hval hW _ _ _ hL _ _
  exact contract3 H enc W base args ds gs before hval hW
theorem said3 : Rows.LevelTimesAsSpecifiedSaid :=
  OpenClaim.holds_of_cond 4 Tryz.f4 rfl rfl rfl rfl rfl rfl rfl ⟨rfl, rfl, rfl, rfl, rfl⟩ rfl rfl rfl rfl rfl (by kernel_rfl) Tryz.func4 (by kernel_rfl)
    (of_decide_eq_true (by kernel_rfl)) (by unfold Func.isWrapper; first | (rw [if_pos (by decide +kernel)]; kernel_rfl) | (rw [if_neg (by decide +kernel)]; exact ⟨rfl, rfl⟩))
    (fun os started H enc _ F => by rw [OpenClaim.pre_eq_preRow]; exact lifted3 os started H enc F)
theorem plain3 (f : FuncId) (fn : Func) (hf : Tryz.pinned.checked.prog.funcNamed "rivermark/rivermarklaw18.LevelTimesAsSpecified" = some f) (hfn : Tryz.pinned.checked.prog.funcs[f]? = some fn) :
    false = Tryz.pinned.checked.prog.looks [] ∧ ∀ (j : Nat) t, fn.params[j]? = some t → Tryz.pinned.checked.prog.wantsStandIn t = false := by
  obtain rfl : f = 4 := Option.some.inj ((show Tryz.prog.funcNamed "rivermark/rivermarklaw18.LevelTimesAsSpecified" = some 4 by kernel_rfl).symm.trans hf) |>.symm
  obtain rfl : fn = Tryz.f4 := (Option.some.inj (Tryz.func4.symm.trans hfn)).symm
  refine ⟨by kernel_rfl, fun j t ht => ?_⟩
  rw [Tryz.params4] at ht
  have hm : t ∈ ([29, 29, 3] : List TypeId) := by simpa using Array.mem_of_getElem? ht
  simp only [List.mem_cons, List.not_mem_nil, or_false] at hm
  rcases hm with rfl | rfl | rfl
  · exact (show Tryz.prog.wantsStandIn 29 = false by kernel_rfl)
  · exact (show Tryz.prog.wantsStandIn 29 = false by kernel_rfl)
  · exact (show Tryz.prog.wantsStandIn 3 = false by kernel_rfl)
theorem levelTimesAsSpecified_holds : Rows.LevelTimesAsSpecifiedCardSaid :=
  Claim7.holds_tied_plain_at .later [] _ _ _ _ said3 (fun _ h => by cases h) (by kernel_rfl) (fun _ h => by cases h) levelTimesAsSpecified_row_tie rfl ⟨rfl, rfl⟩ (by kernel_rfl) rfl plain3 (by kernel_rfl)
end Go.Proofs.YtomegmhiddbmbaaGreatDoor

