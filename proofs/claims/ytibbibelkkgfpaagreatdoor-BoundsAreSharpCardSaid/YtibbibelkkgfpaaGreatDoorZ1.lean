/- For all arguments the law function BoundsAreSharp returns true and leaves its arguments as they were. Conditions: none beyond those of the given row, that tables of Go's own read as their initialisers lay them, which the given tie pays. -/
import Derived.Test.YtibbibelkkgfpaaGreatDoorCards
import Derived.Test.YtibbibelkkgfpaaGreatDoorTie
import Derived.Test.YtibbibelkkgfpaaGreatDoorK1
import Derived.Test.YtibbibelkkgfpaaGreatDoorV4
import Derived.Test.YtibbibelkkgfpaaGreatDoorA4
set_option linter.unusedSimpArgs false
set_option linter.unusedVariables false
namespace Go.Am
open Go.Proofs
abbrev Z (a : Int) : Prop := -9223372036854775808 ≤ a ∧ a ≤ 9223372036854775807
theorem ci {N : Nat} {s : List Sh} {xs : List Aa} (h : Ch N (.int .i64 :: s) xs) : ∃ a ys, xs = .int .i64 a :: ys ∧ Z a ∧ Ch N s ys := by
  obtain ⟨x, ys, rfl, h1, h2⟩ := h.cons_inv
  obtain ⟨a, rfl, p, q⟩ := h1.int_inv
  simp only [IntKind.min, IntKind.max, IntKind.signed, IntKind.bits] at p q
  exact ⟨a, ys, rfl, ⟨by first | exact p | exact Int.le_trans (by decide) p, by first | exact q | exact Int.le_trans q (by decide)⟩, h2⟩
theorem list_inv {α : Type} [Inhabited α] {c : α → List Aa} {Q : α → Prop} {n : Nat} {f : Nat → List Aa} (h : ∀ i, i < n → ∃ z : α, Ws (f i) (c z) ∧ Q z) : ∃ l : List α, l.length = n ∧ (∀ k, k < n → Ws (f k) (Ai c l k)) ∧ ∀ x, x ∈ l → Q x := by
  have ex : ∀ i, ∃ z : α, i < n → Ws (f i) (c z) ∧ Q z := fun i => by
    by_cases hi : i < n
    · obtain ⟨z, hz⟩ := h i hi
      exact ⟨z, fun _ => hz⟩
    · exact ⟨default, fun h => absurd h hi⟩
  refine ⟨(List.range n).map fun i => (ex i).choose, by simp, fun k hk => ?_, fun x hx => ?_⟩
  · rw [Bb (x := (ex k).choose) (by simp [hk])]
    exact ((ex k).choose_spec hk).1
  · obtain ⟨i, hi, rfl⟩ := List.mem_map.1 hx
    exact ((ex i).choose_spec (List.mem_range.1 hi)).2
theorem slc_ws {α : Type} [Inhabited α] {c : α → List Aa} {Q : α → Prop} {st n : Nat} {f : Nat → List Aa} (h : ∀ i, i < n → ∃ z : α, Ws (f i) (c z) ∧ Q z) : ∃ l : List α, W (.slc st n f) (slcV st c l) ∧ l.length = n ∧ ∀ x, x ∈ l → Q x := by
  obtain ⟨l, hl, hk, hq⟩ := list_inv h
  subst hl
  exact ⟨l, JQ.2 ⟨rfl, rfl, hk⟩, rfl, hq⟩
def B_api_Hold (N : Nat) (z : AM) : Prop := Z z.Stage ∧ Z z.Ticks
theorem i_api_Hold {N : Nat} {xs : List Aa} (h : Ch N [.int .i64, .int .i64] xs) : ∃ z : AM, Ws xs z.cells ∧ B_api_Hold N z := by
  obtain ⟨a1, xs, rfl, p1, h⟩ := ci h
  obtain ⟨a2, xs, rfl, p2, h⟩ := ci h
  obtain rfl := h.nil_inv
  exact ⟨⟨a1, a2⟩, ⟨.refl _, .refl _, trivial⟩, ⟨p1, p2⟩⟩
def B_api_Run (N : Nat) (z : Al) : Prop := Z z.From ∧ Z z.To ∧ (z.Table.length ≤ N ∧ ∀ x, x ∈ z.Table → B_api_Hold N x) ∧ Z z.Lo ∧ Z z.Hi
theorem i_api_Run {N : Nat} {xs : List Aa} (h : Ch N [.int .i64, .int .i64, .slc [.int .i64, .int .i64], .int .i64, .int .i64] xs) : ∃ z : Al, Ws xs z.cells ∧ B_api_Run N z := by
  obtain ⟨a1, xs, rfl, p1, h⟩ := ci h
  obtain ⟨a2, xs, rfl, p2, h⟩ := ci h
  obtain ⟨x3, xs, rfl, h3, h⟩ := h.cons_inv
  obtain ⟨a4, xs, rfl, p4, h⟩ := ci h
  obtain ⟨a5, xs, rfl, p5, h⟩ := ci h
  obtain rfl := h.nil_inv
  obtain ⟨n3, f3, rfl, m3, g3⟩ := h3.slc_inv
  obtain ⟨a3, w3, k3, j3⟩ := slc_ws (c := AM.cells) (st := 2) (f := f3) (n := n3) (Q := fun x => B_api_Hold N x) fun i hi => i_api_Hold (g3 i hi)
  exact ⟨⟨a1, a2, a3, a4, a5⟩, ⟨.refl _, .refl _, w3, .refl _, .refl _, trivial⟩, ⟨p1, p2, ⟨Nat.le_trans (Nat.le_of_eq k3) m3, j3⟩, p4, p5⟩⟩
theorem i_T22 {N : Nat} {xs : List Aa} (h : Ch N [.slc [.int .i64, .int .i64, .slc [.int .i64, .int .i64], .int .i64, .int .i64]] xs) : ∃ z : List Al, Ws xs ((cL 5 Al.cells) z) ∧ (z.length ≤ N ∧ ∀ x, x ∈ z → B_api_Run N x) := by
  obtain ⟨x1, xs, rfl, h1, h⟩ := h.cons_inv
  obtain rfl := h.nil_inv
  obtain ⟨n, f, rfl, m, g⟩ := h1.slc_inv
  obtain ⟨a, w, k, j⟩ := slc_ws (c := Al.cells) (st := 5) (f := f) (n := n) (Q := fun x => B_api_Run N x) fun i hi => i_api_Run (g i hi)
  exact ⟨a, ⟨w, trivial⟩, ⟨Nat.le_trans (Nat.le_of_eq k) m, j⟩⟩
def B_api_Rat (N : Nat) (z : Af) : Prop := True ∧ z.Num.length ≤ N ∧ z.Den.length ≤ N
theorem i_api_Rat {N : Nat} {xs : List Aa} (h : Ch N [.bool, .str, .str] xs) : ∃ z : Af, Ws xs z.cells ∧ B_api_Rat N z := by
  obtain ⟨x1, xs, rfl, h1, h⟩ := h.cons_inv
  obtain ⟨x2, xs, rfl, h2, h⟩ := h.cons_inv
  obtain ⟨x3, xs, rfl, h3, h⟩ := h.cons_inv
  obtain rfl := h.nil_inv
  obtain ⟨a1, rfl⟩ := h1.bool_inv
  obtain ⟨a2, rfl, p2⟩ := h2.str_inv
  obtain ⟨a3, rfl, p3⟩ := h3.str_inv
  exact ⟨⟨a1, a2, a3⟩, ⟨.refl _, .refl _, .refl _, trivial⟩, ⟨trivial, p2, p3⟩⟩
def B_api_Point (N : Nat) (z : Bz) : Prop := Z z.Stage ∧ B_api_Rat N z.Flow
theorem i_api_Point {N : Nat} {xs : List Aa} (h : Ch N [.int .i64, .bool, .str, .str] xs) : ∃ z : Bz, Ws xs z.cells ∧ B_api_Point N z := by
  obtain ⟨a1, xs, rfl, p1, h⟩ := ci h
  obtain ⟨x2, xs, rfl, h2, h⟩ := h.cons_inv
  obtain ⟨x3, xs, rfl, h3, h⟩ := h.cons_inv
  obtain ⟨x4, xs, rfl, h4, h⟩ := h.cons_inv
  obtain rfl := h.nil_inv
  obtain ⟨a2, rfl⟩ := h2.bool_inv
  obtain ⟨a3, rfl, p3⟩ := h3.str_inv
  obtain ⟨a4, rfl, p4⟩ := h4.str_inv
  exact ⟨⟨a1, ⟨a2, a3, a4⟩⟩, ⟨.refl _, .refl _, .refl _, .refl _, trivial⟩, ⟨p1, ⟨trivial, p3, p4⟩⟩⟩
def B_api_Curve (N : Nat) (z : Bh) : Prop := (z.Points.length ≤ N ∧ ∀ x, x ∈ z.Points → B_api_Point N x)
theorem i_api_Curve {N : Nat} {xs : List Aa} (h : Ch N [.slc [.int .i64, .bool, .str, .str]] xs) : ∃ z : Bh, Ws xs z.cells ∧ B_api_Curve N z := by
  obtain ⟨x1, xs, rfl, h1, h⟩ := h.cons_inv
  obtain rfl := h.nil_inv
  obtain ⟨n1, f1, rfl, m1, g1⟩ := h1.slc_inv
  obtain ⟨a1, w1, k1, j1⟩ := slc_ws (c := Bz.cells) (st := 4) (f := f1) (n := n1) (Q := fun x => B_api_Point N x) fun i hi => i_api_Point (g1 i hi)
  exact ⟨⟨a1⟩, ⟨w1, trivial⟩, ⟨Nat.le_trans (Nat.le_of_eq k1) m1, j1⟩⟩
def B_api_Span (N : Nat) (z : An) : Prop := Z z.From ∧ Z z.To ∧ B_api_Rat N z.Weight ∧ Z z.Datum ∧ B_api_Curve N z.Curve
theorem i_api_Span {N : Nat} {xs : List Aa} (h : Ch N [.int .i64, .int .i64, .bool, .str, .str, .int .i64, .slc [.int .i64, .bool, .str, .str]] xs) : ∃ z : An, Ws xs z.cells ∧ B_api_Span N z := by
  obtain ⟨a1, xs, rfl, p1, h⟩ := ci h
  obtain ⟨a2, xs, rfl, p2, h⟩ := ci h
  obtain ⟨x3, xs, rfl, h3, h⟩ := h.cons_inv
  obtain ⟨x4, xs, rfl, h4, h⟩ := h.cons_inv
  obtain ⟨x5, xs, rfl, h5, h⟩ := h.cons_inv
  obtain ⟨a6, xs, rfl, p6, h⟩ := ci h
  obtain ⟨x7, xs, rfl, h7, h⟩ := h.cons_inv
  obtain rfl := h.nil_inv
  obtain ⟨a3, rfl⟩ := h3.bool_inv
  obtain ⟨a4, rfl, p4⟩ := h4.str_inv
  obtain ⟨a5, rfl, p5⟩ := h5.str_inv
  obtain ⟨n7, f7, rfl, m7, g7⟩ := h7.slc_inv
  obtain ⟨a7, w7, k7, j7⟩ := slc_ws (c := Bz.cells) (st := 4) (f := f7) (n := n7) (Q := fun x => B_api_Point N x) fun i hi => i_api_Point (g7 i hi)
  exact ⟨⟨a1, a2, ⟨a3, a4, a5⟩, a6, ⟨a7⟩⟩, ⟨.refl _, .refl _, .refl _, .refl _, .refl _, .refl _, w7, trivial⟩, ⟨p1, p2, ⟨trivial, p4, p5⟩, p6, ⟨Nat.le_trans (Nat.le_of_eq k7) m7, j7⟩⟩⟩
theorem i_T23 {N : Nat} {xs : List Aa} (h : Ch N [.slc [.int .i64, .int .i64, .bool, .str, .str, .int .i64, .slc [.int .i64, .bool, .str, .str]]] xs) : ∃ z : List An, Ws xs ((cL 7 An.cells) z) ∧ (z.length ≤ N ∧ ∀ x, x ∈ z → B_api_Span N x) := by
  obtain ⟨x1, xs, rfl, h1, h⟩ := h.cons_inv
  obtain rfl := h.nil_inv
  obtain ⟨n, f, rfl, m, g⟩ := h1.slc_inv
  obtain ⟨a, w, k, j⟩ := slc_ws (c := An.cells) (st := 7) (f := f) (n := n) (Q := fun x => B_api_Span N x) fun i hi => i_api_Span (g i hi)
  exact ⟨a, ⟨w, trivial⟩, ⟨Nat.le_trans (Nat.le_of_eq k) m, j⟩⟩
set_option maxRecDepth 100000 in
theorem args_inv {xs : List Aa} (h : JP maxLen Tryz.prog 30 [22, 23] xs) : ∃ (a1 : List Al) (a2 : List An), Ws xs [slcV 5 Al.cells a1, slcV 7 An.cells a2] ∧ (a1.length ≤ maxLen ∧ ∀ x, x ∈ a1 → B_api_Run maxLen x) ∧ (a2.length ≤ maxLen ∧ ∀ x, x ∈ a2 → B_api_Span maxLen x) := by
  match xs, h with
  | [x1, x2], ⟨⟨u1, e1, o1⟩, ⟨u2, e2, o2⟩, _⟩ =>
  have t22 : BE Tryz.prog 30 22 = some [.slc [.int .i64, .int .i64, .slc [.int .i64, .int .i64], .int .i64, .int .i64]] := by kernel_rfl
  have g22 : Fz Tryz.prog 22 = false := by kernel_rfl
  have t23 : BE Tryz.prog 30 23 = some [.slc [.int .i64, .int .i64, .bool, .str, .str, .int .i64, .slc [.int .i64, .bool, .str, .str]]] := by kernel_rfl
  have g23 : Fz Tryz.prog 23 = false := by kernel_rfl
  obtain rfl := Option.some.inj (t22.symm.trans e1)
  rcases o1 with ⟨h, _⟩ | ⟨_, s1, fE, h1⟩
  · rw [g22] at h; cases h
  obtain rfl : .slc [.int .i64, .int .i64, .slc [.int .i64, .int .i64], .int .i64, .int .i64] = s1 := by injection fE
  obtain ⟨s1, w1, b1⟩ := i_T22 (Ch.one h1)
  obtain rfl := Option.some.inj (t23.symm.trans e2)
  rcases o2 with ⟨h, _⟩ | ⟨_, s2, cM, h2⟩
  · rw [g23] at h; cases h
  obtain rfl : .slc [.int .i64, .int .i64, .bool, .str, .str, .int .i64, .slc [.int .i64, .bool, .str, .str]] = s2 := by injection cM
  obtain ⟨s2, w2, b2⟩ := i_T23 (Ch.one h2)
  exact ⟨s1, s2, ⟨w1.1, w2.1, trivial⟩, b1, b2⟩
theorem law_all (xs : List Aa) (h : JP maxLen Tryz.prog 30 Tryz.f6.params.toList xs) : AK EE Tryz.prog 6 xs (.bool true) := by
  rw [Tryz.params6] at h
  obtain ⟨a1, a2, hw, b1, b2⟩ := args_inv h
  have hk : AK EE Tryz.prog 6 [slcV 5 Al.cells a1, slcV 7 An.cells a2] (.bool true) := yk6.still (x := (a1, a2)) (y := true) (wz20 a1 a2) (by kernel_rfl)
  exact hk.w hw
theorem laws_shape : ∀ t ∈ ([22, 23] : List TypeId), (BE Tryz.prog 30 t).isSome = true := by
  intro t ht
  simp only [List.mem_cons, List.not_mem_nil, or_false] at ht
  rcases ht with rfl | rfl <;> kernel_rfl
end Go.Am
namespace Go.Proofs.YtibbibelkkgfpaaGreatDoor
open Go.ChangeShapes Go.WideShapes Go.ChangeAt Go.RowKit
theorem own : ownKnob Tryz.prog.godebug = none := by kernel_rfl
theorem spec3 {H : Type} : ∀ ds : List (DataW H), ds.length = Tryz.f6.params.toList.length → Rows.boundsAreSharpSpec.fn H ds = { results := [.lit (.bool true)], args := ds } := by
  intro ds h
  rw [Tryz.params6] at h
  match ds, h with
  | [_, _], _ => rfl
set_option maxRecDepth 100000 in
theorem contract3 (H : Type) (enc : TypeId × Value → H) (W : World) (base : Nat) (args : Array Value) (ds gs : List (DataW H)) (before : List MemPlace)
    (bi : ∀ (j : Nat) t v, Tryz.f6.params[j]? = some t → args[j]? = some v → Value.okWide Tryz.prog W .any base t v)
    (hW : DataW.Whole enc Tryz.prog Tryz.f6.params.toList Rows.boundsAreSharpSpec.vars false W args.toList ds gs before) :
    Calls Tryz.prog 6 args W fun e W' => ∃ v, e = .returned v ∧ Rows.boundsAreSharpSpec.post enc Tryz.prog Tryz.f6 false true false false W args v W' :=
  Am.law_contract (E := Am.EE) (N := maxLen) (m := 30) (tb := 4) (laid := Rows.boundsAreSharpRow.laid.map id) (by rw [Tryz.params6]; exact Am.laws_shape) (by kernel_rfl) Tryz.underlying4 rfl spec3 (fun g hg i => .top _) (.inl (Nat.le_refl _)) Am.law_all bi hW
def lay (l : List Nat) : Obj → Obj
  | .cells _ t frozen => .cells (l.map fun n : Nat => Value.int .u8 (n : Int)).toArray t frozen
  | o => o
noncomputable def laidWorld (os : Os) : World :=
  { World.holding Tryz.prog os ⟨#[], #[], []⟩ with heap := ((World.holding Tryz.prog os ⟨#[], #[], []⟩).heap.modify 0 (lay Go.Pinned.utf8FirstZ)).modify 1 (lay [128, 191, 160, 191, 128, 159, 144, 191, 128, 143, 0, 0, 0, 0, 0, 0, 0, 0, 0, 0, 0, 0, 0, 0, 0, 0, 0, 0, 0, 0, 0, 0]) }
def wit : Array Value := #[.slice none 0 0, .slice none 0 0]
set_option maxRecDepth 100000 in
theorem laid_met (os : Os) : laidMet Tryz.prog Rows.boundsAreSharpRow.laid ((laidWorld os).forCall (fun _ _ => 0) ⟨#[], wit, []⟩).memory :=
  laidMet_of_run' 300 (by kernel_rfl) (by kernel_rfl)
def witD {H : Type} : List (DataW H) := [.nil, .nil]
theorem reads3 (os : Os) {H : Type} (enc : TypeId × Value → H) : ∃ places, DataW.whole enc Tryz.prog ((laidWorld os).forCall (fun _ _ => 0) ⟨#[], wit, []⟩).memory Tryz.f6.params.toList Rows.boundsAreSharpSpec.vars false wit.toList 8 = some (witD, [], places) :=
  ⟨[], by kernel_rfl⟩
set_option maxRecDepth 100000 in
theorem lifted3 (os : Os) (started : os.Started) (H : Type) (enc : TypeId × Value → H) (F : Stop.Interp) :
    ReturnsInHanded {} Tryz.checked os 6 .any ((OpenSpec.ofChange Rows.boundsAreSharpSpec).preRow enc Tryz.prog Tryz.f6 Rows.boundsAreSharpRow.domain false Rows.boundsAreSharpRow.laid) (((OpenSpec.ofChange Rows.boundsAreSharpSpec).at F).post enc Tryz.prog Tryz.f6 false true false false) := by
  obtain ⟨places, hx⟩ := reads3 os enc
  refine returnsInHanded_of_row (C := Tryz.checked) (s := OpenSpec.ofChange Rows.boundsAreSharpSpec) own started (by kernel_rfl) Tryz.func6
    (witness_row_at (enc := enc) (C := Tryz.checked) false (laidWorld os) wit rfl (by kernel_rfl) (by kernel_rfl) (by kernel_rfl)
      (OpenSpec.preRow_of_cond 8 hx (by kernel_rfl) (fun k hk => by cases hk) (by kernel_rfl) (laid_met os))) ?_
  intro W base args ds gs before bi hW _ _ _ hL _ _
  exact contract3 H enc W base args ds gs before bi hW
theorem said3 : Rows.BoundsAreSharpSaid :=
  OpenClaim.holds_of_cond 6 Tryz.f6 rfl rfl rfl rfl rfl rfl rfl ⟨rfl, rfl, rfl, rfl, rfl⟩ rfl rfl rfl rfl rfl (by kernel_rfl) Tryz.func6 (by kernel_rfl)
    (of_decide_eq_true (by kernel_rfl)) (by unfold Func.isWrapper; first | (rw [if_pos (by decide +kernel)]; kernel_rfl) | (rw [if_neg (by decide +kernel)]; exact ⟨rfl, rfl⟩))
    (fun os started H enc _ F => by rw [OpenClaim.pre_eq_preRow]; exact lifted3 os started H enc F)
theorem plain3 (f : FuncId) (fn : Func) (hf : Tryz.pinned.checked.prog.funcNamed "rivermark/rivermarklaw19.BoundsAreSharp" = some f) (jh : Tryz.pinned.checked.prog.funcs[f]? = some fn) :
    false = Tryz.pinned.checked.prog.looks [] ∧ ∀ (j : Nat) t, fn.params[j]? = some t → Tryz.pinned.checked.prog.wantsStandIn t = false := by
  obtain rfl : f = 6 := Option.some.inj ((show Tryz.prog.funcNamed "rivermark/rivermarklaw19.BoundsAreSharp" = some 6 by kernel_rfl).symm.trans hf) |>.symm
  obtain rfl : fn = Tryz.f6 := (Option.some.inj (Tryz.func6.symm.trans jh)).symm
  refine ⟨by kernel_rfl, fun j t ht => ?_⟩
  rw [Tryz.params6] at ht
  have hm : t ∈ ([22, 23] : List TypeId) := by simpa using Array.mem_of_getElem? ht
  simp only [List.mem_cons, List.not_mem_nil, or_false] at hm
  rcases hm with rfl | rfl
  · exact (show Tryz.prog.wantsStandIn 22 = false by kernel_rfl)
  · exact (show Tryz.prog.wantsStandIn 23 = false by kernel_rfl)
theorem boundsAreSharp_holds : Rows.BoundsAreSharpCardSaid :=
  Claim7.holds_tied_plain_at .later [] _ _ _ _ said3 (fun _ h => by cases h) (by kernel_rfl) (fun _ h => by cases h) boundsAreSharp_row_tie rfl ⟨rfl, rfl⟩ (by kernel_rfl) rfl plain3 (by kernel_rfl)
end Go.Proofs.YtibbibelkkgfpaaGreatDoor

