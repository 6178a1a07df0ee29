/- For all arguments the law function VersionsAreAsSpecified returns true and leaves its arguments as they were. Conditions: none beyond those of the given row, that tables of Go's own read as their initialisers lay them, which the given tie pays. -/
import Derived.Test.YtbidhbeoimpjbaaGreatDoorCards
import Derived.Test.YtbidhbeoimpjbaaGreatDoorTie
import Derived.Test.YtbidhbeoimpjbaaGreatDoorK1
import Derived.Test.YtbidhbeoimpjbaaGreatDoorU2
import Derived.Test.YtbidhbeoimpjbaaGreatDoorA4
set_option linter.unusedSimpArgs false
set_option linter.unusedVariables false
namespace Go.Am
open Go.Proofs
abbrev Z (a : Int) : Prop := -9223372036854775808 ≤ a ∧ a ≤ 9223372036854775807
theorem ci {N : Nat} {s : List Sh} {xs : List Aa} (h : De N (.int .i64 :: s) xs) : ∃ a ys, xs = .int .i64 a :: ys ∧ Z a ∧ De N s ys := by
  obtain ⟨x, ys, rfl, h1, h2⟩ := h.cons_inv
  obtain ⟨a, rfl, p, q⟩ := h1.int_inv
  simp only [IntKind.min, IntKind.max, IntKind.signed, IntKind.bits] at p q
  exact ⟨a, ys, rfl, ⟨by first | exact p | exact Int.le_trans (by decide) p, by first | exact q | exact Int.le_trans q (by decide)⟩, h2⟩
theorem list_inv {α : Type} [Inhabited α] {c : α → List Aa} {Q : α → Prop} {n : Nat} {f : Nat → List Aa} (h : ∀ i, i < n → ∃ z : α, Ws (f i) (c z) ∧ Q z) : ∃ l : List α, l.length = n ∧ (∀ k, k < n → Ws (f k) (Ay c l k)) ∧ ∀ x, x ∈ l → Q x := by
  have ex : ∀ i, ∃ z : α, i < n → Ws (f i) (c z) ∧ Q z := fun i => by
    by_cases hi : i < n
    · obtain ⟨z, hz⟩ := h i hi
      exact ⟨z, fun _ => hz⟩
    · exact ⟨default, fun h => absurd h hi⟩
  refine ⟨(List.range n).map fun i => (ex i).choose, by simp, fun k hk => ?_, fun x hx => ?_⟩
  · rw [D4 (x := (ex k).choose) (by simp [hk])]
    exact ((ex k).choose_spec hk).1
  · obtain ⟨i, hi, rfl⟩ := List.mem_map.1 hx
    exact ((ex i).choose_spec (List.mem_range.1 hi)).2
theorem slc_ws {α : Type} [Inhabited α] {c : α → List Aa} {Q : α → Prop} {st n : Nat} {f : Nat → List Aa} (h : ∀ i, i < n → ∃ z : α, Ws (f i) (c z) ∧ Q z) : ∃ l : List α, W (.slc st n f) (slcV st c l) ∧ l.length = n ∧ ∀ x, x ∈ l → Q x := by
  obtain ⟨l, hl, hk, hq⟩ := list_inv h
  subst hl
  exact ⟨l, Gs.2 ⟨rfl, rfl, hk⟩, rfl, hq⟩
def B_api_Rat (N : Nat) (z : AJ) : Prop := True ∧ z.Num.length ≤ N ∧ z.Den.length ≤ N
theorem i_api_Rat {N : Nat} {xs : List Aa} (h : De N [.bool, .str, .str] xs) : ∃ z : AJ, Ws xs z.cells ∧ B_api_Rat N z := by
  obtain ⟨x1, xs, rfl, h1, h⟩ := h.cons_inv
  obtain ⟨x2, xs, rfl, h2, h⟩ := h.cons_inv
  obtain ⟨x3, xs, rfl, h3, h⟩ := h.cons_inv
  obtain rfl := h.nil_inv
  obtain ⟨a1, rfl⟩ := h1.bool_inv
  obtain ⟨a2, rfl, p2⟩ := h2.str_inv
  obtain ⟨a3, rfl, p3⟩ := h3.str_inv
  exact ⟨⟨a1, a2, a3⟩, ⟨.refl _, .refl _, .refl _, trivial⟩, ⟨trivial, p2, p3⟩⟩
def B_api_Point (N : Nat) (z : AC) : Prop := Z z.Stage ∧ B_api_Rat N z.Flow
theorem i_api_Point {N : Nat} {xs : List Aa} (h : De N [.int .i64, .bool, .str, .str] xs) : ∃ z : AC, Ws xs z.cells ∧ B_api_Point N z := by
  obtain ⟨a1, xs, rfl, p1, h⟩ := ci h
  obtain ⟨x2, xs, rfl, h2, h⟩ := h.cons_inv
  obtain ⟨x3, xs, rfl, h3, h⟩ := h.cons_inv
  obtain ⟨x4, xs, rfl, h4, h⟩ := h.cons_inv
  obtain rfl := h.nil_inv
  obtain ⟨a2, rfl⟩ := h2.bool_inv
  obtain ⟨a3, rfl, p3⟩ := h3.str_inv
  obtain ⟨a4, rfl, p4⟩ := h4.str_inv
  exact ⟨⟨a1, ⟨a2, a3, a4⟩⟩, ⟨.refl _, .refl _, .refl _, .refl _, trivial⟩, ⟨p1, ⟨trivial, p3, p4⟩⟩⟩
def B_api_Curve (N : Nat) (z : AG) : Prop := (z.Points.length ≤ N ∧ ∀ x, x ∈ z.Points → B_api_Point N x)
theorem i_api_Curve {N : Nat} {xs : List Aa} (h : De N [.slc [.int .i64, .bool, .str, .str]] xs) : ∃ z : AG, Ws xs z.cells ∧ B_api_Curve N z := by
  obtain ⟨x1, xs, rfl, h1, h⟩ := h.cons_inv
  obtain rfl := h.nil_inv
  obtain ⟨n1, f1, rfl, m1, g1⟩ := h1.slc_inv
  obtain ⟨a1, w1, k1, j1⟩ := slc_ws (c := AC.cells) (st := 4) (f := f1) (n := n1) (Q := fun x => B_api_Point N x) fun i hi => i_api_Point (g1 i hi)
  exact ⟨⟨a1⟩, ⟨w1, trivial⟩, ⟨Nat.le_trans (Nat.le_of_eq k1) m1, j1⟩⟩
def B_api_Version (N : Nat) (z : Ac) : Prop := Z z.Kind ∧ Z z.Gauge ∧ Z z.Seq ∧ Z z.Known ∧ Z z.From ∧ Z z.To ∧ Z z.Shift ∧ B_api_Curve N z.Curve
theorem i_api_Version {N : Nat} {xs : List Aa} (h : De N [.int .i64, .int .i64, .int .i64, .int .i64, .int .i64, .int .i64, .int .i64, .slc [.int .i64, .bool, .str, .str]] xs) : ∃ z : Ac, Ws xs z.cells ∧ B_api_Version N z := by
  obtain ⟨a1, xs, rfl, p1, h⟩ := ci h
  obtain ⟨a2, xs, rfl, p2, h⟩ := ci h
  obtain ⟨a3, xs, rfl, p3, h⟩ := ci h
  obtain ⟨a4, xs, rfl, p4, h⟩ := ci h
  obtain ⟨a5, xs, rfl, p5, h⟩ := ci h
  obtain ⟨a6, xs, rfl, p6, h⟩ := ci h
  obtain ⟨a7, xs, rfl, p7, h⟩ := ci h
  obtain ⟨x8, xs, rfl, h8, h⟩ := h.cons_inv
  obtain rfl := h.nil_inv
  obtain ⟨n8, f8, rfl, m8, g8⟩ := h8.slc_inv
  obtain ⟨a8, w8, k8, j8⟩ := slc_ws (c := AC.cells) (st := 4) (f := f8) (n := n8) (Q := fun x => B_api_Point N x) fun i hi => i_api_Point (g8 i hi)
  exact ⟨⟨a1, a2, a3, a4, a5, a6, a7, ⟨a8⟩⟩, ⟨.refl _, .refl _, .refl _, .refl _, .refl _, .refl _, .refl _, w8, trivial⟩, ⟨p1, p2, p3, p4, p5, p6, p7, ⟨Nat.le_trans (Nat.le_of_eq k8) m8, j8⟩⟩⟩
theorem i_T22 {N : Nat} {xs : List Aa} (h : De N [.slc [.int .i64, .int .i64, .int .i64, .int .i64, .int .i64, .int .i64, .int .i64, .slc [.int .i64, .bool, .str, .str]]] xs) : ∃ z : List Ac, Ws xs ((cL 8 Ac.cells) z) ∧ (z.length ≤ N ∧ ∀ x, x ∈ z → B_api_Version N x) := by
  obtain ⟨x1, xs, rfl, h1, h⟩ := h.cons_inv
  obtain rfl := h.nil_inv
  obtain ⟨n, f, rfl, m, g⟩ := h1.slc_inv
  obtain ⟨a, w, k, j⟩ := slc_ws (c := Ac.cells) (st := 8) (f := f) (n := n) (Q := fun x => B_api_Version N x) fun i hi => i_api_Version (g i hi)
  exact ⟨a, ⟨w, trivial⟩, ⟨Nat.le_trans (Nat.le_of_eq k) m, j⟩⟩
def B_Arr4_int (N : Nat) (z : CD) : Prop := Z z.e0 ∧ Z z.e1 ∧ Z z.e2 ∧ Z z.e3
theorem i_Arr4_int {N : Nat} {xs : List Aa} (h : De N [.int .i64, .int .i64, .int .i64, .int .i64] xs) : ∃ z : CD, Ws xs z.cells ∧ B_Arr4_int N z := by
  obtain ⟨a1, xs, rfl, p1, h⟩ := ci h
  obtain ⟨a2, xs, rfl, p2, h⟩ := ci h
  obtain ⟨a3, xs, rfl, p3, h⟩ := ci h
  obtain ⟨a4, xs, rfl, p4, h⟩ := ci h
  obtain rfl := h.nil_inv
  exact ⟨⟨a1, a2, a3, a4⟩, ⟨.refl _, .refl _, .refl _, .refl _, trivial⟩, ⟨p1, p2, p3, p4⟩⟩
set_option maxRecDepth 100000 in
theorem args_inv {xs : List Aa} (h : Ka maxLen Tryz.prog 30 [22, 22, 27, 28] xs) : ∃ (a1 : List Ac) (a2 : List Ac) (a3 : Ac) (a4 : CD), Ws xs [slcV 8 Ac.cells a1, slcV 8 Ac.cells a2, .agg a3.cells, .agg a4.cells] ∧ (a1.length ≤ maxLen ∧ ∀ x, x ∈ a1 → B_api_Version maxLen x) ∧ (a2.length ≤ maxLen ∧ ∀ x, x ∈ a2 → B_api_Version maxLen x) ∧ B_api_Version maxLen a3 ∧ B_Arr4_int maxLen a4 := by
  match xs, h with
  | [x1, x2, x3, x4], ⟨⟨u1, e1, o1⟩, ⟨u2, e2, o2⟩, ⟨u3, e3, o3⟩, ⟨u4, e4, o4⟩, _⟩ =>
  have t22 : FY Tryz.prog 30 22 = some [.slc [.int .i64, .int .i64, .int .i64, .int .i64, .int .i64, .int .i64, .int .i64, .slc [.int .i64, .bool, .str, .str]]] := by kernel_rfl
  have g22 : FJ Tryz.prog 22 = false := by kernel_rfl
  have t27 : FY Tryz.prog 30 27 = some [.int .i64, .int .i64, .int .i64, .int .i64, .int .i64, .int .i64, .int .i64, .slc [.int .i64, .bool, .str, .str]] := by kernel_rfl
  have g27 : FJ Tryz.prog 27 = true := by kernel_rfl
  have t28 : FY Tryz.prog 30 28 = some [.int .i64, .int .i64, .int .i64, .int .i64] := by kernel_rfl
  have g28 : FJ Tryz.prog 28 = true := by kernel_rfl
  obtain rfl := Option.some.inj (t22.symm.trans e1)
  rcases o1 with ⟨h, _⟩ | ⟨_, s1, dh, h1⟩
  · rw [g22] at h; cases h
  obtain rfl : .slc [.int .i64, .int .i64, .int .i64, .int .i64, .int .i64, .int .i64, .int .i64, .slc [.int .i64, .bool, .str, .str]] = s1 := by injection dh
  obtain ⟨s1, w1, b1⟩ := i_T22 (De.one h1)
  obtain rfl := Option.some.inj (t22.symm.trans e2)
  rcases o2 with ⟨h, _⟩ | ⟨_, s2, cT, h2⟩
  · rw [g22] at h; cases h
  obtain rfl : .slc [.int .i64, .int .i64, .int .i64, .int .i64, .int .i64, .int .i64, .int .i64, .slc [.int .i64, .bool, .str, .str]] = s2 := by injection cT
  obtain ⟨s2, w2, b2⟩ := i_T22 (De.one h2)
  obtain rfl := Option.some.inj (t27.symm.trans e3)
  rcases o3 with ⟨_, y3, rfl, h3⟩ | ⟨h, _⟩
  rotate_left
  · rw [g27] at h; cases h
  obtain ⟨s3, w3, b3⟩ := i_api_Version h3
  obtain rfl := Option.some.inj (t28.symm.trans e4)
  rcases o4 with ⟨_, y4, rfl, h4⟩ | ⟨h, _⟩
  rotate_left
  · rw [g28] at h; cases h
  obtain ⟨s4, w4, b4⟩ := i_Arr4_int h4
  exact ⟨s1, s2, s3, s4, ⟨w1.1, w2.1, Hn.2 w3, Hn.2 w4, trivial⟩, b1, b2, b3, b4⟩
theorem law_all (xs : List Aa) (h : Ka maxLen Tryz.prog 30 Tryz.f3.params.toList xs) : B8 EE Tryz.prog 3 xs (.bool true) := by
  rw [Tryz.params3] at h
  obtain ⟨a1, a2, a3, a4, hw, b1, b2, b3, b4⟩ := args_inv h
  have hk : B8 EE Tryz.prog 3 [slcV 8 Ac.cells a1, slcV 8 Ac.cells a2, .agg a3.cells, .agg a4.cells] (.bool true) := yk3.still (x := (a1, a2, a3, a4)) (y := true) (kzgb) (by kernel_rfl)
  exact hk.w hw
theorem laws_shape : ∀ t ∈ ([22, 22, 27, 28] : List TypeId), (FY Tryz.prog 30 t).isSome = true := by
  intro t ht
  simp only [List.mem_cons, List.not_mem_nil, or_false] at ht
  rcases ht with rfl | rfl | rfl | rfl <;> kernel_rfl
end Go.Am
namespace Go.Proofs.YtbidhbeoimpjbaaGreatDoor
open Go.ChangeShapes Go.WideShapes Go.ChangeAt Go.RowKit
theorem own : ownKnob Tryz.prog.godebug = none := by kernel_rfl
theorem spec3 {H : Type} : ∀ ds : List (DataW H), ds.length = Tryz.f3.params.toList.length → Rows.versionsAreAsSpecifiedSpec.fn H ds = { results := [.lit (.bool true)], args := ds } := by
  intro ds h
  rw [Tryz.params3] at h
  match ds, h with
  | [_, _, _, _], _ => rfl
set_option maxRecDepth 100000 in
theorem contract3 (H : Type) (enc : TypeId × Value → H) (W : World) (base : Nat) (args : Array Value) (ds gs : List (DataW H)) (before : List MemPlace)
    (bO : ∀ (j : Nat) t v, Tryz.f3.params[j]? = some t → args[j]? = some v → Value.okWide Tryz.prog W .any base t v)
    (hW : DataW.Whole enc Tryz.prog Tryz.f3.params.toList Rows.versionsAreAsSpecifiedSpec.vars false W args.toList ds gs before) :
    Calls Tryz.prog 3 args W fun e W' => ∃ v, e = .returned v ∧ Rows.versionsAreAsSpecifiedSpec.post enc Tryz.prog Tryz.f3 false true false false W args v W' :=
  Am.law_contract (E := Am.EE) (N := maxLen) (m := 30) (tb := 4) (laid := Rows.versionsAreAsSpecifiedRow.laid.map id) (by rw [Tryz.params3]; exact Am.laws_shape) (by kernel_rfl) Tryz.underlying4 rfl spec3 (fun g hg i => .top _) (.inl (Nat.le_refl _)) Am.law_all bO hW
def lay (l : List Nat) : Obj → Obj
  | .cells _ t frozen => .cells (l.map fun n : Nat => Value.int .u8 (n : Int)).toArray t frozen
  | o => o
noncomputable def laidWorld (os : Os) : World :=
  { World.holding Tryz.prog os ⟨#[], #[], []⟩ with heap := ((World.holding Tryz.prog os ⟨#[], #[], []⟩).heap.modify 0 (lay Go.Pinned.utf8FirstZ)).modify 1 (lay [128, 191, 160, 191, 128, 159, 144, 191, 128, 143, 0, 0, 0, 0, 0, 0, 0, 0, 0, 0, 0, 0, 0, 0, 0, 0, 0, 0, 0, 0, 0, 0]) }
def wit : Array Value := #[.slice none 0 0, .slice none 0 0, .agg #[.int .i64 0, .int .i64 0, .int .i64 0, .int .i64 0, .int .i64 0, .int .i64 0, .int .i64 0, .slice none 0 0], .agg #[.int .i64 0, .int .i64 0, .int .i64 0, .int .i64 0]]
set_option maxRecDepth 100000 in
theorem laid_met (os : Os) : laidMet Tryz.prog Rows.versionsAreAsSpecifiedRow.laid ((laidWorld os).forCall (fun _ _ => 0) ⟨#[], wit, []⟩).memory :=
  laidMet_of_run' 300 (by kernel_rfl) (by kernel_rfl)
def witD {H : Type} : List (DataW H) := [.nil, .nil, .agg [.lit (.int .i64 0), .lit (.int .i64 0), .lit (.int .i64 0), .lit (.int .i64 0), .lit (.int .i64 0), .lit (.int .i64 0), .lit (.int .i64 0), .agg [.nil]], .agg [.lit (.int .i64 0), .lit (.int .i64 0), .lit (.int .i64 0), .lit (.int .i64 0)]]
theorem reads3 (os : Os) {H : Type} (enc : TypeId × Value → H) : ∃ places, DataW.whole enc Tryz.prog ((laidWorld os).forCall (fun _ _ => 0) ⟨#[], wit, []⟩).memory Tryz.f3.params.toList Rows.versionsAreAsSpecifiedSpec.vars false wit.toList 8 = some (witD, [], places) :=
  ⟨[], by kernel_rfl⟩
set_option maxRecDepth 100000 in
theorem lifted3 (os : Os) (started : os.Started) (H : Type) (enc : TypeId × Value → H) (F : Stop.Interp) :
    ReturnsInHanded {} Tryz.checked os 3 .any ((OpenSpec.ofChange Rows.versionsAreAsSpecifiedSpec).preRow enc Tryz.prog Tryz.f3 Rows.versionsAreAsSpecifiedRow.domain false Rows.versionsAreAsSpecifiedRow.laid) (((OpenSpec.ofChange Rows.versionsAreAsSpecifiedSpec).at F).post enc Tryz.prog Tryz.f3 false true false false) := by
  obtain ⟨places, hx⟩ := reads3 os enc
  refine returnsInHanded_of_row (C := Tryz.checked) (s := OpenSpec.ofChange Rows.versionsAreAsSpecifiedSpec) own started (by kernel_rfl) Tryz.func3
    (witness_row_at (enc := enc) (C := Tryz.checked) false (laidWorld os) wit rfl (by kernel_rfl) (by kernel_rfl) (by kernel_rfl)
      (OpenSpec.preRow_of_cond 8 hx (by kernel_rfl) (fun k hk => by cases hk) (by kernel_rfl) (laid_met os))) ?_
  intro W base args ds gs before bO hW _ _ _ hL _ _
  exact contract3 H enc W base args ds gs before bO hW
theorem said3 : Rows.VersionsAreAsSpecifiedSaid :=
  OpenClaim.holds_of_cond 3 Tryz.f3 rfl rfl rfl rfl rfl rfl rfl ⟨rfl, rfl, rfl, rfl, rfl⟩ rfl rfl rfl rfl rfl (by kernel_rfl) Tryz.func3 (by kernel_rfl)
    (of_decide_eq_true (by kernel_rfl)) (by unfold Func.isWrapper; first | (rw [if_pos (by decide +kernel)]; kernel_rfl) | (rw [if_neg (by decide +kernel)]; exact ⟨rfl, rfl⟩))
    (fun os started H enc _ F => by rw [OpenClaim.pre_eq_preRow]; exact lifted3 os started H enc F)
theorem plain3 (f : FuncId) (fn : Func) (hf : Tryz.pinned.checked.prog.funcNamed "rivermark/rivermarklaw14.VersionsAreAsSpecified" = some f) (fP : Tryz.pinned.checked.prog.funcs[f]? = some fn) :
    false = Tryz.pinned.checked.prog.looks [] ∧ ∀ (j : Nat) t, fn.params[j]? = some t → Tryz.pinned.checked.prog.wantsStandIn t = false := by
  obtain rfl : f = 3 := Option.some.inj ((show Tryz.prog.funcNamed "rivermark/rivermarklaw14.VersionsAreAsSpecified" = some 3 by kernel_rfl).symm.trans hf) |>.symm
  obtain rfl : fn = Tryz.f3 := (Option.some.inj (Tryz.func3.symm.trans fP)).symm
  refine ⟨by kernel_rfl, fun j t ht => ?_⟩
  rw [Tryz.params3] at ht
  have hm : t ∈ ([22, 22, 27, 28] : List TypeId) := by simpa using Array.mem_of_getElem? ht
  simp only [List.mem_cons, List.not_mem_nil, or_false] at hm
  rcases hm with rfl | rfl | rfl | rfl
  · exact (show Tryz.prog.wantsStandIn 22 = false by kernel_rfl)
  · exact (show Tryz.prog.wantsStandIn 22 = false by kernel_rfl)
  · exact (show Tryz.prog.wantsStandIn 27 = false by kernel_rfl)
  · exact (show Tryz.prog.wantsStandIn 28 = false by kernel_rfl)
theorem versionsAreAsSpecified_holds : Rows.VersionsAreAsSpecifiedCardSaid :=
  Claim7.holds_tied_plain_at .later [] _ _ _ _ said3 (fun _ h => by cases h) (by kernel_rfl) (fun _ h => by cases h) versionsAreAsSpecified_row_tie rfl ⟨rfl, rfl⟩ (by kernel_rfl) rfl plain3 (by kernel_rfl)
end Go.Proofs.YtbidhbeoimpjbaaGreatDoor

