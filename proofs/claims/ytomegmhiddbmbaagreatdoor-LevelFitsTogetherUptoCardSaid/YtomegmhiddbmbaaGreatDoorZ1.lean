/- For all arguments whose reading is of bulk at most 1048576 the law function LevelFitsTogether returns true and leaves its arguments as they were. Conditions: none beyond those of the given row, that tables of Go's own read as their initialisers lay them, which the given tie pays. -/
import Derived.Test.YtomegmhiddbmbaaGreatDoorCards
import Derived.Test.YtomegmhiddbmbaaGreatDoorTie
import Derived.Test.YtomegmhiddbmbaaGreatDoorK1
import Derived.Test.YtomegmhiddbmbaaGreatDoorV2
import Derived.Test.YtomegmhiddbmbaaGreatDoorA4
set_option linter.unusedSimpArgs false
set_option linter.unusedVariables false
namespace Go.Am
open Go.Proofs
abbrev Z (a : Int) : Prop := -9223372036854775808 ≤ a ∧ a ≤ 9223372036854775807
theorem ci {N : Nat} {s : List Sh} {xs : List Aa} (h : CV N (.int .i64 :: s) xs) : ∃ a ys, xs = .int .i64 a :: ys ∧ Z a ∧ CV N s ys := by
  obtain ⟨x, ys, rfl, h1, h2⟩ := h.cons_inv
  obtain ⟨a, rfl, p, q⟩ := h1.int_inv
  simp only [IntKind.min, IntKind.max, IntKind.signed, IntKind.bits] at p q
  exact ⟨a, ys, rfl, ⟨by first | exact p | exact Int.le_trans (by decide) p, by first | exact q | exact Int.le_trans q (by decide)⟩, h2⟩
theorem list_inv {α : Type} [Inhabited α] {c : α → List Aa} {Q : α → Prop} {n : Nat} {f : Nat → List Aa} (h : ∀ i, i < n → ∃ z : α, Ws (f i) (c z) ∧ Q z) : ∃ l : List α, l.length = n ∧ (∀ k, k < n → Ws (f k) (Az c l k)) ∧ ∀ x, x ∈ l → Q x := by
  have ex : ∀ i, ∃ z : α, i < n → Ws (f i) (c z) ∧ Q z := fun i => by
    by_cases hi : i < n
    · obtain ⟨z, hz⟩ := h i hi
      exact ⟨z, fun _ => hz⟩
    · exact ⟨default, fun h => absurd h hi⟩
  refine ⟨(List.range n).map fun i => (ex i).choose, by simp, fun k hk => ?_, fun x hx => ?_⟩
  · rw [FH (x := (ex k).choose) (by simp [hk])]
    exact ((ex k).choose_spec hk).1
  · obtain ⟨i, hi, rfl⟩ := List.mem_map.1 hx
    exact ((ex i).choose_spec (List.mem_range.1 hi)).2
theorem slc_ws {α : Type} [Inhabited α] {c : α → List Aa} {Q : α → Prop} {st n : Nat} {f : Nat → List Aa} (h : ∀ i, i < n → ∃ z : α, Ws (f i) (c z) ∧ Q z) : ∃ l : List α, W (.slc st n f) (slcV st c l) ∧ l.length = n ∧ ∀ x, x ∈ l → Q x := by
  obtain ⟨l, hl, hk, hq⟩ := list_inv h
  subst hl
  exact ⟨l, ED.2 ⟨rfl, rfl, hk⟩, rfl, hq⟩
theorem i_T3 {N : Nat} {xs : List Aa} (h : CV N [.int .i64] xs) : ∃ z : Int, Ws xs ((cI .i64) z) ∧ Z z := by
  obtain ⟨x1, xs, rfl, h1, h⟩ := h.cons_inv
  obtain rfl := h.nil_inv
  obtain ⟨a, rfl, p, q⟩ := h1.int_inv
  simp only [IntKind.min, IntKind.max, IntKind.signed, IntKind.bits] at p q
  exact ⟨a, ⟨.refl _, trivial⟩, by first | exact p | exact Int.le_trans (by decide) p, by first | exact q | exact Int.le_trans q (by decide)⟩
def B_api_History (N : Nat) (z : Au) : Prop := Z z.From ∧ (z.Stages.length ≤ N ∧ ∀ x, x ∈ z.Stages → Z x)
theorem i_api_History {N : Nat} {xs : List Aa} (h : CV N [.int .i64, .slc [.int .i64]] xs) : ∃ z : Au, Ws xs z.cells ∧ B_api_History N z := by
  obtain ⟨a1, xs, rfl, p1, h⟩ := ci h
  obtain ⟨x2, xs, rfl, h2, h⟩ := h.cons_inv
  obtain rfl := h.nil_inv
  obtain ⟨n2, f2, rfl, m2, g2⟩ := h2.slc_inv
  obtain ⟨a2, w2, k2, j2⟩ := slc_ws (c := (cI .i64)) (st := 1) (f := f2) (n := n2) (Q := fun x => Z x) fun i hi => i_T3 (g2 i hi)
  exact ⟨⟨a1, a2⟩, ⟨.refl _, w2, trivial⟩, ⟨p1, ⟨Nat.le_trans (Nat.le_of_eq k2) m2, j2⟩⟩⟩
def B_api_Rat (N : Nat) (z : Ag) : Prop := True ∧ z.Num.length ≤ N ∧ z.Den.length ≤ N
theorem i_api_Rat {N : Nat} {xs : List Aa} (h : CV N [.bool, .str, .str] xs) : ∃ z : Ag, Ws xs z.cells ∧ B_api_Rat N z := by
  obtain ⟨x1, xs, rfl, h1, h⟩ := h.cons_inv
  obtain ⟨x2, xs, rfl, h2, h⟩ := h.cons_inv
  obtain ⟨x3, xs, rfl, h3, h⟩ := h.cons_inv
  obtain rfl := h.nil_inv
  obtain ⟨a1, rfl⟩ := h1.bool_inv
  obtain ⟨a2, rfl, p2⟩ := h2.str_inv
  obtain ⟨a3, rfl, p3⟩ := h3.str_inv
  exact ⟨⟨a1, a2, a3⟩, ⟨.refl _, .refl _, .refl _, trivial⟩, ⟨trivial, p2, p3⟩⟩
def B_api_Point (N : Nat) (z : AN) : Prop := Z z.Stage ∧ B_api_Rat N z.Flow
theorem i_api_Point {N : Nat} {xs : List Aa} (h : CV N [.int .i64, .bool, .str, .str] xs) : ∃ z : AN, Ws xs z.cells ∧ B_api_Point N z := by
  obtain ⟨a1, xs, rfl, p1, h⟩ := ci h
  obtain ⟨x2, xs, rfl, h2, h⟩ := h.cons_inv
  obtain ⟨x3, xs, rfl, h3, h⟩ := h.cons_inv
  obtain ⟨x4, xs, rfl, h4, h⟩ := h.cons_inv
  obtain rfl := h.nil_inv
  obtain ⟨a2, rfl⟩ := h2.bool_inv
  obtain ⟨a3, rfl, p3⟩ := h3.str_inv
  obtain ⟨a4, rfl, p4⟩ := h4.str_inv
  exact ⟨⟨a1, ⟨a2, a3, a4⟩⟩, ⟨.refl _, .refl _, .refl _, .refl _, trivial⟩, ⟨p1, ⟨trivial, p3, p4⟩⟩⟩
def B_api_Curve (N : Nat) (z : AK) : Prop := (z.Points.length ≤ N ∧ ∀ x, x ∈ z.Points → B_api_Point N x)
theorem i_api_Curve {N : Nat} {xs : List Aa} (h : CV N [.slc [.int .i64, .bool, .str, .str]] xs) : ∃ z : AK, Ws xs z.cells ∧ B_api_Curve N z := by
  obtain ⟨x1, xs, rfl, h1, h⟩ := h.cons_inv
  obtain rfl := h.nil_inv
  obtain ⟨n1, f1, rfl, m1, g1⟩ := h1.slc_inv
  obtain ⟨a1, w1, k1, j1⟩ := slc_ws (c := AN.cells) (st := 4) (f := f1) (n := n1) (Q := fun x => B_api_Point N x) fun i hi => i_api_Point (g1 i hi)
  exact ⟨⟨a1⟩, ⟨w1, trivial⟩, ⟨Nat.le_trans (Nat.le_of_eq k1) m1, j1⟩⟩
def B_api_Span (N : Nat) (z : Aj) : Prop := Z z.From ∧ Z z.To ∧ B_api_Rat N z.Weight ∧ Z z.Datum ∧ B_api_Curve N z.Curve
theorem i_api_Span {N : Nat} {xs : List Aa} (h : CV N [.int .i64, .int .i64, .bool, .str, .str, .int .i64, .slc [.int .i64, .bool, .str, .str]] xs) : ∃ z : Aj, Ws xs z.cells ∧ B_api_Span N z := by
  obtain ⟨a1, xs, rfl, p1, h⟩ := ci h
  obtain ⟨a2, xs, rfl, p2, h⟩ := ci h
  obtain ⟨x3, xs, rfl, h3, h⟩ := h.cons_inv
  obtain ⟨x4, xs, rfl, h4, h⟩ := h.cons_inv
  obtain ⟨x5, xs, rfl, h5, h⟩ := h.cons_inv
  obtain ⟨a6, xs, rfl, p6, h⟩ := ci h
  obtain ⟨x7, xs, rfl, h7, h⟩ := h.cons_inv
  obtain rfl := h.nil_inv
  obtain ⟨a3, rfl⟩ := h3.bool_inv
  obtain ⟨a4, rfl, p4⟩ := h4.str_inv
  obtain ⟨a5, rfl, p5⟩ := h5.str_inv
  obtain ⟨n7, f7, rfl, m7, g7⟩ := h7.slc_inv
  obtain ⟨a7, w7, k7, j7⟩ := slc_ws (c := AN.cells) (st := 4) (f := f7) (n := n7) (Q := fun x => B_api_Point N x) fun i hi => i_api_Point (g7 i hi)
  exact ⟨⟨a1, a2, ⟨a3, a4, a5⟩, a6, ⟨a7⟩⟩, ⟨.refl _, .refl _, .refl _, .refl _, .refl _, .refl _, w7, trivial⟩, ⟨p1, p2, ⟨trivial, p4, p5⟩, p6, ⟨Nat.le_trans (Nat.le_of_eq k7) m7, j7⟩⟩⟩
def B_api_Side (N : Nat) (z : Ba) : Prop := B_api_History N z.History ∧ (z.Spans.length ≤ N ∧ ∀ x, x ∈ z.Spans → B_api_Span N x) ∧ B_api_Rat N z.Level
theorem i_api_Side {N : Nat} {xs : List Aa} (h : CV N [.int .i64, .slc [.int .i64], .slc [.int .i64, .int .i64, .bool, .str, .str, .int .i64, .slc [.int .i64, .bool, .str, .str]], .bool, .str, .str] xs) : ∃ z : Ba, Ws xs z.cells ∧ B_api_Side N z := by
  obtain ⟨a1, xs, rfl, p1, h⟩ := ci h
  obtain ⟨x2, xs, rfl, h2, h⟩ := h.cons_inv
  obtain ⟨x3, xs, rfl, h3, h⟩ := h.cons_inv
  obtain ⟨x4, xs, rfl, h4, h⟩ := h.cons_inv
  obtain ⟨x5, xs, rfl, h5, h⟩ := h.cons_inv
  obtain ⟨x6, xs, rfl, h6, h⟩ := h.cons_inv
  obtain rfl := h.nil_inv
  obtain ⟨n2, f2, rfl, m2, g2⟩ := h2.slc_inv
  obtain ⟨a2, w2, k2, j2⟩ := slc_ws (c := (cI .i64)) (st := 1) (f := f2) (n := n2) (Q := fun x => Z x) fun i hi => i_T3 (g2 i hi)
  obtain ⟨n3, f3, rfl, m3, g3⟩ := h3.slc_inv
  obtain ⟨a3, w3, k3, j3⟩ := slc_ws (c := Aj.cells) (st := 7) (f := f3) (n := n3) (Q := fun x => B_api_Span N x) fun i hi => i_api_Span (g3 i hi)
  obtain ⟨a4, rfl⟩ := h4.bool_inv
  obtain ⟨a5, rfl, p5⟩ := h5.str_inv
  obtain ⟨a6, rfl, p6⟩ := h6.str_inv
  exact ⟨⟨⟨a1, a2⟩, a3, ⟨a4, a5, a6⟩⟩, ⟨.refl _, w2, w3, .refl _, .refl _, .refl _, trivial⟩, ⟨⟨p1, ⟨Nat.le_trans (Nat.le_of_eq k2) m2, j2⟩⟩, ⟨Nat.le_trans (Nat.le_of_eq k3) m3, j3⟩, ⟨trivial, p5, p6⟩⟩⟩
theorem i_T5 {N : Nat} {xs : List Aa} (h : CV N [.int .u8] xs) : ∃ z : Int, Ws xs ((cI .u8) z) ∧ (0 ≤ z ∧ z ≤ 255) := by
  obtain ⟨x1, xs, rfl, h1, h⟩ := h.cons_inv
  obtain rfl := h.nil_inv
  obtain ⟨a, rfl, p, q⟩ := h1.int_inv
  simp only [IntKind.min, IntKind.max, IntKind.signed, IntKind.bits] at p q
  exact ⟨a, ⟨.refl _, trivial⟩, by first | exact p | exact Int.le_trans (by decide) p, by first | exact q | exact Int.le_trans q (by decide)⟩
theorem crv_b {c : AK} (h : B_api_Curve 1048576 c) : CSz c := ⟨h.1, fun p hp => ⟨(h.2 p hp).2.2.1, (h.2 p hp).2.2.2⟩⟩
theorem spn_b {s : Aj} (h : B_api_Span 1048576 s) : SSz s := ⟨crv_b h.2.2.2.2, h.2.2.1.2.1, h.2.2.1.2.2⟩
theorem sid_b {s : Ba} (h : B_api_Side 1048576 s) : SdS 1048576 s := ⟨⟨⟨h.2.1.1, fun x hx => spn_b (h.2.1.2 x hx)⟩, h.1.2.1⟩, h.2.2.2.1, h.2.2.2.2⟩
set_option maxRecDepth 100000 in
theorem args_inv {xs : List Aa} (h : KW 1048576 Tryz.prog 30 [29, 5] xs) : ∃ (a1 : Ba) (a2 : Int), Ws xs [.agg a1.cells, .int .u8 a2] ∧ B_api_Side 1048576 a1 ∧ (0 ≤ a2 ∧ a2 ≤ 255) := by
  match xs, h with
  | [x1, x2], ⟨⟨u1, e1, o1⟩, ⟨u2, e2, o2⟩, _⟩ =>
  have t5 : Gs Tryz.prog 30 5 = some [.int .u8] := by kernel_rfl
  have g5 : Gt Tryz.prog 5 = false := by kernel_rfl
  have t29 : Gs Tryz.prog 30 29 = some [.int .i64, .slc [.int .i64], .slc [.int .i64, .int .i64, .bool, .str, .str, .int .i64, .slc [.int .i64, .bool, .str, .str]], .bool, .str, .str] := by kernel_rfl
  have g29 : Gt Tryz.prog 29 = true := by kernel_rfl
  obtain rfl := Option.some.inj (t29.symm.trans e1)
  rcases o1 with ⟨_, y1, rfl, h1⟩ | ⟨h, _⟩
  rotate_left
  · rw [g29] at h; cases h
  obtain ⟨s1, w1, b1⟩ := i_api_Side h1
  obtain rfl := Option.some.inj (t5.symm.trans e2)
  rcases o2 with ⟨h, _⟩ | ⟨_, s2, cq, h2⟩
  · rw [g5] at h; cases h
  obtain rfl : .int .u8 = s2 := by injection cq
  obtain ⟨s2, w2, b2⟩ := i_T5 (CV.one h2)
  exact ⟨s1, s2, ⟨Gu.2 w1, w2.1, trivial⟩, b1, b2⟩
theorem law_all (xs : List Aa) (h : KW 1048576 Tryz.prog 30 Tryz.f9.params.toList xs) : AY EE Tryz.prog 9 xs (.bool true) := by
  rw [Tryz.params9] at h
  obtain ⟨a1, a2, hw, b1, b2⟩ := args_inv h
  have hk : AY EE Tryz.prog 9 [.agg a1.cells, .int .u8 a2] (.bool true) := yk9.still (x := (a1, a2)) (y := true) (kz0h (sid_b b1) b2) (by kernel_rfl)
  exact hk.w hw
theorem laws_shape : ∀ t ∈ ([29, 5] : List TypeId), (Gs Tryz.prog 30 t).isSome = true := by
  intro t ht
  simp only [List.mem_cons, List.not_mem_nil, or_false] at ht
  rcases ht with rfl | rfl <;> kernel_rfl
mutual
theorem bulk_eq {H : Type} : ∀ d : DataW H, Bn d = YtomegmhiddbmbaaGreatDoor.Rows.uptoBulk d
  | .lit l => by cases l <;> rfl
  | .nil => rfl
  | .ptr d => by rw [Bn, YtomegmhiddbmbaaGreatDoor.Rows.uptoBulk, bulk_eq d]
  | .slice a b => by rw [Bn, YtomegmhiddbmbaaGreatDoor.Rows.uptoBulk, bulks_eq a, bulks_eq b]
  | .agg a => by rw [Bn, YtomegmhiddbmbaaGreatDoor.Rows.uptoBulk, bulks_eq a]
  | .iface _ d => by rw [Bn, YtomegmhiddbmbaaGreatDoor.Rows.uptoBulk, bulk_eq d]
  | .map a => by rw [Bn, YtomegmhiddbmbaaGreatDoor.Rows.uptoBulk, bulkes_eq a]
  | .held _ => rfl
theorem bulks_eq {H : Type} : ∀ l : List (DataW H), dBulkAll l = YtomegmhiddbmbaaGreatDoor.Rows.uptoBulkAll l
  | [] => rfl
  | d :: r => by rw [dBulkAll, YtomegmhiddbmbaaGreatDoor.Rows.uptoBulkAll, bulk_eq d, bulks_eq r]
theorem bulkes_eq {H : Type} : ∀ l : List (Lit × DataW H), NS l = YtomegmhiddbmbaaGreatDoor.Rows.uptoBulkEntries l
  | [] => rfl
  | x :: r => by rw [NS, YtomegmhiddbmbaaGreatDoor.Rows.uptoBulkEntries, bulke_eq x, bulkes_eq r]
theorem bulke_eq {H : Type} : ∀ x : Lit × DataW H, Ra x = YtomegmhiddbmbaaGreatDoor.Rows.uptoBulkEntry x
  | (l, d) => by cases l <;> simp only [Ra, YtomegmhiddbmbaaGreatDoor.Rows.uptoBulkEntry, bulk_eq d]
end
theorem bulk_app {H : Type} : ∀ a b : List (DataW H), dBulkAll a ≤ dBulkAll (a ++ b)
  | [], b => by rw [dBulkAll]; exact Nat.zero_le _
  | d :: a, b => by
    have := bulk_app a b
    rw [List.cons_append, dBulkAll, dBulkAll]
    omega
end Go.Am
namespace Go.Proofs.YtomegmhiddbmbaaGreatDoor
open Go.ChangeShapes Go.WideShapes Go.ChangeAt Go.RowKit
theorem own : ownKnob Tryz.prog.godebug = none := by kernel_rfl
theorem spec3 {H : Type} : ∀ ds : List (DataW H), ds.length = Tryz.f9.params.toList.length → Rows.levelFitsTogetherSpec.fn H ds = { results := [.lit (.bool true)], args := ds } := by
  intro ds h
  rw [Tryz.params9] at h
  match ds, h with
  | [_, _], _ => rfl
set_option maxRecDepth 100000 in
theorem contract3 (H : Type) (enc : TypeId × Value → H) (W : World) (base : Nat) (args : Array Value) (ds gs : List (DataW H)) (before : List MemPlace)
    (bq : ∀ (j : Nat) t v, Tryz.f9.params[j]? = some t → args[j]? = some v → Value.okWide Tryz.prog W .any base t v)
    (hW : DataW.Whole enc Tryz.prog Tryz.f9.params.toList Rows.levelFitsTogetherSpec.vars false W args.toList ds gs before)
    (hb : Am.dBulkAll ds ≤ 1048576) :
    Calls Tryz.prog 9 args W fun e W' => ∃ v, e = .returned v ∧ Rows.levelFitsTogetherSpec.post enc Tryz.prog Tryz.f9 false true false false W args v W' :=
  Am.law_contract (E := Am.EE) (N := 1048576) (m := 30) (tb := 4) (laid := Rows.levelFitsTogetherUptoRow.laid.map id) (by rw [Tryz.params9]; exact Am.laws_shape) (by kernel_rfl) Tryz.underlying4 rfl spec3 (fun g hg i => .top _) (.inr hb) Am.law_all bq hW
def lay (l : List Nat) : Obj → Obj
  | .cells _ t frozen => .cells (l.map fun n : Nat => Value.int .u8 (n : Int)).toArray t frozen
  | o => o
noncomputable def laidWorld (os : Os) : World :=
  { World.holding Tryz.prog os ⟨#[], #[], []⟩ with heap := ((World.holding Tryz.prog os ⟨#[], #[], []⟩).heap.modify 0 (lay Go.Pinned.utf8FirstZ)).modify 1 (lay [128, 191, 160, 191, 128, 159, 144, 191, 128, 143, 0, 0, 0, 0, 0, 0, 0, 0, 0, 0, 0, 0, 0, 0, 0, 0, 0, 0, 0, 0, 0, 0]) }
def wit : Array Value := #[.agg #[.int .i64 0, .slice none 0 0, .slice none 0 0, .bool false, .string (ByteArray.mk #[]), .string (ByteArray.mk #[])], .int .u8 0]
set_option maxRecDepth 100000 in
theorem laid_met (os : Os) : laidMet Tryz.prog Rows.levelFitsTogetherUptoRow.laid ((laidWorld os).forCall (fun _ _ => 0) ⟨#[], wit, []⟩).memory :=
  laidMet_of_run' 300 (by kernel_rfl) (by kernel_rfl)
def witD {H : Type} : List (DataW H) := [.agg [.agg [.lit (.int .i64 0), .nil], .nil, .agg [.lit (.bool false), .lit (.string []), .lit (.string [])]], .lit (.int .u8 0)]
theorem reads3 (os : Os) {H : Type} (enc : TypeId × Value → H) : ∃ places, DataW.whole enc Tryz.prog ((laidWorld os).forCall (fun _ _ => 0) ⟨#[], wit, []⟩).memory Tryz.f9.params.toList Rows.levelFitsTogetherSpec.vars false wit.toList 8 = some (witD, [], places) :=
  ⟨[], by kernel_rfl⟩
set_option maxRecDepth 100000 in
theorem lifted3 (os : Os) (started : os.Started) (H : Type) (enc : TypeId × Value → H) (F : Stop.Interp) :
    ReturnsInHanded {} Tryz.checked os 9 .any ((Rows.OpenSpec.upto Rows.levelFitsTogetherSpec).preRow enc Tryz.prog Tryz.f9 Rows.levelFitsTogetherUptoRow.domain false Rows.levelFitsTogetherUptoRow.laid) (((Rows.OpenSpec.upto Rows.levelFitsTogetherSpec).at F).post enc Tryz.prog Tryz.f9 false true false false) := by
  obtain ⟨places, hx⟩ := reads3 os enc
  refine returnsInHanded_of_row (C := Tryz.checked) (s := Rows.OpenSpec.upto Rows.levelFitsTogetherSpec) own started (by kernel_rfl) Tryz.func9
    (witness_row_at (enc := enc) (C := Tryz.checked) false (laidWorld os) wit rfl (by kernel_rfl) (by kernel_rfl) (by kernel_rfl)
      (OpenSpec.preRow_of_cond 8 hx (by kernel_rfl) (fun k hk => by cases hk; kernel_rfl) (by kernel_rfl) (laid_met os))) ?_
  intro W base args ds gs before bq hW _ aX _ hL _ _
  exact contract3 H enc W base args ds gs before bq hW (by
    have hc := of_decide_eq_true (aX _ rfl)
    rw [← Am.bulks_eq] at hc
    exact Nat.le_trans (Am.bulk_app ds gs) hc)
theorem said3 : Rows.LevelFitsTogetherUptoSaid :=
  OpenClaim.holds_of_cond 9 Tryz.f9 rfl rfl rfl rfl rfl rfl rfl ⟨rfl, rfl, rfl, rfl, rfl⟩ rfl rfl rfl rfl rfl (by kernel_rfl) Tryz.func9 (by kernel_rfl)
    (of_decide_eq_true (by kernel_rfl)) (by unfold Func.isWrapper; first | (rw [if_pos (by decide +kernel)]; kernel_rfl) | (rw [if_neg (by decide +kernel)]; exact ⟨rfl, rfl⟩))
    (fun os started H enc _ F => by rw [OpenClaim.pre_eq_preRow]; exact lifted3 os started H enc F)
theorem plain3 (f : FuncId) (fn : Func) (hf : Tryz.pinned.checked.prog.funcNamed "rivermark/rivermarklaw18.LevelFitsTogether" = some f) (iq : Tryz.pinned.checked.prog.funcs[f]? = some fn) :
    false = Tryz.pinned.checked.prog.looks [] ∧ ∀ (j : Nat) t, fn.params[j]? = some t → Tryz.pinned.checked.prog.wantsStandIn t = false := by
  obtain rfl : f = 9 := Option.some.inj ((show Tryz.prog.funcNamed "rivermark/rivermarklaw18.LevelFitsTogether" = some 9 by kernel_rfl).symm.trans hf) |>.symm
  obtain rfl : fn = Tryz.f9 := (Option.some.inj (Tryz.func9.symm.trans iq)).symm
  refine ⟨by kernel_rfl, fun j t ht => ?_⟩
  rw [Tryz.params9] at ht
  have hm : t ∈ ([29, 5] : List TypeId) := by simpa using Array.mem_of_getElem? ht
  simp only [List.mem_cons, List.not_mem_nil, or_false] at hm
  rcases hm with rfl | rfl
  · exact (show Tryz.prog.wantsStandIn 29 = false by kernel_rfl)
  · exact (show Tryz.prog.wantsStandIn 5 = false by kernel_rfl)
theorem levelFitsTogether_holds : Rows.LevelFitsTogetherUptoCardSaid :=
  Claim7.holds_tied_plain_at .later [] _ _ _ _ said3 (fun _ h => by cases h) (by kernel_rfl) (fun _ h => by cases h) levelFitsTogetherUpto_row_tie rfl ⟨rfl, rfl⟩ (by kernel_rfl) rfl plain3 (by kernel_rfl)
end Go.Proofs.YtomegmhiddbmbaaGreatDoor

