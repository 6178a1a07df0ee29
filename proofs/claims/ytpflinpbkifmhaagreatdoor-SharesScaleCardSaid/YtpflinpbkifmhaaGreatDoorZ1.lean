/- For every compact of at most 8 shares without an error, every flow and any two numbers of 16 bits the law function SharesScale returns true and leaves its arguments as they were. Conditions: none beyond those of the given row, that two tables of Go's own read as their initialisers lay them, which the given tie pays. -/
import Derived.Test.YtpflinpbkifmhaaGreatDoorCards
import Derived.Test.YtpflinpbkifmhaaGreatDoorTie
import Derived.Test.YtpflinpbkifmhaaGreatDoorP2
import Derived.Test.YtpflinpbkifmhaaGreatDoorS1
import Derived.Test.YtpflinpbkifmhaaGreatDoorA4
set_option linter.unusedVariables false
set_option linter.unusedSimpArgs false
namespace Go.Am
open Go.Proofs
theorem rat_inv {xs : List AVal} (h : kz7 [.bool, .str, .str] xs) : ∃ z : qza, xs = z.cells := by
  obtain ⟨x, xs, rfl, h1, h⟩ := h.cons_inv
  obtain ⟨y, xs, rfl, h2, h⟩ := h.cons_inv
  obtain ⟨z, xs, rfl, h3, h⟩ := h.cons_inv
  obtain rfl := h.nil_inv
  obtain ⟨a, rfl⟩ := h1.bool_inv
  obtain ⟨b, rfl, _⟩ := h2.str_inv
  obtain ⟨c, rfl, _⟩ := h3.str_inv
  exact ⟨⟨a, b, c⟩, rfl⟩
theorem share_inv {xs : List AVal} (h : kz7 [.int .i64, .int .i64, .bool, .str, .str, .bool, .str, .str] xs) : ∃ z : qzb, xs = z.cells := by
  obtain ⟨x1, xs, rfl, h1, h⟩ := h.cons_inv
  obtain ⟨x2, xs, rfl, h2, h⟩ := h.cons_inv
  obtain ⟨x3, xs, rfl, h3, h⟩ := h.cons_inv
  obtain ⟨x4, xs, rfl, h4, h⟩ := h.cons_inv
  obtain ⟨x5, xs, rfl, h5, h⟩ := h.cons_inv
  obtain ⟨x6, xs, rfl, h6, h⟩ := h.cons_inv
  obtain ⟨x7, xs, rfl, h7, h⟩ := h.cons_inv
  obtain ⟨x8, xs, rfl, h8, h⟩ := h.cons_inv
  obtain rfl := h.nil_inv
  obtain ⟨a1, rfl, _, _⟩ := h1.int_inv
  obtain ⟨a2, rfl, _, _⟩ := h2.int_inv
  obtain ⟨a3, rfl⟩ := h3.bool_inv
  obtain ⟨a4, rfl, _⟩ := h4.str_inv
  obtain ⟨a5, rfl, _⟩ := h5.str_inv
  obtain ⟨a6, rfl⟩ := h6.bool_inv
  obtain ⟨a7, rfl, _⟩ := h7.str_inv
  obtain ⟨a8, rfl, _⟩ := h8.str_inv
  exact ⟨⟨a1, a2, ⟨a3, a4, a5⟩, ⟨a6, a7, a8⟩⟩, rfl⟩
theorem list_inv {α : Type} [Inhabited α] {c : α → List AVal} {n : Nat} {f : Nat → List AVal} (h : ∀ i, i < n → ∃ z : α, f i = c z) : ∃ l : List α, l.length = n ∧ ∀ k, k < n → qzd c l k = f k := by
  have ex : ∀ i, ∃ z : α, i < n → f i = c z := fun i => by
    by_cases hi : i < n
    · obtain ⟨z, hz⟩ := h i hi
      exact ⟨z, fun _ => hz⟩
    · exact ⟨default, fun h => absurd h hi⟩
  refine ⟨(List.range n).map fun i => (ex i).choose, by simp, fun k hk => ?_⟩
  rw [qzo (x := (ex k).choose) (by simp [hk])]
  exact ((ex k).choose_spec hk).symm
theorem vsub_ws {st n : Nat} {f f' : Nat → List AVal} (h : ∀ k, k < n → f' k = f k) : W (.slc st n f) (.slc st n f') := qzpo.2 ⟨rfl, rfl, fun k hk => by rw [h k hk]; exact .refl _⟩
theorem arr_inv {xs : List AVal} (h : kz7 [.int .u16, .int .u16] xs) : ∃ z : kzi, xs = z.cells ∧ (0 ≤ z.e0 ∧ z.e0 ≤ 65535) ∧ (0 ≤ z.e1 ∧ z.e1 ≤ 65535) := by
  obtain ⟨x, xs, rfl, h1, h⟩ := h.cons_inv
  obtain ⟨y, xs, rfl, h2, h⟩ := h.cons_inv
  obtain rfl := h.nil_inv
  obtain ⟨a, rfl, p1, p2⟩ := h1.int_inv
  obtain ⟨b, rfl, q1, q2⟩ := h2.int_inv
  have e1 : IntKind.u16.min = 0 := by decide
  have e2 : IntKind.u16.max = 65535 := by decide
  rw [e1] at p1 q1
  rw [e2] at p2 q2
  exact ⟨⟨a, b⟩, rfl, ⟨p1, p2⟩, q1, q2⟩
set_option maxRecDepth 100000 in
theorem args_inv {xs : List AVal} (h : qzma Tryz.prog 30 [22, 24, 55] xs) : ∃ (l : List qzb) (a : qza) (d : kzi), (0 ≤ d.e0 ∧ d.e0 ≤ 65535) ∧ (0 ≤ d.e1 ∧ d.e1 ≤ 65535) ∧ Ws xs [slcV 8 qzb.cells l, .agg a.cells, .agg d.cells] := by
  match xs, h with
  | [x, y, z], ⟨⟨s1, e1, o1⟩, ⟨s2, e2, o2⟩, ⟨s3, e3, o3⟩, _⟩ =>
  have t1 : kzd Tryz.prog 30 22 = some [.slc [.int .i64, .int .i64, .bool, .str, .str, .bool, .str, .str]] := by kernel_rfl
  have t2 : kzd Tryz.prog 30 24 = some [.bool, .str, .str] := by kernel_rfl
  have t3 : kzd Tryz.prog 30 55 = some [.int .u16, .int .u16] := by kernel_rfl
  have a1 : qzgq Tryz.prog 22 = false := by kernel_rfl
  have a2 : qzgq Tryz.prog 24 = true := by kernel_rfl
  have a3 : qzgq Tryz.prog 55 = true := by kernel_rfl
  obtain rfl := Option.some.inj (t1.symm.trans e1)
  obtain rfl := Option.some.inj (t2.symm.trans e2)
  obtain rfl := Option.some.inj (t3.symm.trans e3)
  rcases o1 with ⟨h, _⟩ | ⟨_, s, hs, h1⟩
  · rw [a1] at h; cases h
  rcases o2 with ⟨_, ys, rfl, h2⟩ | ⟨h, _⟩
  rotate_left
  · rw [a2] at h; cases h
  rcases o3 with ⟨_, zs, rfl, h3⟩ | ⟨h, _⟩
  rotate_left
  · rw [a3] at h; cases h
  obtain rfl : .slc [.int .i64, .int .i64, .bool, .str, .str, .bool, .str, .str] = s := by injection hs
  obtain ⟨n, f, rfl, _, hf⟩ := h1.slc_inv
  obtain ⟨a, rfl⟩ := rat_inv h2
  obtain ⟨d, rfl, hd1, hd2⟩ := arr_inv h3
  obtain ⟨l, hl, hk⟩ := list_inv (c := qzb.cells) (fun i hi => share_inv (hf i hi))
  subst hl
  exact ⟨l, a, d, hd1, hd2, vsub_ws hk, .refl _, .refl _, trivial⟩
theorem law_all (xs : List AVal) (h : qzma Tryz.prog 30 Tryz.f6.params.toList xs) : qzq EE Tryz.prog 6 xs (.bool true) := by
  rw [Tryz.params6] at h
  obtain ⟨l, a, d, h1, h2, hw⟩ := args_inv h
  exact (wz0m l a d true (wz1c u9 l a d h1 h2)).w hw
theorem laws_shape : ∀ t ∈ ([22, 24, 55] : List TypeId), (kzd Tryz.prog 30 t).isSome = true := by
  intro t ht
  simp only [List.mem_cons, List.not_mem_nil, or_false] at ht
  rcases ht with rfl | rfl | rfl <;> kernel_rfl
end Go.Am
namespace Go.Proofs.YtpflinpbkifmhaaGreatDoor
open Go.ChangeShapes Go.WideShapes Go.ChangeAt Go.RowKit
theorem own : ownKnob Tryz.prog.godebug = none := by kernel_rfl
theorem spec3 {H : Type} : ∀ ds : List (DataW H), ds.length = Tryz.f6.params.toList.length → Rows.sharesScaleSpec.fn H ds = { results := [.lit (.bool true)], args := ds } := by
  intro ds h
  rw [Tryz.params6] at h
  match ds, h with
  | [_, _, _], _ => rfl
set_option maxRecDepth 100000 in
theorem contract3 (H : Type) (enc : TypeId × Value → H) (W : World) (base : Nat) (args : Array Value) (ds gs : List (DataW H)) (before : List MemPlace)
    (hval : ∀ (j : Nat) t v, Tryz.f6.params[j]? = some t → args[j]? = some v → Value.okWide Tryz.prog W .any base t v)
    (hW : DataW.Whole enc Tryz.prog Tryz.f6.params.toList Rows.sharesScaleSpec.vars false W args.toList ds gs before) :
    Calls Tryz.prog 6 args W fun e W' => ∃ v, e = .returned v ∧ Rows.sharesScaleSpec.post enc Tryz.prog Tryz.f6 false true false false W args v W' :=
  Am.law_contract (E := Am.EE) (m := 30) (tb := 4) (laid := Rows.sharesScaleRow.laid.map id) (by rw [Tryz.params6]; exact Am.laws_shape) (by kernel_rfl) Tryz.underlying4 rfl spec3 (fun g hg i => .top _) Am.law_all hval hW
def lay (l : List Nat) : Obj → Obj
  | .cells _ t frozen => .cells (l.map fun n : Nat => Value.int .u8 (n : Int)).toArray t frozen
  | o => o
noncomputable def laidWorld (os : Os) : World :=
  { World.holding Tryz.prog os ⟨#[], #[], []⟩ with heap := ((World.holding Tryz.prog os ⟨#[], #[], []⟩).heap.modify 0 (lay Go.Pinned.utf8FirstZ)).modify 1 (lay [128, 191, 160, 191, 128, 159, 144, 191, 128, 143, 0, 0, 0, 0, 0, 0, 0, 0, 0, 0, 0, 0, 0, 0, 0, 0, 0, 0, 0, 0, 0, 0]) }
def wit : Array Value := #[.slice none 0 0, .agg #[.bool false, .string (ByteArray.mk #[]), .string (ByteArray.mk #[])], .agg #[.int .u16 0, .int .u16 0]]
set_option maxRecDepth 100000 in
theorem laid_met (os : Os) : laidMet Tryz.prog Rows.sharesScaleRow.laid ((laidWorld os).forCall (fun _ _ => 0) ⟨#[], wit, []⟩).memory :=
  laidMet_of_run' 300 (by kernel_rfl) (by kernel_rfl)
def witD {H : Type} : List (DataW H) := [.nil, .agg [.lit (.bool false), .lit (.string []), .lit (.string [])], .agg [.lit (.int .u16 0), .lit (.int .u16 0)]]
theorem reads3 (os : Os) {H : Type} (enc : TypeId × Value → H) : ∃ places, DataW.whole enc Tryz.prog ((laidWorld os).forCall (fun _ _ => 0) ⟨#[], wit, []⟩).memory Tryz.f6.params.toList Rows.sharesScaleSpec.vars false wit.toList 8 = some (witD, [], places) :=
  ⟨[], by kernel_rfl⟩
set_option maxRecDepth 100000 in
theorem lifted3 (os : Os) (started : os.Started) (H : Type) (enc : TypeId × Value → H) (F : Stop.Interp) :
    ReturnsInHanded {} Tryz.checked os 6 .any ((OpenSpec.ofChange Rows.sharesScaleSpec).preRow enc Tryz.prog Tryz.f6 Rows.sharesScaleRow.domain false Rows.sharesScaleRow.laid) (((OpenSpec.ofChange Rows.sharesScaleSpec).at F).post enc Tryz.prog Tryz.f6 false true false false) := by
  obtain ⟨places, hx⟩ := reads3 os enc
  refine returnsInHanded_of_row (C := Tryz.checked) (s := OpenSpec.ofChange Rows.sharesScaleSpec) own started (by kernel_rfl) Tryz.func6
    (witness_row_at (enc := enc) (C := Tryz.checked) false (laidWorld os) wit rfl (by kernel_rfl) (by kernel_rfl) (by kernel_rfl)
      (OpenSpec.preRow_of_cond 8 hx (by kernel_rfl) (fun k hk => by cases hk) (by kernel_rfl) (laid_met os))) ?_
  intro W base args ds gs before hval hW _ _ _ hL _ _
  exact contract3 H enc W base args ds gs before hval hW
theorem said3 : Rows.SharesScaleSaid :=
  OpenClaim.holds_of_cond 6 Tryz.f6 rfl rfl rfl rfl rfl rfl rfl ⟨rfl, rfl, rfl, rfl, rfl⟩ rfl rfl rfl rfl rfl (by kernel_rfl) Tryz.func6 (by kernel_rfl)
    (of_decide_eq_true (by kernel_rfl)) (by unfold Func.isWrapper; first | (rw [if_pos (by decide +kernel)]; kernel_rfl) | (rw [if_neg (by decide +kernel)]; exact ⟨rfl, rfl⟩))
    (fun os started H enc _ F => by rw [OpenClaim.pre_eq_preRow]; exact lifted3 os started H enc F)
theorem plain3 (f : FuncId) (fn : Func) (hf : Tryz.pinned.checked.prog.funcNamed "rivermark/rivermarklaw40.SharesScale" = some f) (hfn : Tryz.pinned.checked.prog.funcs[f]? = some fn) :
    false = Tryz.pinned.checked.prog.looks [] ∧ ∀ (j : Nat) t, fn.params[j]? = some t → Tryz.pinned.checked.prog.wantsStandIn t = false := by
  obtain rfl : f = 6 := Option.some.inj ((show Tryz.prog.funcNamed "rivermark/rivermarklaw40.SharesScale" = some 6 by kernel_rfl).symm.trans hf) |>.symm
  obtain rfl : fn = Tryz.f6 := (Option.some.inj (Tryz.func6.symm.trans hfn)).symm
  refine ⟨by kernel_rfl, fun j t ht => ?_⟩
  rw [Tryz.params6] at ht
  have hm : t ∈ ([22, 24, 55] : List TypeId) := by simpa using Array.mem_of_getElem? ht
  simp only [List.mem_cons, List.not_mem_nil, or_false] at hm
  rcases hm with rfl | rfl | rfl
  · exact (show Tryz.prog.wantsStandIn 22 = false by kernel_rfl)
  · exact (show Tryz.prog.wantsStandIn 24 = false by kernel_rfl)
  · exact (show Tryz.prog.wantsStandIn 55 = false by kernel_rfl)
theorem sharesScale_holds : Rows.SharesScaleCardSaid :=
  Claim7.holds_tied_plain_at .later [] _ _ _ _ said3 (fun _ h => by cases h) (by kernel_rfl) (fun _ h => by cases h) sharesScale_row_tie rfl ⟨rfl, rfl⟩ (by kernel_rfl) rfl plain3 (by kernel_rfl)
end Go.Proofs.YtpflinpbkifmhaaGreatDoor

