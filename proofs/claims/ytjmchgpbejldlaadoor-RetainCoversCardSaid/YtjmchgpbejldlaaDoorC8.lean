/- Part C8 of the proof that the last part closes: contracts of functions and plain lemmas. No condition. -/
import Derived.Test.YtjmchgpbejldlaaDoorChecked
import Derived.Shelf.Sort.Plain
import Derived.Test.YtjmchgpbejldlaaDoorC6
import Derived.Test.YtjmchgpbejldlaaDoorA5
import Derived.Test.YtjmchgpbejldlaaDoorT1
import Derived.Test.YtjmchgpbejldlaaDoorC7
namespace Go.Proofs
open Go.Shelf
def Tryd.lays189_ren : Go.Shelf.Ren := ⟨fun | 189 => 60 | 125 => 74 | 257 => 73 | 128 => 86 | 129 => 87 | 294 => 77 | 295 => 78 | 296 => 79 | 297 => 80 | 298 => 81 | 299 => 82 | 216 => 83 | 300 => 84 | 301 => 85 | 328 => 90 | 329 => 91 | 330 => 92 | 331 => 93 | 332 => 94 | 215 => 95 | 343 => 97 | n => n, fun | 28 => 58 | 3 => 3 | 46 => 128 | 0 => 0 | 51 => 142 | 53 => 144 | 4 => 4 | 183 => 135 | 182 => 134 | 131 => 139 | 5 => 5 | 9 => 9 | 218 => 145 | 222 => 149 | 228 => 151 | 229 => 152 | n => n, fun | n => n⟩
theorem Tryd.lays189 : Go.Proofs.Lays.n189 Tryd.prog Tryd.lays189_ren := {
  mixed := by kernel_rfl
  f125 := Tryd.func74.trans (congrArg some (by kernel_rfl))
  f128 := Tryd.func86.trans (congrArg some (by kernel_rfl))
  f129 := Tryd.func87.trans (congrArg some (by kernel_rfl))
  f189 := Tryd.func60.trans (congrArg some (by kernel_rfl))
  f215 := Tryd.func95.trans (congrArg some (by kernel_rfl))
  f216 := Tryd.func83.trans (congrArg some (by kernel_rfl))
  f257 := Tryd.func73.trans (congrArg some (by kernel_rfl))
  f294 := Tryd.func77.trans (congrArg some (by kernel_rfl))
  f295 := Tryd.func78.trans (congrArg some (by kernel_rfl))
  f296 := Tryd.func79.trans (congrArg some (by kernel_rfl))
  f297 := Tryd.func80.trans (congrArg some (by kernel_rfl))
  f298 := Tryd.func81.trans (congrArg some (by kernel_rfl))
  f299 := Tryd.func82.trans (congrArg some (by kernel_rfl))
  f300 := Tryd.func84.trans (congrArg some (by kernel_rfl))
  f301 := Tryd.func85.trans (congrArg some (by kernel_rfl))
  f328 := Tryd.func90.trans (congrArg some (by kernel_rfl))
  f329 := Tryd.func91.trans (congrArg some (by kernel_rfl))
  f330 := Tryd.func92.trans (congrArg some (by kernel_rfl))
  f331 := Tryd.func93.trans (congrArg some (by kernel_rfl))
  f332 := Tryd.func94.trans (congrArg some (by kernel_rfl))
  f343 := Tryd.func97.trans (congrArg some (by kernel_rfl))
  t0 := Tryd.underlying0
  a0 := Tryd.isAgg0
  z0 := Tryd.sizeOf0
  v0 := Tryd.zeroValue0
  t3 := Tryd.underlying3
  a3 := Tryd.isAgg3
  z3 := Tryd.sizeOf3
  v3 := Tryd.zeroValue3
  t4 := Tryd.underlying4
  a4 := Tryd.isAgg4
  z4 := Tryd.sizeOf4
  v4 := Tryd.zeroValue4
  t5 := Tryd.underlying5
  a5 := Tryd.isAgg5
  z5 := Tryd.sizeOf5
  v5 := Tryd.zeroValue5
  t9 := Tryd.underlying9
  a9 := Tryd.isAgg9
  z9 := Tryd.sizeOf9
  v9 := Tryd.zeroValue9
  t28 := Tryd.underlying58
  a28 := Tryd.isAgg58
  z28 := Tryd.sizeOf58
  v28 := Tryd.zeroValue58
  t46 := Tryd.underlying128
  a46 := Tryd.isAgg128
  z46 := Tryd.sizeOf128
  v46 := Tryd.zeroValue128
  t51 := Tryd.underlying142
  a51 := Tryd.isAgg142
  z51 := Tryd.sizeOf142
  v51 := Tryd.zeroValue142
  t53 := Tryd.underlying144
  a53 := Tryd.isAgg144
  z53 := Tryd.sizeOf144
  v53 := Tryd.zeroValue144
  t131 := Tryd.underlying139
  a131 := Tryd.isAgg139
  z131 := Tryd.sizeOf139
  v131 := Tryd.zeroValue139
  t182 := Tryd.underlying134
  a182 := Tryd.isAgg134
  z182 := Tryd.sizeOf134
  v182 := Tryd.zeroValue134
  t183 := Tryd.underlying135
  a183 := Tryd.isAgg135
  z183 := Tryd.sizeOf135
  v183 := Tryd.zeroValue135
  t218 := Tryd.underlying145
  a218 := Tryd.isAgg145
  z218 := Tryd.sizeOf145
  v218 := Tryd.zeroValue145
  t222 := Tryd.underlying149
  a222 := Tryd.isAgg149
  z222 := Tryd.sizeOf149
  v222 := Tryd.zeroValue149
  t228 := Tryd.underlying151
  a228 := Tryd.isAgg151
  z228 := Tryd.sizeOf151
  v228 := Tryd.zeroValue151
  t229 := Tryd.underlying152
  a229 := Tryd.isAgg152
  z229 := Tryd.sizeOf152
  v229 := Tryd.zeroValue152 }
end Go.Proofs
set_option linter.unusedVariables false
set_option linter.unusedSimpArgs false
set_option maxRecDepth 8000
namespace Go.Am
open Go.Proofs
attribute [local simp] areg aop dreg dop AOp.req argv argU AOp.args uncAll AOp.unAll Req.val Req.when putT putH athen ablk reqBin reqInt gcond unc unv pickB ressOk ARes.ok retVal ARes.val cut inr AOp.quiet
attribute [local simp] noRef_int noRef_bool noRef_str noRef_nils noRef_agg noRef_tup noRef_slc noRef_fn
attribute [local simp] vsub_top VSub.refl TSub vsub_int
attribute [local simp] AObj.plain AObj.owned AObj.ep hset h0 reqLoad reqStore acells allOne AVal.one lay fills ldv fzv fzl fz1
theorem nodup_len : ∀ (n : Nat) (l : List Nat), l.Nodup → (∀ x, x ∈ l → x < n) → l.length ≤ n
  | 0, l, _, h => by
    cases l with
    | nil => simp
    | cons x l => exact absurd (h x (by simp)) (by omega)
  | n + 1, l, hd, h => by
    have h1 := nodup_len n (l.erase n) (hd.erase n) (fun x hx => by
      have h2 := (hd.mem_erase_iff).1 hx
      have := h x h2.2
      omega)
    have := List.length_erase_le (a := n) (l := l)
    by_cases hm : n ∈ l
    · rw [List.length_erase_of_mem hm] at h1; omega
    · rw [List.erase_of_not_mem hm] at h1; omega
structure KCons (b L e N : Nat) (HC : List Int → AHeap → Prop) : Prop where
  loc : ∀ l h h', (∀ i, i < b → h' i = h i) → HC l h → HC l h'
  round : ∀ l k h, l.length < N → HC l h → Round EE Tryd.prog L e [.int .i64 k] h (fun v h' => v = .bool true ∧ HC (l ++ [k]) h' ∧ ∀ i, b ≤ i → h' i = h i)
def H61 (b M eM n : Nat) (seen : List Nat) (hb : AHeap) : AHeap := fun i => if i < b then hb i else if i = b then .miter 1 (some (M, eM, n)) seen else .gone 0
def S61 (b L e B eB M eM n : Nat) (x : List Nat × AHeap) : ASt := ⟨.yld L e :: .ptr B eB 0 :: .top :: .top :: .top :: .ptr b 1 0 :: List.replicate 8 .top, H61 b M eM n x.1 x.2, []⟩
theorem S61_def (b L e B eB M eM n : Nat) (x : List Nat × AHeap) : S61 b L e B eB M eM n x = ⟨.yld L e :: .ptr B eB 0 :: .top :: .top :: .top :: .ptr b 1 0 :: List.replicate 8 .top, H61 b M eM n x.1 x.2, []⟩ := rfl
theorem keys61_ok (b L e B eB M eM : Nat) (es : List (AVal × AVal)) (ky : Nat → Int) (hB : B < b) (hM : M < b) (HC : List Int → AHeap → Prop) (C : KCons b L e es.length HC)
    (hBo : ∀ l h, HC l h → h B = .box eB [.mp M eM] ∧ h M = .amap eM es) (hk : ∀ k, k < es.length → (es.getD k (.top, .top)).1 = .int .i64 (ky k)) (h : AHeap) (hh : HC [] h) (hp : ∀ i, b ≤ i → h i = .gone 0) :
    ATr EE Tryd.prog 61 [.yld L e, .ptr B eB 0] h (fun v h' => ∃ ord : List Nat, ord.Nodup ∧ (∀ x, x ∈ ord ↔ x < es.length) ∧ HC (ord.map ky) h') := by
  obtain ⟨c, hbd, hc⟩ := ck61
  refine ATr.of (fn := Tryd.f61) rfl hbd cr61 (hc b) 12 rfl ?_
  have p0 := hp b (Nat.le_refl _)
  obtain ⟨o1, o2⟩ := hBo _ _ hh
  have hMb : ¬ (M = b) := by omega
  have hBb : ¬ (B = b) := by omega
  refine AW.sr (by simp [r61_0, o1, o2, reqMrange, p0]; rfl) ?_
  refine .block (.loop (S61 b L e B eB M eM es.length) (fun x => es.length - x.1.length) (fun x => x.1.Nodup ∧ (∀ j, j ∈ x.1 → j < es.length) ∧ HC (x.1.map ky) x.2) ([], h) ⟨.nil, (by intro j hj; cases hj), hh⟩ (.of_sub ⟨?_, fun i => .of_eq ?_, rfl, by simp⟩) ?_)
  · simp [List.replicate, S61]
  · simp only [S61, H61]
    by_cases h1 : i < b
    · simp [h1, show ¬ (i = b) by omega]
    · by_cases h2 : i = b
      · subst h2; simp
      · have := hp i (by omega)
        simp [h1, h2, this]
  rintro ⟨seen, hb⟩ ⟨hnd, hlt, hHC⟩
  simp only at hnd hlt hHC
  obtain ⟨q1, q2⟩ := hBo _ _ hHC
  have eM1 : H61 b M eM es.length seen hb M = .amap eM es := by simp [H61, hM, q2]
  have eb1 : H61 b M eM es.length seen hb b = .miter 1 (some (M, eM, es.length)) seen := by simp [H61]
  refine .seq (.reg ?_)
  simp [r61_1, S61_def _ _ _ _ _ _ _ _ (seen, hb), List.replicate, anext, eM1, eb1]
  refine ⟨fun k hk1 hk2 => ?_, fun hall => ?_⟩
  · have hkk : es[k].fst = .int .i64 (ky k) := by have := hk k hk1; simpa [hk1] using this
    refine .seq (AW.if' true rfl (fun _ => AW.skip ?_) (fun e => by cases e))
    have hnot : (seen ++ [k]).Nodup := by
      rw [List.nodup_append]
      exact ⟨hnd, by simp, fun x hx y hy => by simp at hy; subst hy; intro e; subst e; exact hk2 hx⟩
    have hlt' : ∀ j, j ∈ seen ++ [k] → j < es.length := by
      intro j hj
      rcases List.mem_append.1 hj with h | h
      · exact hlt j h
      · simp at h; omega
    have hle := nodup_len _ _ hnot hlt'
    refine .block (AW.sr (by
      simp [r61_2, reqMentry, hMb, eM1]
      simp [hk1, hkk]
      rfl) (.seq (.reg ?_)))
    simp [r61_3]
    refine (C.round (seen.map ky) (ky k) _ (by simp at hle ⊢; omega) (C.loc _ hb _ (fun i hi => by simp [H61, hi, show ¬ (i = b) by omega]) hHC)).imp ?_
    rintro v h' ⟨rfl, hlo, hhi⟩
    have hb0 := hhi b (Nat.le_refl _)
    simp at hb0
    simp
    refine AW.if' false rfl (fun e => by cases e) (fun _ => .skip ?_)
    refine ⟨seen ++ [k], h', ⟨hnot, hlt', by simpa using hlo⟩, by simp at hle ⊢; omega, .of_sub ⟨?_, fun i => ?_, rfl, by simp⟩⟩
    · simp [List.replicate, S61]
    · simp only [S61, H61]
      by_cases h1 : i < b
      · exact .of_eq (by simp [h1])
      · by_cases h2 : i = b
        · subst h2; exact .of_eq (by simp [hb0])
        · have := hhi i (by omega)
          exact .of_eq (by simp [h1, h2, this, H61])
  · refine .seq (AW.if' false rfl (fun e => by cases e) (fun _ => .exit ?_))
    simp only [athen, ablk, if_true]
    refine Post.norm (.here ?_ rfl ⟨seen, hnd, fun x => ⟨hlt x, hall x⟩, C.loc _ hb _ (fun i hi => by simp [H61, hi]) hHC⟩)
    simp [rs61]
def outK (b : Nat) (l : List Int) : AVal := if l.length = 0 then .nils else .vec (b + 2) l.length 0 l.length
def kcell (l : List Int) (i : Nat) : List AVal := [.int .i64 (l.getD i 0)]
structure HC72 (b B eB M eM : Nat) (es : List (AVal × AVal)) (ts : List AVal) (ps : Array Tmp) (asg body : Code) (l : List Int) (h : AHeap) : Prop where
  hB : h B = .box eB [.mp M eM]
  hM : h M = .amap eM es
  h0 : h b = .box 1 [outK b l]
  h1 : (h (b + 1)).plain
  h2 : (l.length = 0 → h (b + 2) = .gone 0) ∧ (l.length ≠ 0 → ∃ f, h (b + 2) = .vec l.length 1 l.length f ∧ ∀ k, k < l.length → f k = kcell l k)
  h3 : h (b + 3) = .dfr 1
  h4 : h (b + 4) = .loop 1 .ready none ts ps asg body (b + 3) 1
def T72 (b : Nat) (F : AVal) : List AVal := .top :: .top :: .ptr b 1 0 :: .top :: .nils :: .top :: F :: .top :: List.replicate 5 .top
theorem cons72 (b B eB M eM : Nat) (es : List (AVal × AVal)) (hes : es.length < 1000000000000) (hB : B < b) (hM : M < b) (F : AVal) (ps : Array Tmp) (asg body : Code) (hps : ps.toList = [7]) (hasg : checkCode Tryd.prog asg (.reg false (r72_2 b) []) = true) (hbody : checkCode Tryd.prog body (l72_0 b) = true) :
    KCons (b + 5) (b + 4) 1 es.length (HC72 b B eB M eM es (T72 b F) ps asg body) := by
  refine ⟨fun l h h' e H => ⟨(e B (by omega)).trans H.hB, (e M (by omega)).trans H.hM, (e b (by omega)).trans H.h0, by rw [e (b + 1) (by omega)]; exact H.h1, by rw [e (b + 2) (by omega)]; exact H.h2, (e _ (by omega)).trans H.h3, (e _ (by omega)).trans H.h4⟩, fun l k h hlN H => ?_⟩
  have hB0 := H.hB
  have hM0 := H.hM
  have h00 := H.h0
  have h1 := H.h1
  have h4 := H.h4
  refine ⟨T72 b F, ps, asg, body, b + 3, 1, H.h4, by rw [← Array.length_toList, hps]; rfl, fun ρ => ?_⟩
  rw [hps]
  have n0 : ¬ (b + 4 = b) := by omega
  refine (AW.r1 (ρ := ρ) (pr := []) (by simp [r72_2, T72, setPs, List.replicate]; rfl) ?_ : AW EE ρ Tryd.prog (.reg false (r72_2 b) []) _ _) asg hasg
  refine ⟨rfl, h4, ?_⟩
  refine (AW.block (id := 1) ?_ : AW EE ρ Tryd.prog (l72_0 b) _ _) body hbody
  by_cases hl : l.length = 0
  · have h2 := H.h2.1 hl
    obtain rfl : l = [] := List.eq_nil_of_length_eq_zero hl
    refine AW.r1 (by simp [r72_3, h00, h1, h2, outK, reqAppend, srcOf, elemsOf, -AObj.ep, -AObj.plain]; exact ⟨trivial, rfl⟩) ?_
    refine ⟨⟨none, by simp⟩, rfl, ⟨?_, ?_, ?_, ?_, ?_, ?_, ?_⟩, fun i hi => ?_⟩
    · simp [show ¬ (B = b + 4) by omega, show ¬ (B = b) by omega, show ¬ (B = b + 2) by omega, show ¬ (B = b + 1) by omega, hB0]
    · simp [show ¬ (M = b + 4) by omega, show ¬ (M = b) by omega, show ¬ (M = b + 2) by omega, show ¬ (M = b + 1) by omega, hM0]
    · simp [outK]
    · simp
    · simp [kcell]
    · simp [H.h3]
    · simp [T72, List.replicate]
    · simp [show ¬ (i = b + 4) by omega, show ¬ (i = b) by omega, show ¬ (i = b + 2) by omega, show ¬ (i = b + 1) by omega]
  · obtain ⟨f, h2, hf⟩ := H.h2.2 hl
    have hln : ¬ (l = []) := fun e => hl (by simp [e])
    refine AW.r1 (by simp [r72_3, h00, h1, h2, outK, hln, reqAppend, srcOf, elemsOf, -AObj.ep, -AObj.plain]; exact ⟨by omega, rfl⟩) ?_
    refine ⟨⟨none, by simp⟩, rfl, ⟨?_, ?_, ?_, ?_, ?_, ?_, ?_⟩, fun i hi => ?_⟩
    · simp [show ¬ (B = b + 4) by omega, show ¬ (B = b) by omega, show ¬ (B = b + 2) by omega, show ¬ (B = b + 1) by omega, hB0]
    · simp [show ¬ (M = b + 4) by omega, show ¬ (M = b) by omega, show ¬ (M = b + 2) by omega, show ¬ (M = b + 1) by omega, hM0]
    · simp [outK]
    · simp
    · refine ⟨fun e => by simp at e, fun _ => ⟨_, by simp; rfl, fun j hj => ?_⟩⟩
      by_cases hj' : j < l.length
      · simp [hj', hf j hj', kcell, List.getElem?_append]
      · obtain rfl : j = l.length := by simp at hj; omega
        simp [kcell]
    · simp [H.h3]
    · simp [T72, List.replicate]
    · simp [show ¬ (i = b + 4) by omega, show ¬ (i = b) by omega, show ¬ (i = b + 2) by omega, show ¬ (i = b + 1) by omega]
theorem keysNe {es : List (AVal × AVal)} {ord : List Nat} {ky : Nat → Int} (hne : es ≠ []) (h : ∀ x, x ∈ ord ↔ x < es.length) : (ord.map ky).length ≠ 0 := by
  intro e
  have : ord = [] := by simpa using e
  subst this
  have := (h 0).2 (by cases es with | nil => exact absurd rfl hne | cons => simp)
  cases this
theorem append72_ok (b B eB M eM : Nat) (es : List (AVal × AVal)) (ky : Nat → Int) (hB : B < b) (hM : M < b) (hne : es ≠ []) (hes : es.length < 1000000000000) (hk : ∀ k, k < es.length → (es.getD k (.top, .top)).1 = .int .i64 (ky k)) (h : AHeap)
    (h1 : h B = .box eB [.mp M eM]) (h2 : h M = .amap eM es) (hp : ∀ i, b ≤ i → h i = .gone 0) :
    ATr EE Tryd.prog 72 [.nils, .fn 61 [.ptr B eB 0]] h (fun v h' => ∃ ord : List Nat, ord.Nodup ∧ (∀ x, x ∈ ord ↔ x < es.length) ∧ ∃ e f, v = .vec (b + 2) e 0 ord.length ∧ h' (b + 2) = .vec e 1 ord.length f ∧ (∀ k, k < ord.length → f k = kcell (ord.map ky) k) ∧ h' B = .box eB [.mp M eM] ∧ h' M = .amap eM es) := by
  obtain ⟨c, hbd, hc⟩ := ck72
  refine ATr.of (fn := Tryd.f72) rfl hbd cr72 (hc b) 11 rfl ?_
  have p0 := hp b (Nat.le_refl _)
  have p1 := hp (b + 1) (by omega)
  have p2 := hp (b + 2) (by omega)
  have p3 := hp (b + 3) (by omega)
  have p4 := hp (b + 4) (by omega)
  refine AW.sr (by simp [r72_0, p0]; rfl) ?_
  refine .seq (AW.sr (by simp [r72_1]; rfl) ?_)
  refine .block (.see (.of_sub (S' := ⟨T72 b (.fn 61 [.ptr B eB 0]), _, []⟩) ⟨?_, fun i => .refl _, rfl, by simp⟩) (.rfunc (fi := 61) (caps := [.ptr B eB 0]) (b + 3) (b + 4) (by omega) (by simp [p3]) (by simp [p4]) (by simp [T72, List.replicate]) (by kernel_rfl) ?_))
  · simp [T72, List.replicate]
  intro ps' asg body hps hasg hbody
  have e4 : ((hset h b (.box 1 [.nils])) (b + 4)).ep + 1 = 1 := by simp [p4]
  have e3 : ((hset h b (.box 1 [.nils])) (b + 3)).ep + 1 = 1 := by simp [p3]
  simp only [e3, e4]
  refine (keys61_ok (b + 5) (b + 4) 1 B eB M eM es ky (by omega) (by omega) _ (cons72 b B eB M eM es hes hB hM (.fn 61 [.ptr B eB 0]) ps' asg body hps hasg hbody) (fun l h H => ⟨H.hB, H.hM⟩) hk _ ?_ ?_).mono ?_
  · refine ⟨?_, ?_, ?_, ?_, ?_, ?_, ?_⟩
    · simp [show ¬ (B = b + 4) by omega, show ¬ (B = b + 3) by omega, show ¬ (B = b) by omega, h1]
    · simp [show ¬ (M = b + 4) by omega, show ¬ (M = b + 3) by omega, show ¬ (M = b) by omega, h2]
    · simp [outK]
    · simp [p1]
    · simp [p2]
    · simp
    · simp
  · intro i hi
    simp [show ¬ (i = b + 4) by omega, show ¬ (i = b + 3) by omega, show ¬ (i = b) by omega, hp i (by omega)]
  rintro r h' ⟨ord, hnd, hall, H⟩
  have hln := keysNe (ky := ky) hne hall
  obtain ⟨f, q2, hf⟩ := H.h2.2 hln
  have q0 := H.h0
  refine ⟨.ready, none, by simp, H.h4, H.h3, by simp, ?_⟩
  simp only [RDone, ablk, athen]
  have hol : (ord.map ky).length = ord.length := by simp
  refine AW.sr (by simp [r72_4, T72, List.replicate, q0]; rfl) ?_
  refine .ret ⟨_, .refl _, ?_, hset (hset h' (b + 4) (.gone 1)) (b + 3) (.gone 1), fun i => ?_, ?_, ord, hnd, hall, ord.length, f, ?_, ?_, ?_, ?_, ?_⟩
  · simp [rs72]
  · by_cases hi : i = b + 3
    · subst hi; exact .inl (by simp [H.h3])
    · exact .of_eq (by simp [hi])
  · intro D hD
    simp at hD
    subst hD
    exact ⟨1, by simp⟩
  · rw [hol] at hln
    simp [rs72, outK, -List.length_eq_zero_iff, hln]
  · rw [hol] at q2
    simp [q2]
  · intro k hk'
    exact hf k (by rw [hol]; exact hk')
  · simp [show ¬ (B = b + 4) by omega, show ¬ (B = b + 3) by omega, H.hB]
  · simp [show ¬ (M = b + 4) by omega, show ¬ (M = b + 3) by omega, H.hM]
theorem collect59_ok (b B eB M eM : Nat) (es : List (AVal × AVal)) (ky : Nat → Int) (hB : B < b) (hM : M < b) (hne : es ≠ []) (hes : es.length < 1000000000000) (hk : ∀ k, k < es.length → (es.getD k (.top, .top)).1 = .int .i64 (ky k)) (h : AHeap)
    (h1 : h B = .box eB [.mp M eM]) (h2 : h M = .amap eM es) (hp : ∀ i, b ≤ i → h i = .gone 0) :
    ATr EE Tryd.prog 59 [.fn 61 [.ptr B eB 0]] h (fun v h' => ∃ ord : List Nat, ord.Nodup ∧ (∀ x, x ∈ ord ↔ x < es.length) ∧ ∃ e f, v = .vec (b + 2) e 0 ord.length ∧ h' (b + 2) = .vec e 1 ord.length f ∧ (∀ k, k < ord.length → f k = kcell (ord.map ky) k) ∧ h' B = .box eB [.mp M eM] ∧ h' M = .amap eM es) := by
  obtain ⟨c, hbd, hc⟩ := ck59
  refine ATr.of (fn := Tryd.f59) rfl hbd cr59 (hc b) 4 rfl ?_
  refine AW.sr (by simp [r59_0]; rfl) ?_
  refine .seq (.reg ?_)
  simp [r59_1]
  refine (append72_ok b B eB M eM es ky hB hM hne hes hk h h1 h2 hp).mono ?_
  rintro r h' ⟨ord, hnd, hall, e, f, rfl, q2, hf, hb1, hm1⟩
  refine .ret (.here ?_ rfl ⟨ord, hnd, hall, e, ?_, f, q2, hf, hb1, hm1⟩) <;> simp [rs59]
theorem sort_perm {l m : List Int} (h : l.Perm m) : msort l = msort m := by
  have tr : ∀ a b c : Int, decide (a ≤ b) = true → decide (b ≤ c) = true → decide (a ≤ c) = true := by intro a b c h1 h2; simp at *; omega
  have tot : ∀ a b : Int, (decide (a ≤ b) || decide (b ≤ a)) = true := by intro a b; simp; omega
  have p1 := List.pairwise_mergeSort tr tot l
  have p2 := List.pairwise_mergeSort tr tot m
  have pm : (msort l).Perm (msort m) := (List.mergeSort_perm l _).trans (h.trans (List.mergeSort_perm m _).symm)
  exact pm.eq_of_pairwise (le := fun a b => decide (a ≤ b) = true) (fun a b _ _ h1 h2 => by simp at h1 h2; omega) p1 p2
theorem ordPerm {n : Nat} {ord : List Nat} (hnd : ord.Nodup) (h : ∀ x, x ∈ ord ↔ x < n) : ord.Perm (List.range n) := by
  rw [List.perm_ext_iff_of_nodup hnd List.nodup_range]
  intro a; rw [h, List.mem_range]
theorem sorted41_ok (B eB M eM : Nat) (es : List (AVal × AVal)) (ky : Nat → Int) (hne : es ≠ []) (hes : es.length < 1000000000000) (hk : ∀ k, k < es.length → (es.getD k (.top, .top)).1 = .int .i64 (ky k)) (h : AHeap)
    (h1 : h B = .box eB [.mp M eM]) (h2 : h M = .amap eM es) (hp : ∀ i, i ≠ B → i ≠ M → h i = .gone 0) :
    ATr EE Tryd.prog 41 [.fn 61 [.ptr B eB 0]] h (fun v h' => v = .slc 1 es.length (kcell (msort (firstN es.length ky))) ∧ ∀ i, i = B ∨ i = M → h' i = h i) := by
  obtain ⟨c, hbd, hc⟩ := ck41
  refine ATr.of (fn := Tryd.f41) rfl hbd cr41 (hc (B + M + 1)) 8 rfl ?_
  refine AW.sr (by simp [r41_0]; rfl) ?_
  refine .seq (.reg ?_)
  simp [r41_1]
  refine (collect59_ok (B + M + 1) B eB M eM es ky (by omega) (by omega) hne hes hk h h1 h2 (fun i hi => hp i (by omega) (by omega))).mono ?_
  rintro r h' ⟨ord, hnd, hall, e, f, rfl, q2, hf, hb1, hm1⟩
  refine .seq (.reg ?_)
  have hpm := ordPerm hnd hall
  have hol : ord.length = es.length := by rw [hpm.length_eq, List.length_range]
  have hpos : 0 < es.length := by cases es with | nil => exact absurd rfl hne | cons => simp
  have hms : msort (firstN ord.length (fun k => (ord.map ky).getD k 0)) = msort (firstN es.length ky) := by
    have e1 : firstN ord.length (fun k => (ord.map ky).getD k 0) = ord.map ky := by
      apply List.ext_getElem (by simp [firstN])
      intro i h1 h2
      simp [firstN] at h1 ⊢
      simp [h1]
    rw [e1]
    exact sort_perm (hpm.map ky)
  have hs := sort_ints (E := EE) Tryd.lays189 (h := h') (id := B + M + 1 + 2) (ep := e) (n := ord.length) (f := f) (a := fun k => (ord.map ky).getD k 0) q2 (by omega) (by omega) hf
  rw [hms, hol] at hs
  simp [r41_2]
  refine ATr.mono (hol ▸ hs) ?_
  rintro r h2' ⟨rfl, rfl⟩
  refine AW.sr (by simp [r41_3]; rfl) ?_
  refine .fz (B + M + 1 + 2) (by simp) (by simp) ?_
  refine .ret (.here ?_ rfl ⟨?_, ?_, ?_⟩)
  · simp [rs41]
  · simp [rs41, hol]
    funext k; simp [kcell]
  · simp [show ¬ (B = B + M + 1 + 2) by omega, hb1, h1]
  · simp [show ¬ (M = B + M + 1 + 2) by omega, hm1, h2]
end Go.Am
set_option linter.unusedVariables false
set_option linter.unusedSimpArgs false
namespace Go.Am
open Go.Proofs
def CEE : Nat → Option CV := fun i => if Nat.beq i 0 then some (.cptr [.int .i64 31, .int .i64 28, .int .i64 31, .int .i64 30, .int .i64 31, .int .i64 30, .int .i64 31, .int .i64 31, .int .i64 30, .int .i64 31, .int .i64 30, .int .i64 31] 0) else none
def insI (n : Int) : List Int → List Int
  | [] => [n]
  | x :: r => if n ≤ x then n :: x :: r else x :: insI n r
def isortI : List Int → List Int
  | [] => []
  | x :: r => insI x (isortI r)
def keysI : List (CV × CV) → Option (List Int)
  | [] => some []
  | (.int .i64 n, .int _ _) :: r => match keysI r with
    | some l => some (n :: l)
    | none => none
  | _ :: _ => none
def hookK (H : Tr CO) (b be : Nat) : Option CV := match cobj H b with
  | .box be' [.mp id ep] => match cobj H id with
    | .amap ep' es => if be = be' ∧ ep = ep' ∧ es ≠ [] ∧ es.length < 1000000 then (match keysI es with | some l => some (.slc 1 ((isortI l).map fun n => [.int .i64 n])) | none => none) else none
    | _ => none
  | _ => none
def hookS : CHook := fun f vs H => if f = 41 then (match vs with
  | [.fn g [.ptr b be 0]] => if g = 61 then hookK H b be else none
  | _ => none) else none
theorem insI_perm (n : Int) : ∀ l, (insI n l).Perm (n :: l)
  | [] => .refl _
  | x :: r => by
    unfold insI; split
    · exact .refl _
    · exact ((insI_perm n r).cons x).trans (.swap n x r)
theorem isortI_perm : ∀ l, (isortI l).Perm l
  | [] => .refl _
  | x :: r => (insI_perm x _).trans ((isortI_perm r).cons x)
theorem insI_sorted (n : Int) : ∀ l : List Int, l.Pairwise (fun a b => a ≤ b) → (insI n l).Pairwise (fun a b => a ≤ b)
  | [], _ => by simp [insI]
  | x :: r, h => by
    rw [List.pairwise_cons] at h
    unfold insI; split
    · rename_i hn
      rw [List.pairwise_cons, List.pairwise_cons]
      refine ⟨fun y hy => ?_, h⟩
      rcases List.mem_cons.1 hy with rfl | hy
      · exact hn
      · have := h.1 y hy; omega
    · rename_i hn
      rw [List.pairwise_cons]
      refine ⟨fun y hy => ?_, insI_sorted n r h.2⟩
      rcases List.mem_cons.1 ((insI_perm n r).mem_iff.1 hy) with rfl | hy
      · omega
      · exact h.1 y hy
theorem isortI_sorted : ∀ l, (isortI l).Pairwise (fun a b => a ≤ b)
  | [] => .nil
  | x :: r => insI_sorted x _ (isortI_sorted r)
theorem isortI_msort (l : List Int) : isortI l = msort l := by
  have tr : ∀ a b c : Int, decide (a ≤ b) = true → decide (b ≤ c) = true → decide (a ≤ c) = true := by intro a b c h1 h2; simp at *; omega
  have tot : ∀ a b : Int, (decide (a ≤ b) || decide (b ≤ a)) = true := by intro a b; simp; omega
  have p2 := List.pairwise_mergeSort tr tot l
  exact ((isortI_perm l).trans (List.mergeSort_perm l _).symm).eq_of_pairwise (le := fun a b => a ≤ b) (fun a b _ _ h1 h2 => by omega) (isortI_sorted l) (p2.imp fun h => by simpa using h)
theorem keysI_spec : ∀ {es : List (CV × CV)} {l : List Int}, keysI es = some l → l.length = es.length ∧ ∀ (i : Nat) (e : CV × CV), es[i]? = some e → ∃ n k m, e = (CV.int .i64 n, CV.int k m) ∧ l[i]? = some n
  | [], l, h => by simp [keysI] at h; subst h; exact ⟨rfl, fun i e h => by simp at h⟩
  | e :: r, l, h => by
    unfold keysI at h
    split at h
    · rename_i heq; cases heq
    · rename_i n k m r' heq
      obtain ⟨rfl, rfl⟩ := List.cons.inj heq
      split at h
      · rename_i l' hl'
        obtain ⟨h1, h2⟩ := keysI_spec hl'
        simp only [Option.some.injEq] at h
        subst h
        refine ⟨by simp [h1], fun i e he => ?_⟩
        cases i with
        | zero => simp at he; exact ⟨n, k, m, he.symm, by simp⟩
        | succ i => obtain ⟨n', k', m', h3, h4⟩ := h2 i e (by simpa using he); exact ⟨n', k', m', h3, by simpa using h4⟩
      · cases h
    · cases h
theorem hookS_ok : HookOk EE Tryd.prog hookS := by
  intro f vs H v hv V hVP args h hargs hH
  unfold hookS at hv
  split at hv <;> rename_i hf
  rotate_left
  · cases hv
  subst hf
  split at hv
  rotate_left
  · cases hv
  rename_i g b be
  split at hv <;> rename_i hg
  rotate_left
  · cases hv
  subst hg
  unfold hookK at hv
  have hb := cobj_rel hH b
  split at hv
  rotate_left
  · cases hv
  rename_i be' id ep hcb
  rw [hcb] at hb
  have hid := cobj_rel hH id
  split at hv
  rotate_left
  · cases hv
  rename_i ep' es hcid
  rw [hcid] at hid
  split at hv
  rotate_left
  · cases hv
  rename_i hcond
  obtain ⟨rfl, rfl, hne, hlen⟩ := hcond
  split at hv
  rotate_left
  · cases hv
  rename_i l hl
  simp only [Option.some.injEq] at hv
  subst hv
  obtain ⟨hll, hle⟩ := keysI_spec hl
  obtain ⟨cs, hbo, hcs⟩ := hb
  obtain ⟨y, cs', rfl, hy, hcs'⟩ := hcs.uncons
  cases hy
  have : cs' = [] := by have := hcs'.1; simpa using this.symm
  subst this
  obtain ⟨als, hido, hasl, has⟩ := hid
  obtain ⟨y, args', rfl, hy, hargs'⟩ := hargs.uncons
  have : args' = [] := by have := hargs'.1; simpa using this.symm
  subst this
  cases hy with
  | fn _ _ caps hcl hcaps =>
  have hcaps' : CRs [.ptr b be 0] caps := ⟨hcl, hcaps⟩
  obtain ⟨y, caps', rfl, hy, hc2⟩ := hcaps'.uncons
  cases hy
  have : caps' = [] := by have := hc2.1; simpa using this.symm
  subst this
  have hasne : als ≠ [] := fun e => hne (List.length_eq_zero_iff.1 (by rw [hasl, e]; rfl))
  have key : ∀ i, i < als.length → ∃ n k m, als[i]? = some (AVal.int .i64 n, AVal.int k m) ∧ l[i]? = some n := by
    intro i hi
    have h1 : i < es.length := by omega
    obtain ⟨n, k, m, he, hn⟩ := hle i _ (List.getElem?_eq_getElem h1)
    have h2 := has i _ _ (List.getElem?_eq_getElem h1) (List.getElem?_eq_getElem hi)
    rw [he] at h2
    refine ⟨n, k, m, ?_, hn⟩
    rw [List.getElem?_eq_getElem hi]
    obtain ⟨h3, h4⟩ := h2
    have inv : ∀ {k : IntKind} {n : Int} {x : AVal}, CRel (.int k n) x → x = .int k n := fun h => by cases h; rfl
    have e1 : (als[i]).1 = .int .i64 n := inv h3
    have e2 : (als[i]).2 = .int k m := inv h4
    rw [← e1, ← e2]
  have hbid : b ≠ id := fun e => by rw [← e] at hido; rw [hbo] at hido; cases hido
  let hs : AHeap := fun i => if i = b then h b else if i = id then h id else .gone 0
  have hsb : hs b = .box be [.mp id ep] := by simp [hs, hbo]
  have hsid : hs id = .amap ep als := by simp [hs, hbid.symm, hido]
  have base := sorted41_ok b be id ep als (fun k => l.getD k 0) hasne (by omega) (fun k hk => by
    obtain ⟨n, k', m, h1, h2⟩ := key k hk
    simp [List.getD, h1, h2]) hs hsb hsid (fun i h1 h2 => by simp [hs, h1, h2])
  have hfirst : firstN als.length (fun k => l.getD k 0) = l := by
    apply List.ext_getElem (by simp [firstN]; omega)
    intro i h1 h2
    simp [firstN] at h1 ⊢
    simp [h2]
  rw [hfirst] at base
  have fr := ATr.frame (F := [b, id]) (hs := hs) (r := .slc 1 als.length (kcell (msort l))) hEE (fun i hi => by simp at hi; simp [hs, hi.1, hi.2])
    (fun x hx => by simp at hx; subst hx; exact .fn _ _ fun y hy => by simp at hy; subst hy; exact .ptr _ _ _ (by simp))
    (fun i hi => by
      simp at hi
      rcases hi with rfl | rfl
      · rw [hsb]; intro x hx; simp at hx; subst hx; exact .mp _ _ (by simp)
      · rw [hsid]; intro e he
        obtain ⟨j, hj, rfl⟩ := List.getElem_of_mem he
        obtain ⟨n, k, m, h1, _⟩ := key j hj
        rw [List.getElem?_eq_getElem hj] at h1
        simp only [Option.some.injEq] at h1
        rw [h1]; exact ⟨.int _ _, .int _ _⟩)
    (.slc _ _ _ fun i x _ hx => by simp [kcell] at hx; subst hx; exact .int _ _)
    (base.mono fun v h' hv => ⟨hv.1, fun i hi => hv.2 i (by simpa using hi)⟩)
  refine (fr h (fun j hj => by simp at hj; rcases hj with rfl | rfl <;> simp [hs, hbid.symm])).mono ?_
  rintro r h2 ⟨rfl, rfl⟩
  refine ⟨?_, hH⟩
  rw [isortI_msort]
  have hml : (msort l).length = als.length := by unfold msort; rw [List.length_mergeSort]; omega
  refine .slc 1 als.length _ _ (by simp [hml]) (fun i row hrow => ?_) (fun i j row c x hrow hc hx => ?_)
  · simp at hrow
    obtain ⟨a, _, rfl⟩ := hrow
    simp [kcell]
  · simp at hrow
    obtain ⟨a, ha, rfl⟩ := hrow
    cases j with
    | zero =>
      simp [kcell, ha] at hc hx
      subst hc; subst hx
      exact .int _ _
    | succ j => simp at hc
end Go.Am
set_option linter.unusedVariables false
set_option linter.unusedSimpArgs false
namespace Go.Am
open Go.Proofs
theorem CRel.rv {c : CV} {x : AVal} (h : CRel c x) : ∀ {y : AVal}, CRel c y → ∀ {g : Gh} {w : World} {v : Value}, RV g w x v → RV g w y v := by
  induction h with
  | top => intro y hy g w v hv; cases hy; exact hv
  | int k n => intro y hy g w v hv; cases hy; exact hv
  | bool b => intro y hy g w v hv; cases hy; exact hv
  | str s => intro y hy g w v hv; cases hy; exact hv
  | agg cs l hl _ ih =>
    intro y hy g w v hv
    cases hy with
    | agg _ l' hl' h' =>
    cases hv with
    | agg _ a hn hr =>
    refine .agg l' a (by omega) fun i y u hy hu => ?_
    have hi : i < l'.length := (List.getElem?_eq_some_iff.1 hy).1
    exact ih i _ _ (List.getElem?_eq_getElem (by omega : i < cs.length)) (List.getElem?_eq_getElem (by omega : i < l.length)) (h' i _ _ (List.getElem?_eq_getElem (by omega : i < cs.length)) hy) (hr i _ _ (List.getElem?_eq_getElem (by omega : i < l.length)) hu)
  | tup cs l hl _ ih =>
    intro y hy g w v hv
    cases hy with
    | tup _ l' hl' h' =>
    cases hv with
    | tup _ a hn hr =>
    refine .tup l' a (by omega) fun i y u hy hu => ?_
    have hi : i < l'.length := (List.getElem?_eq_some_iff.1 hy).1
    exact ih i _ _ (List.getElem?_eq_getElem (by omega : i < cs.length)) (List.getElem?_eq_getElem (by omega : i < l.length)) (h' i _ _ (List.getElem?_eq_getElem (by omega : i < cs.length)) hy) (hr i _ _ (List.getElem?_eq_getElem (by omega : i < l.length)) hu)
  | nils => intro y hy g w v hv; cases hy; exact hv
  | slc st n els f hn hl _ ih =>
    intro y hy g w v hv
    cases hy with
    | slc _ n' _ f' hn' hl' h' =>
    obtain rfl : n = n' := by omega
    cases hv with
    | slc0 => exact .slc0 _ _ _ _
    | slc _ _ _ b off cap vals hz hcap hlen hc h1 hr =>
    have row : ∀ i, i < n → ∃ r, els[i]? = some r := fun i hi => ⟨_, List.getElem?_eq_getElem (by omega : i < els.length)⟩
    refine .slc st n f' b off cap vals hz hcap (fun i hi => ?_) hc h1 (fun i j x hi hx => ?_)
    · obtain ⟨r, hr'⟩ := row i hi
      rw [← hl' i r hr', hl i r hr']; exact hlen i hi
    · obtain ⟨r, hr'⟩ := row i hi
      have hj : j < (f' i).length := (List.getElem?_eq_some_iff.1 hx).1
      have h2 := hl' i r hr'
      have h3 := hl i r hr'
      exact ih i j r _ _ hr' (List.getElem?_eq_getElem (by omega : j < r.length)) (List.getElem?_eq_getElem (by omega : j < (f i).length)) (h' i j r _ x hr' (List.getElem?_eq_getElem (by omega : j < r.length)) hx) (hr i j _ hi (List.getElem?_eq_getElem (by omega : j < (f i).length)))
  | vec id ep lo n => intro y hy g w v hv; cases hy; exact hv
  | ptr id ep off => intro y hy g w v hv; cases hy; exact hv
  | eptr id ep i off => intro y hy g w v hv; cases hy; exact hv
  | cptr cs off lim f hn _ ih =>
    intro y hy g w v hv
    cases hy with
    | cptr _ _ lim' f' hn' h' =>
    obtain rfl : lim = lim' := by omega
    cases hv with
    | cptr _ _ _ b base vals hz hc hr =>
    exact .cptr f' lim off b base vals hz hc fun j hj => ih j _ (List.getElem?_eq_getElem (by omega : j < cs.length)) (h' j _ (List.getElem?_eq_getElem (by omega : j < cs.length))) (hr j hj)
  | nilp => intro y hy g w v hv; cases hy; exact hv
  | fn f cs l hl _ ih =>
    intro y hy g w v hv
    cases hy with
    | fn _ _ l' hl' h' =>
    cases hv with
    | fn _ _ a hn hr =>
    refine .fn f l' a (by omega) fun i y u hy hu => ?_
    have hi : i < l'.length := (List.getElem?_eq_some_iff.1 hy).1
    exact ih i _ _ (List.getElem?_eq_getElem (by omega : i < cs.length)) (List.getElem?_eq_getElem (by omega : i < l.length)) (h' i _ _ (List.getElem?_eq_getElem (by omega : i < cs.length)) hy) (hr i _ _ (List.getElem?_eq_getElem (by omega : i < l.length)) hu)
  | nilfn => intro y hy g w v hv; cases hy; exact hv
  | yld id ep => intro y hy g w v hv; cases hy; exact hv
  | mp id ep => intro y hy g w v hv; cases hy; exact hv
  | nilmp => intro y hy g w v hv; cases hy; exact hv
  | cnd c x z _ ih =>
    intro y hy g w v hv
    cases hy with
    | cnd _ _ z' h' =>
    cases hv with
    | cnd _ _ _ h1 h2 => exact .cnd c z' v (fun e => ih e (h' e) (h1 e)) h2
theorem CRs.rvs {cs : List CV} {l m : List AVal} (h : CRs cs l) (h' : CRs cs m) {g : Gh} {w : World} {a : List Value} (hv : RVs g w l a) : RVs g w m a := by
  refine ⟨by rw [hv.1, ← h.1, h'.1], fun i y u hy hu => ?_⟩
  have hi : i < m.length := (List.getElem?_eq_some_iff.1 hy).1
  have h1 := h.1
  have h2 := h'.1
  exact (h.2 i _ _ (List.getElem?_eq_getElem (by omega : i < cs.length)) (List.getElem?_eq_getElem (by omega : i < l.length))).rv (h'.2 i _ _ (List.getElem?_eq_getElem (by omega : i < cs.length)) hy) (hv.2 i _ _ (List.getElem?_eq_getElem (by omega : i < l.length)) hu)
theorem Still.rel {E : Nat → AVal} {P : Program} {f : FuncId} {cs : List CV} {args args' : List AVal} {r : AVal} (ha : CRs cs args) (ha' : CRs cs args') (H : Still E P f args' r) : Still E P f args r :=
  fun h g w vs hh hv => H h g w vs hh (ha.rvs ha' hv)
theorem HookOk.of {E : Nat → AVal} {P : Program} {hook : CHook} (hk : ∀ f vs H v, hook f vs H = some v → ∃ args r, CRs vs args ∧ CRel v r ∧ Still E P f args r) : HookOk E P hook := by
  intro f vs H v hv V hVP args h hargs hH
  obtain ⟨args', r, h1, h2, h3⟩ := hk f vs H v hv
  refine ((Still.rel hargs h1 h3) h).mono ?_
  rintro r' h' ⟨rfl, rfl⟩
  exact ⟨h2, hH⟩
def orHook (a b : CHook) : CHook := fun f vs H => match a f vs H with
  | some v => some v
  | none => b f vs H
theorem HookOk.or {E : Nat → AVal} {P : Program} {a b : CHook} (ha : HookOk E P a) (hb : HookOk E P b) : HookOk E P (orHook a b) := by
  intro f vs H v hv
  unfold orHook at hv
  split at hv
  · rename_i v' h'
    simp only [Option.some.injEq] at hv
    subst hv
    exact ha f vs H _ h'
  · exact hb f vs H v hv
theorem CEE_rel : CERel CEE EE := by
  intro i c h
  unfold CEE at h
  cases hb : Nat.beq i 0
  · rw [hb] at h; cases h
  · rw [hb] at h
    obtain rfl : i = 0 := Nat.eq_of_beq_eq_true hb
    simp only [cond_true, if_true, Option.some.injEq] at h
    subst h
    refine .cptr _ _ _ _ rfl fun j c hc => ?_
    have hj : j < 12 := (List.getElem?_eq_some_iff.1 hc).1
    have : j = 0 ∨ j = 1 ∨ j = 2 ∨ j = 3 ∨ j = 4 ∨ j = 5 ∨ j = 6 ∨ j = 7 ∨ j = 8 ∨ j = 9 ∨ j = 10 ∨ j = 11 := by omega
    rcases this with rfl | rfl | rfl | rfl | rfl | rfl | rfl | rfl | rfl | rfl | rfl | rfl <;> (simp at hc; subst hc; exact .int _ _)
def cbF (l t : Int) : Int := if l = 1 then t - t % 4 else if l = 2 then t - t % 96 else 0
def cbT (l t : Int) : Int := if l = 1 then t - t % 4 + 4 else if l = 2 then t - t % 96 + 96 else if l = 3 then 2976 else 35136
theorem dn0 {t : Int} (h0 : 0 ≤ t) (h1 : t < 2976) : dn (t.tdiv 96) = 0 ∧ dm (t.tdiv 96) = 0 := by
  have e := Int.tdiv_eq_ediv_of_nonneg h0 (b := 96)
  have c1 : cd 1 = 366 := by decide
  have c2 : cm (2000 + (0 : Nat)) 1 = 31 := by decide
  have D : DayAt (t.tdiv 96) 0 0 := ⟨by omega, by omega, by show (0 : Int) ≤ _; omega, by show _ < cd 1; omega, by show (0 : Int) ≤ t.tdiv 96 - 0; omega, by show t.tdiv 96 - 0 < cm (2000 + (0 : Nat)) 1; omega⟩
  exact D.eq (by omega) (by omega)
theorem cb_eq {l t : Int} (hl : 1 ≤ l) (hl2 : l ≤ 4) (h0 : 0 ≤ t) (h1 : t < 2976) : bF l t = cbF l t ∧ bT l t = cbT l t := by
  obtain ⟨e1, e2⟩ := dn0 h0 h1
  have c1 : cd 0 + ydays (2000 + (0 : Nat)) = 366 := by decide
  have c2 : cd 0 + cm (2000 + (0 : Nat)) 0 = 0 := by decide
  have c3 : cd 0 + cm (2000 + (0 : Nat)) 0 + mlen (2000 + (0 : Nat)) (1 + (0 : Nat)) = 31 := by decide
  have c4 : cd 0 = 0 := rfl
  unfold bF bT arF arT cbF cbT
  rw [e1, e2, c1, c3, c2, c4]
  rw [Int.tmod_eq_emod_of_nonneg h0, Int.tmod_eq_emod_of_nonneg h0, Int.tmod_eq_emod_of_nonneg h0]
  rcases (show l = 1 ∨ l = 2 ∨ l = 3 ∨ l = 4 by omega) with rfl | rfl | rfl | rfl <;> simp
def cmay (w : Lw) (fs : List Fz) (today l a b : Int) : Bool := decide (w.at l < today - (b - 1).tdiv 96) && !fs.any fun x => x.hits a b
def cdf (w : Lw) (fs : List Fz) (today t : Int) : Nat → Bn
  | 0 => ⟨0, 0, 0⟩
  | l + 1 => if cmay w fs today (l + 1) (cbF (l + 1) t) (cbT (l + 1) t) then ⟨l + 1, cbF (l + 1) t, cbT (l + 1) t⟩ else if l = 0 then ⟨0, cbF 1 t, cbT 1 t⟩ else cdf w fs today t l
theorem cdf_eq (w : Lw) (fs : List Fz) (today t : Int) (h0 : 0 ≤ t) (h1 : t < 2976) : ∀ L : Nat, L ≤ 4 → dfind w (fun i => fs.getD i Fz.zero) fs.length today t L = cdf w fs today t L
  | 0, _ => rfl
  | L + 1, h => by
    have ih := cdf_eq w fs today t h0 h1 L (by omega)
    obtain ⟨e1, e2⟩ := cb_eq (l := (L : Int) + 1) (by omega) (by omega) h0 h1
    obtain ⟨e3, e4⟩ := cb_eq (l := 1) (by omega) (by omega) h0 h1
    have em : ∀ a b, may w (fun i => fs.getD i Fz.zero) fs.length today ((L : Int) + 1) a b = cmay w fs today ((L : Int) + 1) a b := by
      intro a b
      unfold may cmay
      rw [anyI_list fs Fz.zero (fun x => x.hits a b)]
    unfold dfind cdf
    rw [e1, e2, e3, e4, em, ih]
def fzOf : List CV → Option Fz
  | [.int .i64 g, .int .i64 a, .int .i64 b] => some ⟨g, a, b⟩
  | _ => none
def fzsOf : List (List CV) → Option (List Fz)
  | [] => some []
  | r :: l => match fzOf r, fzsOf l with
    | some x, some m => some (x :: m)
    | _, _ => none
def frOf : CV → Option (List Fz)
  | .nils => some []
  | .slc st els => if st = 3 then fzsOf els else none
  | _ => none
def bnC (x : Bn) : CV := .agg [.int .i64 x.l, .int .i64 x.a, .int .i64 x.b]
def hookD : CHook := fun f vs H => if f = 22 then (match vs with
  | [.agg [.int .i64 z, .int .i64 r, .int .i64 h, .int .i64 d, .int .i64 m, s, .int .i64 today], .int .i64 t] => match frOf s with
    | some fs => if z = 0 ∧ 0 ≤ today ∧ today ≤ 14609 ∧ 0 ≤ t ∧ t < 2976 ∧ fs.length < 1000 then some (bnC (cdf ⟨r, h, d, m⟩ fs today t 4)) else none
    | none => none
  | _ => none) else none
theorem fzOf_spec {r : List CV} {x : Fz} (h : fzOf r = some x) : r = [.int .i64 x.g, .int .i64 x.a, .int .i64 x.b] := by
  unfold fzOf at h
  split at h
  · simp only [Option.some.injEq] at h; subst h; rfl
  · cases h
theorem fzsOf_spec : ∀ {els : List (List CV)} {fs : List Fz}, fzsOf els = some fs → els = fs.map fun x => [.int .i64 x.g, .int .i64 x.a, .int .i64 x.b]
  | [], fs, h => by simp [fzsOf] at h; subst h; rfl
  | r :: l, fs, h => by
    unfold fzsOf at h
    split at h
    · rename_i x m hx hm
      simp only [Option.some.injEq] at h; subst h
      rw [fzOf_spec hx, fzsOf_spec hm]; rfl
    · cases h
theorem frOf_spec {s : CV} {fs : List Fz} (h : frOf s = some fs) : ∃ x, CRel s x ∧ slOr 3 fs.length (fun i => (fs.getD i Fz.zero).cells) x := by
  unfold frOf at h
  split at h
  · simp only [Option.some.injEq] at h; subst h
    exact ⟨.nils, .nils, .inr ⟨rfl, rfl⟩⟩
  · split at h
    · rename_i st els hst
      subst hst
      have he := fzsOf_spec h
      refine ⟨_, ?_, .inl rfl⟩
      refine .slc 3 fs.length els _ (by rw [he]; simp) (fun i row hr => ?_) (fun i j row c x hr hc hx => ?_)
      · rw [he] at hr; simp at hr; obtain ⟨a, _, rfl⟩ := hr; simp [Fz.cells]
      · rw [he] at hr; simp at hr; obtain ⟨a, ha, rfl⟩ := hr
        have e : fs.getD i Fz.zero = a := by simp [List.getD, ha]
        rw [e] at hx
        simp only [Fz.cells] at hx
        rcases j with _ | _ | _ | j <;> simp at hc hx <;> (subst hc; subst hx; exact .int _ _)
    · cases h
  · cases h
theorem bnC_rel (x : Bn) : CRel (bnC x) (.agg x.cells) := .aggs (.cons (.int _ _) (.cons (.int _ _) (.cons (.int _ _) .nil)))
theorem hookD_ok : HookOk EE Tryd.prog hookD := by
  refine .of fun f vs H v hv => ?_
  unfold hookD at hv
  split at hv <;> rename_i hf
  rotate_left
  · cases hv
  subst hf
  split at hv
  rotate_left
  · cases hv
  rename_i z r h d m s today t
  split at hv
  rotate_left
  · cases hv
  rename_i fs hfs
  split at hv
  rotate_left
  · cases hv
  rename_i hc
  obtain ⟨rfl, h0, h1, h2, h3, h4⟩ := hc
  simp only [Option.some.injEq] at hv
  subst hv
  obtain ⟨x, hx, hsl⟩ := frOf_spec hfs
  refine ⟨[.agg (kcells ⟨r, h, d, m⟩ x today), .int .i64 t], .agg (cdf ⟨r, h, d, m⟩ fs today t 4).cells, ?_, bnC_rel _, ?_⟩
  · exact .cons (.aggs (.cons (.int _ _) (.cons (.int _ _) (.cons (.int _ _) (.cons (.int _ _) (.cons (.int _ _) (.cons hx (.cons (.int _ _) .nil)))))))) (.cons (.int _ _) .nil)
  · rw [← cdf_eq _ fs today t h2 h3 4 (by omega)]
    exact due_st _ _ _ x hsl (by omega) today t h0 h1 h2 (by omega)
def hookA : CHook := orHook hookD hookS
theorem hookA_ok : HookOk EE Tryd.prog hookA := .or hookD_ok hookS_ok
end Go.Am
set_option linter.unusedVariables false
set_option linter.unusedSimpArgs false
namespace Go.Am
open Go.Proofs
mutual
def sameC : CV → CV → Bool
  | .int k n, .int k' m => decide (k = k') && decide (n = m)
  | .bool a, .bool b => a == b
  | .str a, .str b => decide (a = b)
  | .agg a, .agg b => sameCs a b
  | .tup a, .tup b => sameCs a b
  | .slc s a, .slc s' b => Nat.beq s s' && sameCss a b
  | .nils, .nils => true
  | _, _ => false
def sameCs : List CV → List CV → Bool
  | [], [] => true
  | x :: r, y :: s => sameC x y && sameCs r s
  | _, _ => false
def sameCss : List (List CV) → List (List CV) → Bool
  | [], [] => true
  | x :: r, y :: s => sameCs x y && sameCss r s
  | _, _ => false
end
mutual
theorem sameC_eq : ∀ {a b : CV}, sameC a b = true → a = b
  | .int k n, b, h => by
    cases b <;> simp [sameC] at h
    rw [h.1, h.2]
  | .bool x, b, h => by cases b <;> simp [sameC] at h; rw [h]
  | .str x, b, h => by cases b <;> simp [sameC] at h; rw [h]
  | .agg x, b, h => by
    cases b <;> simp only [sameC] at h <;> first | (cases h; done) | exact congrArg _ (sameCs_eq h)
  | .tup x, b, h => by
    cases b <;> simp only [sameC] at h <;> first | (cases h; done) | exact congrArg _ (sameCs_eq h)
  | .slc s x, b, h => by
    cases b <;> simp only [sameC] at h <;> (try (cases h; done))
    simp only [Bool.and_eq_true] at h
    rw [Nat.eq_of_beq_eq_true h.1, sameCss_eq h.2]
  | .nils, b, h => by cases b <;> simp only [sameC] at h <;> first | (cases h; done) | rfl
  | .top, b, h => by cases b <;> simp [sameC] at h
  | .vec _ _ _ _, b, h => by cases b <;> simp [sameC] at h
  | .ptr _ _ _, b, h => by cases b <;> simp [sameC] at h
  | .eptr _ _ _ _, b, h => by cases b <;> simp [sameC] at h
  | .cptr _ _, b, h => by cases b <;> simp [sameC] at h
  | .nilp, b, h => by cases b <;> simp [sameC] at h
  | .fn _ _, b, h => by cases b <;> simp [sameC] at h
  | .nilfn, b, h => by cases b <;> simp [sameC] at h
  | .yld _ _, b, h => by cases b <;> simp [sameC] at h
  | .mp _ _, b, h => by cases b <;> simp [sameC] at h
  | .nilmp, b, h => by cases b <;> simp [sameC] at h
  | .cnd _ _, b, h => by cases b <;> simp [sameC] at h
theorem sameCs_eq : ∀ {a b : List CV}, sameCs a b = true → a = b
  | [], b, h => by cases b <;> simp [sameCs] at h; rfl
  | x :: r, b, h => by
    cases b <;> simp only [sameCs] at h
    · cases h
    · simp only [Bool.and_eq_true] at h
      rw [sameC_eq h.1, sameCs_eq h.2]
theorem sameCss_eq : ∀ {a b : List (List CV)}, sameCss a b = true → a = b
  | [], b, h => by cases b <;> simp [sameCss] at h; rfl
  | x :: r, b, h => by
    cases b <;> simp only [sameCss] at h
    · cases h
    · simp only [Bool.and_eq_true] at h
      rw [sameCs_eq h.1, sameCss_eq h.2]
end
abbrev Fact := FuncId × List CV × CV
def FactOk (E : Nat → AVal) (P : Program) (x : Fact) : Prop := ∃ args r, CRs x.2.1 args ∧ CRel x.2.2 r ∧ Still E P x.1 args r
def factHook : List Fact → CHook
  | [], _, _, _ => none
  | x :: l, f, vs, H => bif Nat.beq x.1 f && sameCs x.2.1 vs then some x.2.2 else factHook l f vs H
theorem factHook_ok {E : Nat → AVal} {P : Program} : ∀ {l : List Fact}, (∀ x ∈ l, FactOk E P x) → HookOk E P (factHook l) := by
  intro l hl
  refine .of fun f vs H v hv => ?_
  induction l with
  | nil => cases hv
  | cons x l ih =>
    unfold factHook at hv
    cases hb : (Nat.beq x.1 f && sameCs x.2.1 vs)
    · rw [hb] at hv
      exact ih (fun y hy => hl y (List.mem_cons_of_mem _ hy)) hv
    · rw [hb] at hv
      simp only [Bool.and_eq_true] at hb
      simp only [cond_true, Option.some.injEq] at hv
      subst hv
      obtain rfl := Nat.eq_of_beq_eq_true hb.1
      obtain rfl := sameCs_eq hb.2
      exact hl x (List.mem_cons_self ..)
def ceM (l : List Nat) (CE : Nat → Option CV) : Nat → Option CV := fun i => bif Nat.ble 1000000 i && l.contains (i - 1000000) then some .top else CE i
theorem ceM_rel (l : List Nat) : CERel (ceM l CEE) EE := by
  intro i c h
  unfold ceM at h
  cases hb : (Nat.ble 1000000 i && l.contains (i - 1000000))
  · rw [hb] at h; exact CEE_rel i c h
  · rw [hb] at h
    simp only [cond_true, Option.some.injEq] at h
    subst h
    simp only [Bool.and_eq_true] at hb
    have h1 := Nat.le_of_ble_eq_true hb.1
    have : EE i = .top := by unfold EE; rw [if_neg (by omega)]
    rw [this]; exact .top
theorem toAs_rel (vs : List CV) : CRs vs (vs.map CV.toA) := by
  refine ⟨by simp, fun i c x hc hx => ?_⟩
  rw [List.getElem?_map, hc] at hx
  simp at hx; subst hx
  exact CRel.self _ c (Nat.lt_succ_self _)
theorem Fact.of {hook : CHook} (hH : HookOk EE Tryd.prog hook) (l : List Nat) {x : Fact} (h : evalF (ceM l CEE) hook 100000 tab x.1 x.2.1 = some (x.2.2, [])) : FactOk EE Tryd.prog x :=
  ⟨x.2.1.map CV.toA, x.2.2.toA, toAs_rel _, CRel.self _ _ (Nat.lt_succ_self _), evalF_still (ceM_rel l) hEE tab_ok tab_lt hH 100000 h _ (toAs_rel _)⟩
end Go.Am
