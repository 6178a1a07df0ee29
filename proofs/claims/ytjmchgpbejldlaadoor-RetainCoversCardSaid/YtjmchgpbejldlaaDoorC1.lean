/- Part C1 of the proof that the last part closes: contracts of functions and plain lemmas. No condition. -/
import Derived.Test.YtjmchgpbejldlaaDoorG2
import Derived.Test.YtjmchgpbejldlaaDoorA4
set_option linter.unusedVariables false
set_option linter.unusedSimpArgs false
namespace Go.Am
open Go.Proofs
attribute [local simp] areg aop dreg dop AOp.req argv argU AOp.args uncAll AOp.unAll Req.val Req.when putT putH athen ablk reqBin reqInt gcond unc unv pickB ressOk ARes.ok retVal ARes.val cut inr AOp.quiet
attribute [local simp] noRef_int noRef_bool noRef_str noRef_nils noRef_agg noRef_tup noRef_slc noRef_fn
def lens (j : Nat) : Int := [31, 28, 31, 30, 31, 30, 31, 31, 30, 31, 30, 31].getD j 0
def EE : Nat → AVal := fun i => if i = 0 then .cptr (fun j => .int .i64 (lens j)) 12 0 else .top
theorem hEE : ∀ i, NoRef (EE i) := fun i => by
  unfold EE; split
  · exact .cptr _ _ _ fun j _ => .int _ _
  · exact .top
def leap (y : Int) : Bool := (decide (y.tmod 4 = 0) && !decide (y.tmod 100 = 0)) || decide (y.tmod 400 = 0)
theorem leap_st (y : Int) : Still EE Tryd.prog 76 [.int .i64 y] (.bool (leap y)) := by
  refine Pure.still ?_ hEE (by simp) (by simp)
  obtain ⟨c, hb, hc⟩ := ck76
  refine Pure.of (fn := Tryd.f76) rfl hb cr76 (hc 0) 15 rfl ?_
  refine .seq (.reg ?_)
  simp [r76_0]
  refine .seq (.reg ?_)
  simp [r76_1]
  refine .retp (rs := rs76) rfl ?_ ?_ <;> simp [rs76, leap]
def ydays (y : Int) : Int := if leap y then 366 else 365
theorem days_st (y : Int) : Still EE Tryd.prog 71 [.int .i64 y] (.int .i64 (ydays y)) := by
  refine Pure.still ?_ hEE (by simp) (by simp)
  obtain ⟨c, hb, hc⟩ := ck71
  refine Pure.of (fn := Tryd.f71) rfl hb cr71 (hc 0) 4 rfl ?_
  refine .seq (.reg ?_)
  simp [r71_0]
  refine .seq (.seq (.reg ?_))
  simp [r71_1]
  refine (leap_st y).call ?_
  refine .cond (t := leap y) (by simp) (fun e => ?_) (fun e => ?_)
  · refine .seq (.reg ?_)
    simp [r71_2]
    refine .retp (rs := rs71) rfl ?_ ?_ <;> simp [rs71, ydays, e]
  · refine .skip ?_
    simp
    refine .seq (.reg ?_)
    simp [r71_3]
    refine .retp (rs := rs71) rfl ?_ ?_ <;> simp [rs71, ydays, e]
def mlen (y m : Int) : Int := if m = 2 ∧ leap y = true then 29 else lens (m - 1).toNat
theorem length_st (y m : Int) (h1 : 1 ≤ m) (h2 : m ≤ 12) : Still EE Tryd.prog 69 [.int .i64 y, .int .i64 m] (.int .i64 (mlen y m)) := by
  refine Pure.still ?_ hEE (by simp) (by simp)
  obtain ⟨c, hb, hc⟩ := ck69
  refine Pure.of (fn := Tryd.f69) rfl hb cr69 (hc 0) 13 rfl ?_
  refine .seq (.reg ?_)
  simp [r69_0]
  refine .seq (.seq (.reg ?_))
  simp [r69_1]
  refine .pure (.bool (leap y)) (fun e => by simp) (fun _ => leap_st y) ?_
  simp
  refine .cond (t := decide (m = 2) && leap y) (by simp) (fun e => ?_) (fun e => ?_)
  · refine .seq (.reg ?_)
    simp [r69_2]
    refine .retp (rs := rs69) rfl ?_ ?_ <;> simp [rs69]
    simp at e
    simp [mlen, e]
  · refine .skip ?_
    simp
    refine .seq (.reg ?_)
    simp [r69_3, EE, reqLoad]
    refine ⟨by omega, by omega, by omega, ?_⟩
    refine .retp (rs := rs69) rfl ?_ ?_ <;> simp [rs69]
    simp at e
    simp [mlen]
    intro h3 h4; rw [e h3] at h4; cases h4
theorem vsub_top (x : AVal) : VSub x .top := .inl rfl
theorem vsub_int {k k' : IntKind} {a b : Int} : VSub (.int k a) (.int k' b) ↔ k' = k ∧ b = a := by
  constructor
  · rintro (h | h | ⟨_, _, _, _, h, _⟩)
    · cases h
    · injection h with h1 h2; exact ⟨h1, h2⟩
    · cases h
  · rintro ⟨rfl, rfl⟩; exact .refl _
attribute [local simp] vsub_top VSub.refl TSub vsub_int
def cd : Nat → Int
  | 0 => 0
  | k + 1 => cd k + ydays (2000 + k)
def cm (y : Int) : Nat → Int
  | 0 => 0
  | j + 1 => cm y j + mlen y (1 + j)
theorem ydays_bd (y : Int) : 365 ≤ ydays y ∧ ydays y ≤ 366 := by unfold ydays; split <;> omega
theorem cd_mono {a b : Nat} (h : a ≤ b) : cd a ≤ cd b := by
  induction h with
  | refl => omega
  | @step m h ih => have := ydays_bd (2000 + m); simp only [cd]; omega
theorem mlen_bd (y : Int) (j : Nat) (hj : j < 12) : 28 ≤ mlen y (1 + j) ∧ mlen y (1 + j) ≤ 31 := by
  unfold mlen
  split
  · omega
  · have : j = 0 ∨ j = 1 ∨ j = 2 ∨ j = 3 ∨ j = 4 ∨ j = 5 ∨ j = 6 ∨ j = 7 ∨ j = 8 ∨ j = 9 ∨ j = 10 ∨ j = 11 := by omega
    have e : ((1 + (j : Int)) - 1).toNat = j := by omega
    rw [e]
    rcases this with rfl | rfl | rfl | rfl | rfl | rfl | rfl | rfl | rfl | rfl | rfl | rfl <;> decide
theorem cm_mono {y : Int} {a b : Nat} (hb : b ≤ 12) (h : a ≤ b) : cm y a ≤ cm y b := by
  induction h with
  | refl => omega
  | @step m h ih => have := mlen_bd y m (by omega); have := ih (by omega); simp only [cm]; omega
def Y68 (d : Int) (k : Nat) : ASt := ⟨.int .i64 (d - cd k) :: .top :: .int .i64 (2000 + k) :: .int .i64 1 :: List.replicate 34 .top, h0, []⟩
def M68 (d : Int) (n k : Nat) : ASt := ⟨.int .i64 (d - cd n - cm (2000 + n) k) :: .top :: .int .i64 (2000 + n) :: .int .i64 (1 + k) :: List.replicate 34 .top, h0, []⟩
set_option maxHeartbeats 1000000 in
theorem date_st (d : Int) (n m : Nat) (h1 : cd n ≤ d) (h2 : d < cd (n + 1)) (hn : n < 40) (h3 : cm (2000 + n) m ≤ d - cd n) (h4 : d - cd n < cm (2000 + n) (m + 1)) (hm : m < 12) (hd0 : 0 ≤ d) (hd : d ≤ 14609) :
    Still EE Tryd.prog 68 [.int .i64 d] (.tup [.int .i64 (2000 + n), .int .i64 (1 + m), .int .i64 (d - cd n - cm (2000 + n) m + 1), .int .i64 0]) := by
  refine Pure.still ?_ hEE (by simp) (by simp)
  obtain ⟨c, hb, hc⟩ := ck68
  refine Pure.of (fn := Tryd.f68) rfl hb cr68 (hc 0) 37 rfl ?_
  refine .seq (.reg ?_)
  simp [r68_0]
  refine .seq (.seq (.reg ?_))
  simp [r68_1]
  refine .cond (t := false) (by simp; omega) (fun e => by cases e) (fun _ => ?_)
  refine .skip ?_
  simp
  refine .seq (.reg ?_)
  simp [r68_3]
  refine .seq (.block (.loop (Y68 d) (fun k => n - k) (fun k => k ≤ n) 0 (by omega) (.of_sub ⟨?_, fun i => .refl _, rfl, by simp⟩) ?_))
  · simp [List.replicate, cd, Y68]
  intro k hk
  have e1 : cd k ≤ cd n := cd_mono hk
  have hb1 := ydays_bd (2000 + k)
  have hstep : cd (k + 1) = cd k + ydays (2000 + k) := rfl
  have hkd : 0 ≤ cd k := cd_mono (Nat.zero_le k)
  refine .seq (.seq (.reg ?_))
  simp [List.replicate, r68_4, Y68]
  refine (days_st _).call ?_
  simp
  refine .cond (t := decide (ydays (2000 + k) ≤ d - cd k)) (by simp) (fun e => ?_) (fun e => ?_)
  · simp only [decide_eq_true_eq] at e
    have hlt : k < n := by
      rcases Nat.lt_or_ge k n with h | h
      · exact h
      · have : k = n := by omega
        subst this; omega
    refine .skip ?_
    simp
    refine .seq (.block (.reg ?_))
    simp [r68_6]
    refine (days_st _).call ?_
    simp
    refine ⟨by omega, .reg ?_⟩
    simp [r68_5]
    refine ⟨by omega, k + 1, by omega, by omega, .of_sub ⟨?_, fun i => .refl _, rfl, by simp⟩⟩
    simp [List.replicate, Y68]
    exact ⟨by rw [hstep]; omega, by omega⟩
  · simp only [decide_eq_false_iff_not] at e
    have hkn : k = n := by
      rcases Nat.lt_or_ge k n with h | h
      · have := cd_mono (show k + 1 ≤ n from h); omega
      · omega
    subst hkn
    refine .exit ?_
    simp
    refine .seq (.block (.loop (M68 d k) (fun j => m - j) (fun j => j ≤ m) 0 (by omega) (.of_sub ⟨?_, fun i => .refl _, rfl, by simp⟩) ?_))
    · simp [List.replicate, cm, M68]
    intro j hj
    have e2 : cm (2000 + k) j ≤ cm (2000 + k) m := cm_mono (by omega) hj
    have hb2 := mlen_bd (2000 + k) j (by omega)
    have hstep2 : cm (2000 + k) (j + 1) = cm (2000 + k) j + mlen (2000 + k) (1 + j) := rfl
    have hkd2 : 0 ≤ cm (2000 + k) j := cm_mono (by omega) (Nat.zero_le j)
    refine .seq (.seq (.reg ?_))
    simp [List.replicate, r68_7, M68]
    refine (length_st _ _ (by omega) (by omega)).call ?_
    simp
    refine .cond (t := decide (mlen (2000 + k) (1 + j) ≤ d - cd k - cm (2000 + k) j)) (by simp) (fun e => ?_) (fun e => ?_)
    · simp only [decide_eq_true_eq] at e
      have hlt : j < m := by
        rcases Nat.lt_or_ge j m with h | h
        · exact h
        · have : j = m := by omega
          subst this; omega
      refine .skip ?_
      simp
      refine .seq (.block (.reg ?_))
      simp [r68_9]
      refine (length_st _ _ (by omega) (by omega)).call ?_
      simp
      refine ⟨by omega, .reg ?_⟩
      simp [r68_8]
      refine ⟨by omega, j + 1, by omega, by omega, .of_sub ⟨?_, fun i => .refl _, rfl, by simp⟩⟩
      simp [List.replicate, M68]
      exact ⟨by rw [hstep2]; omega, by omega⟩
    · simp only [decide_eq_false_iff_not] at e
      have hjm : j = m := by
        rcases Nat.lt_or_ge j m with h | h
        · have := cm_mono (y := 2000 + k) (by omega) (show j + 1 ≤ m from h); omega
        · omega
      subst hjm
      refine .exit ?_
      simp
      refine .seq (.reg ?_)
      simp [r68_10]
      refine ⟨by omega, ?_⟩
      refine .retp (rs := rs68) rfl ?_ ?_ <;> simp [rs68]
end Go.Am
set_option linter.unusedVariables false
set_option linter.unusedSimpArgs false
namespace Go.Am
open Go.Proofs
attribute [local simp] areg aop dreg dop AOp.req argv argU AOp.args uncAll AOp.unAll Req.val Req.when putT putH athen ablk reqBin reqInt gcond unc unv pickB ressOk ARes.ok retVal ARes.val cut inr AOp.quiet
attribute [local simp] noRef_int noRef_bool noRef_str noRef_nils noRef_agg noRef_tup noRef_slc noRef_fn
attribute [local simp] vsub_top VSub.refl TSub vsub_int
attribute [local simp] AObj.plain AObj.owned AObj.ep hset h0 reqLoad reqStore acells allOne AVal.one lay fills ldv fzv fzl fz1
theorem around1_st (n l t : Int) (hn : 1 ≤ n) (hn2 : n ≤ 96) (ht : 0 ≤ t) (ht2 : t ≤ 1402560) :
    Still EE Tryd.prog 67 [.int .i64 n, .cptr (fun k => [AVal.int .i64 l].getD k .top) 1 0, .cptr (fun k => [AVal.int .i64 t].getD k .top) 1 0] (.agg [.int .i64 l, .int .i64 (t - t.tmod n), .int .i64 (t - t.tmod n + n)]) := by
  refine Pure.still ?_ hEE (by simp; exact ⟨.cptr _ _ _ (fun j hj => by simp [show j = 0 by omega]), .cptr _ _ _ (fun j hj => by simp [show j = 0 by omega])⟩) (by simp)
  obtain ⟨c, hb, hc⟩ := ck67
  refine Pure.of (fn := Tryd.f67) rfl hb cr67 (hc 0) 16 rfl ?_
  have h1 := Int.tmod_nonneg n ht
  have h2 : t.tmod n < n := Int.tmod_lt_of_pos t (by omega)
  refine .seq (.reg ?_)
  simp [r67_0]
  refine .seq (.draw ?_)
  simp [r67_1]
  refine ⟨by omega, by omega, by omega, by omega, by omega, rfl, ?_⟩
  refine .retp (rs := rs67) rfl ?_ ?_ <;> simp [rs67]
theorem level_st (n : Int) : Still EE Tryd.prog 56 [.int .i64 n] (.bool (decide (0 ≤ n) && decide (n ≤ 4))) := by
  refine Pure.still ?_ hEE (by simp) (by simp)
  obtain ⟨c, hb, hc⟩ := ck56
  refine Pure.of (fn := Tryd.f56) rfl hb cr56 (hc 0) 8 rfl ?_
  refine .seq (.reg ?_)
  simp [r56_0]
  refine .seq (.reg ?_)
  simp [r56_1]
  refine .retp (rs := rs56) rfl ?_ ?_ <;> simp [rs56]
def Z70 (y m d : Int) (v w x : AVal) : ASt := ⟨.int .i64 y :: .int .i64 m :: .int .i64 d :: .top :: .top :: .top :: .top :: .top :: v :: w :: x :: List.replicate 47 .top, h0, []⟩
set_option maxHeartbeats 1000000 in
theorem day_st (n m : Nat) (d : Int) (hn : n < 40) (hm : m < 12) (h1 : 1 ≤ d) (h2 : d ≤ mlen (2000 + n) (1 + m)) :
    Still EE Tryd.prog 70 [.int .i64 (2000 + n), .int .i64 (1 + m), .int .i64 d] (.tup [.int .i64 (d - 1 + cd n + cm (2000 + n) m), .int .i64 0]) := by
  refine Pure.still ?_ hEE (by simp) (by simp)
  obtain ⟨c, hb, hc⟩ := ck70
  refine Pure.of (fn := Tryd.f70) rfl hb cr70 (hc 0) 55 rfl ?_
  have hbm := mlen_bd (2000 + n) m hm
  refine .seq (.reg ?_)
  simp [r70_0]
  refine .seq (.seq (.reg ?_))
  simp [r70_1, show ¬ ((2000 : Int) + n < 2000) by omega, show ¬ (2040 ≤ (2000 : Int) + n) by omega, show ¬ ((1 : Int) + m < 1) by omega, show ¬ (12 < (1 : Int) + m) by omega, show ¬ (d < 1) by omega]
  refine .pure (.int .i64 (mlen (2000 + n) (1 + m))) (fun e => by simp) (fun e => length_st _ _ (by omega) (by omega)) ?_
  simp [show ¬ (mlen (2000 + n) (1 + m) < d) by omega]
  refine .cond (t := false) (by simp) (fun e => by cases e) (fun _ => ?_)
  refine .skip ?_
  simp
  refine .seq (.reg ?_)
  simp [r70_3]
  refine ⟨by omega, .seq (.seq (.reg ?_))⟩
  simp [r70_4]
  refine .block (.loop (fun k : Nat => Z70 (2000 + n) (1 + m) d (.int .i64 (d - 1 + cd k)) (.int .i64 (2000 + k)) .top) (fun k => n - k) (fun k => k ≤ n) 0 (by omega) (.of_sub ⟨?_, fun i => .refl _, rfl, by simp⟩) ?_)
  · simp [List.replicate, cd, Z70]
  intro k hk
  have e1 : cd k ≤ cd n := cd_mono hk
  have hb1 := ydays_bd (2000 + k)
  have hstep : cd (k + 1) = cd k + ydays (2000 + k) := rfl
  have hkd : 0 ≤ cd k := cd_mono (Nat.zero_le k)
  have h40 : cd n ≤ cd 40 := cd_mono (by omega)
  have h40' : cd 40 = 14610 := by decide
  refine .seq (.seq (.reg ?_))
  simp [List.replicate, r70_5, Z70]
  refine .cond (t := decide (k < n)) (by simp) (fun e => ?_) (fun e => ?_)
  · simp only [decide_eq_true_eq] at e
    refine .skip ?_
    simp
    refine .seq (.block (.reg ?_))
    simp [r70_7]
    refine (days_st _).call ?_
    simp
    refine ⟨by omega, .reg ?_⟩
    simp [r70_6]
    refine ⟨by omega, k + 1, by omega, by omega, .of_sub ⟨?_, fun i => .refl _, rfl, by simp⟩⟩
    simp [List.replicate, Z70]
    exact ⟨by rw [hstep]; omega, by omega⟩
  · simp only [decide_eq_false_iff_not] at e
    obtain rfl : k = n := by omega
    refine .exit ?_
    simp
    refine .seq (.seq (.reg ?_))
    simp [r70_8]
    refine .block (.loop (fun j : Nat => Z70 (2000 + k) (1 + m) d (.int .i64 (d - 1 + cd k + cm (2000 + k) j)) .top (.int .i64 (1 + j))) (fun j => m - j) (fun j => j ≤ m) 0 (by omega) (.of_sub ⟨?_, fun i => .refl _, rfl, by simp⟩) ?_)
    · simp [List.replicate, cm, Z70]
    intro j hj
    have hb2 := mlen_bd (2000 + k) j (by omega)
    have e3 : cm (2000 + k) j ≤ cm (2000 + k) 12 := cm_mono (by omega) (by omega)
    have e4 : cm (2000 + k) 12 = ydays (2000 + k) := by
      simp only [cm, mlen, ydays, lens]
      cases leap (2000 + k) <;> decide
    have hstep2 : cm (2000 + k) (j + 1) = cm (2000 + k) j + mlen (2000 + k) (1 + j) := rfl
    have hkd2 : 0 ≤ cm (2000 + k) j := cm_mono (by omega) (Nat.zero_le j)
    refine .seq (.seq (.reg ?_))
    simp [List.replicate, r70_9, Z70]
    refine .cond (t := decide (j < m)) (by simp) (fun e => ?_) (fun e => ?_)
    · simp only [decide_eq_true_eq] at e
      refine .skip ?_
      simp
      refine .seq (.block (.reg ?_))
      simp [r70_11]
      refine (length_st _ _ (by omega) (by omega)).call ?_
      simp
      refine ⟨by omega, .reg ?_⟩
      simp [r70_10]
      refine ⟨by omega, j + 1, by omega, by omega, .of_sub ⟨?_, fun i => .refl _, rfl, by simp⟩⟩
      simp [List.replicate, Z70]
      exact ⟨by rw [hstep2]; omega, by omega⟩
    · simp only [decide_eq_false_iff_not] at e
      obtain rfl : j = m := by omega
      refine .exit ?_
      simp
      refine .seq (.reg ?_)
      simp [r70_12]
      refine .retp (rs := rs70) rfl ?_ ?_ <;> simp [rs70]
end Go.Am
set_option linter.unusedVariables false
set_option linter.unusedSimpArgs false
namespace Go.Am
open Go.Proofs
attribute [local simp] areg aop dreg dop AOp.req argv argU AOp.args uncAll AOp.unAll Req.val Req.when putT putH athen ablk reqBin reqInt gcond unc unv pickB ressOk ARes.ok retVal ARes.val cut inr AOp.quiet
attribute [local simp] noRef_int noRef_bool noRef_str noRef_nils noRef_agg noRef_tup noRef_slc noRef_fn
attribute [local simp] vsub_top VSub.refl TSub vsub_int
attribute [local simp] AObj.plain AObj.owned AObj.ep hset h0 reqLoad reqStore acells allOne AVal.one lay fills ldv fzv fzl fz1
def arF (l t : Int) (n m : Nat) : Int := if l = 0 then t - t.tmod 1 else if l = 1 then t - t.tmod 4 else if l = 2 then t - t.tmod 96 else if l = 4 then cd n * 96 else (cd n + cm (2000 + n) m) * 96
def arT (l t : Int) (n m : Nat) : Int := if l = 0 then t - t.tmod 1 + 1 else if l = 1 then t - t.tmod 4 + 4 else if l = 2 then t - t.tmod 96 + 96 else if l = 4 then (cd n + ydays (2000 + n)) * 96 else (cd n + cm (2000 + n) m + mlen (2000 + n) (1 + m)) * 96
structure DayAt (d : Int) (n m : Nat) : Prop where
  nn : n < 40
  mm : m < 12
  h1 : cd n ≤ d
  h2 : d < cd (n + 1)
  h3 : cm (2000 + n) m ≤ d - cd n
  h4 : d - cd n < cm (2000 + n) (m + 1)
theorem enter67 : enterOk Tryd.prog 67 = true := by kernel_rfl
set_option maxHeartbeats 1000000 in
theorem around_st (l t : Int) (n m : Nat) (hl : 0 ≤ l) (hl2 : l ≤ 4) (ht : 0 ≤ t) (ht2 : t < 1402560) (D : DayAt (t.tdiv 96) n m) :
    Still EE Tryd.prog 57 [.int .i64 l, .int .i64 t] (.agg [.int .i64 l, .int .i64 (arF l t n m), .int .i64 (arT l t n m)]) := by
  refine Pure.still ?_ hEE (by simp) (by simp)
  obtain ⟨c, hb, hc⟩ := ck57
  refine Pure.of (fn := Tryd.f57) rfl hb cr57 (hc 0) 58 rfl ?_
  refine .seq (.reg ?_)
  simp [r57_0]
  refine .fz 0 (by simp) (by simp) ?_
  try simp
  refine .fz 1 (by simp) (by simp) ?_
  try simp
  refine .seq (.reg ?_)
  simp [r57_1]
  refine .seq (.seq (.reg ?_))
  simp [r57_2]
  refine .block (.seq (.reg ?_))
  simp [r57_3]
  have hq0 : 0 ≤ t.tdiv 96 := Int.tdiv_nonneg ht (by omega)
  have hq1 : t.tdiv 96 ≤ 14609 := by
    rw [Int.tdiv_eq_ediv_of_nonneg ht]; omega
  refine .cond (t := decide (l = 0)) (by simp) (fun e => ?_) (fun e => ?_)
  · simp only [decide_eq_true_eq] at e
    subst e
    refine .seq (.reg ?_)
    simp [r57_4]
    refine ⟨enter67, (around1_st 1 0 t (by omega) (by omega) ht (by omega)).call ?_⟩
    try simp
    refine .retp (rs := rs57) rfl ?_ ?_ <;> simp [rs57, arF, arT]
  simp only [decide_eq_false_iff_not] at e
  refine .seq (.reg ?_)
  simp [r57_5]
  refine .cond (t := decide (l = 1)) (by simp) (fun e => ?_) (fun e1 => ?_)
  · simp only [decide_eq_true_eq] at e
    subst e
    refine .seq (.reg ?_)
    simp [r57_6]
    refine ⟨enter67, (around1_st 4 1 t (by omega) (by omega) ht (by omega)).call ?_⟩
    try simp
    refine .retp (rs := rs57) rfl ?_ ?_ <;> simp [rs57, arF, arT]
  simp only [decide_eq_false_iff_not] at e1
  refine .seq (.reg ?_)
  simp [r57_7]
  refine .cond (t := decide (l = 2)) (by simp) (fun e => ?_) (fun e2 => ?_)
  · simp only [decide_eq_true_eq] at e
    subst e
    refine .seq (.reg ?_)
    simp [r57_8]
    refine ⟨enter67, (around1_st 96 2 t (by omega) (by omega) ht (by omega)).call ?_⟩
    try simp
    refine .retp (rs := rs57) rfl ?_ ?_ <;> simp [rs57, arF, arT]
  simp only [decide_eq_false_iff_not] at e2
  refine .skip ?_
  try simp
  refine .seq (.reg ?_)
  simp [r57_9]
  refine ⟨by omega, .seq (.reg ?_)⟩
  simp [r57_10]
  refine (date_st _ n m D.h1 D.h2 D.nn D.h3 D.h4 D.mm hq0 hq1).call ?_
  try simp
  have hn := D.nn
  have hm := D.mm
  have hd1 := D.h1
  have hd3 := D.h3
  have hbm := mlen_bd (2000 + n) m hm
  have hby := ydays_bd (2000 + n)
  have hkd : 0 ≤ cd n := cd_mono (Nat.zero_le n)
  have hkm : 0 ≤ cm (2000 + n) m := cm_mono (by omega) (Nat.zero_le m)
  refine .seq (.reg ?_)
  simp [r57_11]
  refine ⟨by omega, by omega, (length_st _ _ (by omega) (by omega)).call ?_⟩
  refine .seq (.seq (.reg ?_))
  simp [r57_12]
  refine .cond (t := decide (l = 4)) (by simp) (fun e => ?_) (fun e4 => ?_)
  · simp only [decide_eq_true_eq] at e
    subst e
    refine .seq (.reg ?_)
    simp [r57_13]
    have hd := day_st n 0 1 hn (by omega) (by omega) (by have := mlen_bd (2000 + n) 0 (by omega); omega)
    simp at hd
    refine hd.call ?_
    try simp
    refine .reg ?_
    simp [r57_14]
    refine (days_st _).call ?_
    skip
    refine .seq (.reg ?_)
    simp [r57_15]
    refine ⟨by simp [cm]; omega, by simp [cm]; omega, by simp [cm]; omega, ?_⟩
    refine .retp (rs := rs57) rfl ?_ ?_ <;> simp [rs57, arF, arT, cm]
  · simp only [decide_eq_false_iff_not] at e4
    refine .skip ?_
    try simp
    refine .seq (.reg ?_)
    simp [r57_15]
    refine ⟨by omega, by omega, by omega, ?_⟩
    refine .retp (rs := rs57) rfl ?_ ?_ <;> simp [rs57, arF, arT, e, e1, e2, e4]
    have h5 : t.tdiv 96 - (t.tdiv 96 - cd n - cm (2000 + ↑n) m + 1) + 1 = cd n + cm (2000 + ↑n) m := by omega
    rw [h5]
    exact ⟨rfl, rfl⟩
end Go.Am
set_option linter.unusedVariables false
set_option linter.unusedSimpArgs false
namespace Go.Am
open Go.Proofs
attribute [local simp] areg aop dreg dop AOp.req argv argU AOp.args uncAll AOp.unAll Req.val Req.when putT putH athen ablk reqBin reqInt gcond unc unv pickB ressOk ARes.ok retVal ARes.val cut inr AOp.quiet
attribute [local simp] noRef_int noRef_bool noRef_str noRef_nils noRef_agg noRef_tup noRef_slc noRef_fn
attribute [local simp] vsub_top VSub.refl TSub vsub_int
attribute [local simp] AObj.plain AObj.owned AObj.ep hset h0 reqLoad reqStore acells allOne AVal.one lay fills ldv fzv fzl fz1
theorem ivt (f : Nat → Int) (d : Int) : ∀ K : Nat, f 0 ≤ d → d < f K → ∃ k, k < K ∧ f k ≤ d ∧ d < f (k + 1)
  | 0, h0, h1 => by omega
  | K + 1, h0, h1 => by
    by_cases h : f K ≤ d
    · exact ⟨K, by omega, h, h1⟩
    · obtain ⟨k, hk, h2, h3⟩ := ivt f d K h0 (by omega)
      exact ⟨k, by omega, h2, h3⟩
theorem cm12 (y : Int) : cm y 12 = ydays y := by
  simp only [cm, mlen, ydays, lens]
  cases leap y <;> decide
theorem dayAt_ex (d : Int) (h0 : 0 ≤ d) (h1 : d ≤ 14609) : ∃ n m, DayAt d n m := by
  have e40 : cd 40 = 14610 := by decide
  obtain ⟨n, hn, a, b⟩ := ivt cd d 40 (by simpa [cd] using h0) (by omega)
  have hs : cd (n + 1) = cd n + ydays (2000 + n) := rfl
  have e12 := cm12 (2000 + n)
  obtain ⟨m, hm, a', b'⟩ := ivt (cm (2000 + n)) (d - cd n) 12 (by simp only [cm]; omega) (by omega)
  exact ⟨n, m, hn, hm, a, b, a', b'⟩
open Classical in
noncomputable def dn (d : Int) : Nat := if h : ∃ n m, DayAt d n m then h.choose else 0
open Classical in
noncomputable def dm (d : Int) : Nat := if h : ∃ n m, DayAt d n m then h.choose_spec.choose else 0
theorem dayAt (d : Int) (h0 : 0 ≤ d) (h1 : d ≤ 14609) : DayAt d (dn d) (dm d) := by
  have h := dayAt_ex d h0 h1
  unfold dn dm
  rw [dif_pos h, dif_pos h]
  exact h.choose_spec.choose_spec
noncomputable def bF (l t : Int) : Int := arF l t (dn (t.tdiv 96)) (dm (t.tdiv 96))
noncomputable def bT (l t : Int) : Int := arT l t (dn (t.tdiv 96)) (dm (t.tdiv 96))
theorem tday (t : Int) (ht : 0 ≤ t) (ht2 : t < 1402560) : 0 ≤ t.tdiv 96 ∧ t.tdiv 96 ≤ 14609 := by
  rw [Int.tdiv_eq_ediv_of_nonneg ht]; omega
theorem around_ok (l t : Int) (hl : 0 ≤ l) (hl2 : l ≤ 4) (ht : 0 ≤ t) (ht2 : t < 1402560) : Still EE Tryd.prog 57 [.int .i64 l, .int .i64 t] (.agg [.int .i64 l, .int .i64 (bF l t), .int .i64 (bT l t)]) :=
  around_st l t _ _ hl hl2 ht ht2 (dayAt _ (tday t ht ht2).1 (tday t ht ht2).2)
def inCal (l t : Int) : Bool := decide (0 ≤ l) && decide (l ≤ 4) && decide (0 ≤ t) && decide (t < 1402560)
theorem block_st (l t : Int) : Still EE Tryd.prog 46 [.int .i64 l, .int .i64 t]
    (if inCal l t then .tup [.agg [.int .i64 l, .int .i64 (bF l t), .int .i64 (bT l t)], .int .i64 0] else .tup [.agg [.int .i64 0, .int .i64 0, .int .i64 0], .int .i64 3]) := by
  refine Pure.still ?_ hEE (by simp) (by split <;> simp)
  obtain ⟨c, hb, hc⟩ := ck46
  refine Pure.of (fn := Tryd.f46) rfl hb cr46 (hc 0) 19 rfl ?_
  refine .seq (.reg ?_)
  simp [r46_0]
  refine .seq (.seq (.reg ?_))
  simp [r46_1]
  refine (level_st l).call ?_
  simp
  refine .cond (t := !inCal l t) ?_ (fun e => ?_) (fun e => ?_)
  · have a1 : decide (t < 0) = !decide (0 ≤ t) := by rw [← decide_not]; congr 1; simp
    have a2 : decide (1402560 ≤ t) = !decide (t < 1402560) := by rw [← decide_not]; congr 1; simp
    simp only [a1, a2, inCal, argv, List.getD_cons_zero, List.getD_cons_succ, AVal.bool.injEq]
    cases decide (0 ≤ l) <;> cases decide (l ≤ 4) <;> cases decide (0 ≤ t) <;> cases decide (t < 1402560) <;> rfl
  · refine .seq (.reg ?_)
    simp [r46_2]
    simp at e
    refine .retp (rs := rs46) rfl ?_ ?_ <;> simp [rs46, e]
  · refine .skip ?_
    simp
    simp at e
    have e' := e
    simp [inCal] at e'
    refine .seq (.reg ?_)
    simp [r46_3]
    refine (around_ok l t (by omega) (by omega) (by omega) (by omega)).call ?_
    simp
    refine .retp (rs := rs46) rfl ?_ ?_ <;> simp [rs46, e]
def calValid (l a b : Int) : Prop := inCal l a = true ∧ a = bF l a ∧ b = bT l a
end Go.Am
set_option linter.unusedVariables false
set_option linter.unusedSimpArgs false
namespace Go.Am
open Go.Proofs
attribute [local simp] areg aop dreg dop AOp.req argv argU AOp.args uncAll AOp.unAll Req.val Req.when putT putH athen ablk reqBin reqInt gcond unc unv pickB ressOk ARes.ok retVal ARes.val cut inr AOp.quiet
attribute [local simp] noRef_int noRef_bool noRef_str noRef_nils noRef_agg noRef_tup noRef_slc noRef_fn
attribute [local simp] vsub_top VSub.refl TSub vsub_int
attribute [local simp] AObj.plain AObj.owned AObj.ep hset h0 reqLoad reqStore acells allOne AVal.one lay fills ldv fzv fzl fz1
def fstI (p : Nat → Bool) (n : Nat) : Int := match (List.range n).find? p with | some k => k | none => -1
def anyI (p : Nat → Bool) (n : Nat) : Bool := (List.range n).any p
theorem fstI_hit {p : Nat → Bool} {n k : Nat} (hk : k < n) (hp : p k = true) (h : ∀ j, j < k → p j = false) : fstI p n = k := by
  unfold fstI
  have : (List.range n).find? p = some k := by
    rw [List.find?_range_eq_some]
    exact ⟨hp, by simpa using hk, fun j hj => by simp [h j hj]⟩
  rw [this]
theorem fstI_miss {p : Nat → Bool} {n : Nat} (h : ∀ j, j < n → p j = false) : fstI p n = -1 := by
  unfold fstI
  have : (List.range n).find? p = none := by
    rw [List.find?_eq_none]
    intro j hj
    simp [h j (by simpa using hj)]
  rw [this]
theorem fstI_any (p : Nat → Bool) (n : Nat) : decide (0 ≤ fstI p n) = anyI p n := by
  unfold fstI anyI
  cases h : (List.range n).find? p with
  | none =>
    rw [List.find?_eq_none] at h
    have : (List.range n).any p = false := by rw [List.any_eq_false]; exact h
    rw [this]; rfl
  | some k =>
    have h1 := List.find?_some h
    have h2 := List.mem_of_find?_eq_some h
    have : (List.range n).any p = true := List.any_eq_true.2 ⟨k, h2, h1⟩
    rw [this]; simp
def slOr (st n : Nat) (f : Nat → List AVal) (s : AVal) : Prop := s = .slc st n f ∨ (s = .nils ∧ n = 0)
theorem index_st (n : Nat) (f : Nat → List AVal) (s : AVal) (hs : slOr 3 n f s) (g : FuncId) (caps : List AVal) (p : Nat → Bool) (hg : enterOk Tryd.prog g = true) (hn : n < 4611686018427387904) (hlen : ∀ i, i < n → (f i).length = 3)
    (hf : ∀ i x, i < n → x ∈ f i → NoRef x) (hc : ∀ x, x ∈ caps → NoRef x) (hp : ∀ i, i < n → Still EE Tryd.prog g (.agg (f i) :: caps) (.bool (p i))) :
    Still EE Tryd.prog 51 [s, .fn g caps] (.int .i64 (fstI p n)) := by
  refine Pure.still ?_ hEE (by rcases hs with rfl | ⟨rfl, _⟩ <;> simp <;> first | exact ⟨hf, hc⟩ | exact hc) (by simp)
  obtain ⟨c, hb, hck⟩ := ck51
  refine Pure.of (fn := Tryd.f51) rfl hb cr51 (hck 0) 17 rfl ?_
  refine .seq (.reg ?_)
  simp [r51_0]
  refine .seq (.seq (.reg ?_))
  rcases hs with rfl | ⟨rfl, rfl⟩
  · simp [r51_1]
    refine .block (.loop (fun k : Nat => ⟨.slc 3 n f :: .fn g caps :: .top :: .top :: .top :: .top :: .top :: .int .i64 n :: .int .i64 k :: List.replicate 10 .top, h0, []⟩) (fun k => n - k) (fun k => k ≤ n ∧ ∀ j, j < k → p j = false) 0 ⟨by omega, fun j hj => by omega⟩ (.of_sub ⟨?_, fun i => .refl _, rfl, by simp⟩) ?_)
    · simp [List.replicate]
    rintro k ⟨hk, hlo⟩
    refine .seq (.reg ?_)
    simp [List.replicate, r51_2]
    refine .seq (.cond (t := decide (k < n)) (by simp) (fun e => ?_) (fun e => ?_))
    · simp only [decide_eq_true_eq] at e
      refine .skip ?_
      try simp
      refine .seq (.block (.seq (.reg ?_)))
      simp [r51_3]
      refine .seq (.reg ?_)
      simp [r51_4]
      refine ⟨e, hg, ?_⟩
      have e3 : (List.map (fun j => (f k)[j]?.getD AVal.top) (List.range 3)) = f k := by
        have h3 := hlen k e
        refine List.ext_getElem (by simp [h3]) fun i h1 h2 => ?_
        simp [List.getElem?_eq_getElem h2]
      rw [e3]
      refine (hp k e).call ?_
      try simp
      refine .cond (t := p k) (by simp) (fun e1 => ?_) (fun e1 => ?_)
      · refine .seq (.reg ?_)
        simp [r51_5]
        refine .retp (rs := rs51) rfl ?_ ?_ <;> simp [rs51]
        exact (fstI_hit e e1 hlo).symm
      · refine .skip ?_
        try simp
        refine .reg ?_
        simp [r51_6]
        refine ⟨by omega, k + 1, ⟨by omega, fun j hj => ?_⟩, by omega, .of_sub ⟨?_, fun i => .refl _, rfl, by simp⟩⟩
        · rcases Nat.lt_or_ge j k with h | h
          · exact hlo j h
          · obtain rfl : j = k := by omega
            exact e1
        · simp [List.replicate]
    · simp only [decide_eq_false_iff_not] at e
      refine .exit ?_
      try simp
      refine .seq (.reg ?_)
      simp [r51_7]
      refine .retp (rs := rs51) rfl ?_ ?_ <;> simp [rs51]
      exact (fstI_miss fun j hj => hlo j (by omega)).symm
  · simp [r51_1]
    refine .block (.loop (fun k : Unit => ⟨.nils :: .fn g caps :: .top :: .top :: .top :: .top :: .top :: .int .i64 0 :: .int .i64 0 :: List.replicate 10 .top, h0, []⟩) (fun k => 0) (fun k => True) () trivial (.of_sub ⟨?_, fun i => .refl _, rfl, by simp⟩) ?_)
    · simp [List.replicate]
    rintro _ _
    refine .seq (.reg ?_)
    simp [List.replicate, r51_2]
    refine .seq (.cond (t := false) (by simp) (fun e => by cases e) (fun e => ?_))
    refine .exit ?_
    try simp
    refine .seq (.reg ?_)
    simp [r51_7]
    refine .retp (rs := rs51) rfl ?_ ?_ <;> simp [rs51, fstI]
theorem enter51 : enterOk Tryd.prog 51 = true := by kernel_rfl
theorem contains_st (n : Nat) (f : Nat → List AVal) (s : AVal) (hs : slOr 3 n f s) (g : FuncId) (caps : List AVal) (p : Nat → Bool) (hg : enterOk Tryd.prog g = true) (hn : n < 4611686018427387904) (hlen : ∀ i, i < n → (f i).length = 3)
    (hf : ∀ i x, i < n → x ∈ f i → NoRef x) (hc : ∀ x, x ∈ caps → NoRef x) (hp : ∀ i, i < n → Still EE Tryd.prog g (.agg (f i) :: caps) (.bool (p i))) :
    Still EE Tryd.prog 27 [s, .fn g caps] (.bool (anyI p n)) := by
  refine Pure.still ?_ hEE (by rcases hs with rfl | ⟨rfl, _⟩ <;> simp <;> first | exact ⟨hf, hc⟩ | exact hc) (by simp)
  obtain ⟨c, hb, hck⟩ := ck27
  refine Pure.of (fn := Tryd.f27) rfl hb cr27 (hck 0) 7 rfl ?_
  refine .seq (.reg ?_)
  simp [r27_0]
  refine .seq (.reg ?_)
  simp [r27_1]
  refine (index_st n f s hs g caps p hg hn hlen hf hc hp).call ?_
  try simp
  refine .retp (rs := rs27) rfl ?_ ?_ <;> simp [rs27]
  exact fstI_any p n
end Go.Am
set_option linter.unusedVariables false
set_option linter.unusedSimpArgs false
namespace Go.Am
open Go.Proofs
attribute [local simp] areg aop dreg dop AOp.req argv argU AOp.args uncAll AOp.unAll Req.val Req.when putT putH athen ablk reqBin reqInt gcond unc unv pickB ressOk ARes.ok retVal ARes.val cut inr AOp.quiet
attribute [local simp] noRef_int noRef_bool noRef_str noRef_nils noRef_agg noRef_tup noRef_slc noRef_fn
attribute [local simp] vsub_top VSub.refl TSub vsub_int
attribute [local simp] AObj.plain AObj.owned AObj.ep hset h0 reqLoad reqStore acells allOne AVal.one lay fills ldv fzv fzl fz1
theorem gauge_st (n : Int) : Still EE Tryd.prog 29 [.int .i64 n] (.bool (decide (0 ≤ n) && decide (n < 40))) := by
  refine Pure.still ?_ hEE (by simp) (by simp)
  obtain ⟨c, hb, hc⟩ := ck29
  refine Pure.of (fn := Tryd.f29) rfl hb cr29 (hc 0) 8 rfl ?_
  refine .seq (.reg ?_)
  simp [r29_0]
  refine .seq (.reg ?_)
  simp [r29_1]
  refine .retp (rs := rs29) rfl ?_ ?_ <;> simp [rs29]
structure Fz where
  g : Int
  a : Int
  b : Int
def Fz.cells (x : Fz) : List AVal := [.int .i64 x.g, .int .i64 x.a, .int .i64 x.b]
theorem Fz.nr (x : Fz) : ∀ y, y ∈ x.cells → NoRef y := by
  intro y hy
  simp only [Fz.cells, List.mem_cons, List.not_mem_nil, or_false] at hy
  rcases hy with rfl | rfl | rfl <;> exact .int _ _
theorem nrF (q : Nat → Fz) (n : Nat) : NoRef (.slc 3 n (fun i => (q i).cells)) := .slc _ _ _ fun i x _ hx => (q i).nr x hx
attribute [local simp] nrF
def Fz.bad (x : Fz) : Bool := !(decide (0 ≤ x.g) && decide (x.g < 40)) || decide (x.a < 0) || decide (x.b ≤ x.a) || decide (1402560 < x.b)
theorem check1_st (x : Fz) : Still EE Tryd.prog 28 [.agg x.cells] (.bool x.bad) := by
  refine Pure.still ?_ hEE (by simp [Fz.cells]) (by simp)
  obtain ⟨c, hb, hc⟩ := ck28
  refine Pure.of (fn := Tryd.f28) rfl hb cr28 (hc 0) 23 rfl ?_
  refine .seq (.reg ?_)
  simp [r28_0, Fz.cells]
  refine .seq (.reg ?_)
  simp [r28_1]
  refine (gauge_st x.g).call ?_
  simp
  refine .retp (rs := rs28) rfl ?_ ?_ <;> simp [rs28, Fz.bad]
structure Lw where
  r : Int
  h : Int
  d : Int
  m : Int
def Lw.cells (w : Lw) : List AVal := [.int .i64 w.r, .int .i64 w.h, .int .i64 w.d, .int .i64 w.m]
def Lw.bad (w : Lw) : Bool := decide (w.r < 0) || decide (w.h < w.r) || decide (w.d < w.h) || decide (w.m < w.d) || decide (14609 < w.m)
def chk (w : Lw) (q : Nat → Fz) (n : Nat) : Int := if w.bad then 3 else if 100 < n then 2 else if anyI (fun i => (q i).bad) n then 1 else 0
theorem enter28 : enterOk Tryd.prog 28 = true := by kernel_rfl
theorem check_st (w : Lw) (q : Nat → Fz) (n : Nat) (hn : n < 4611686018427387904) : Still EE Tryd.prog 13 [.agg w.cells, .slc 3 n (fun i => (q i).cells)] (.int .i64 (chk w q n)) := by
  refine Pure.still ?_ hEE (by simp [Lw.cells, -noRef_slc]) (by simp)
  obtain ⟨c, hb, hc⟩ := ck13
  refine Pure.of (fn := Tryd.f13) rfl hb cr13 (hc 0) 37 rfl ?_
  refine .seq (.reg ?_)
  simp [r13_0, Lw.cells]
  refine .seq (.seq (.reg ?_))
  simp [r13_1]
  refine .cond (t := w.bad) (by simp [Lw.bad]) (fun e => ?_) (fun e => ?_)
  · refine .seq (.reg ?_)
    simp [r13_2]
    refine .retp (rs := rs13) rfl ?_ ?_ <;> simp [rs13, chk, e]
  refine .skip ?_
  try simp
  refine .seq (.seq (.reg ?_))
  simp [r13_3]
  refine .cond (t := decide (100 < n)) (by simp; omega) (fun e1 => ?_) (fun e1 => ?_)
  · simp only [decide_eq_true_eq] at e1
    refine .seq (.reg ?_)
    simp [r13_4]
    refine .retp (rs := rs13) rfl ?_ ?_ <;> simp [rs13, chk, e, e1]
  simp only [decide_eq_false_iff_not] at e1
  refine .skip ?_
  try simp
  refine .seq (.seq (.reg ?_))
  simp [r13_5]
  refine (contains_st n _ _ (.inl rfl) 28 [] (fun i => (q i).bad) enter28 hn (fun i _ => rfl) (fun i x _ hx => by simp [Fz.cells] at hx; rcases hx with rfl | rfl | rfl <;> simp) (by simp) (fun i _ => check1_st (q i))).call ?_
  try simp
  refine .cond (t := anyI (fun i => (q i).bad) n) (by simp) (fun e2 => ?_) (fun e2 => ?_)
  · refine .seq (.reg ?_)
    simp [r13_6]
    refine .retp (rs := rs13) rfl ?_ ?_ <;> simp [rs13, chk, e, e1, e2]
  refine .skip ?_
  try simp
  refine .seq (.reg ?_)
  simp [r13_7]
  refine .retp (rs := rs13) rfl ?_ ?_ <;> simp [rs13, chk, e, e1, e2]
def Fz.hits (x : Fz) (a b : Int) : Bool := decide (x.a < b) && decide (a < x.b)
theorem may1_st (x : Fz) (l a b : Int) : Still EE Tryd.prog 64 [.agg x.cells, .cptr (fun k => [AVal.int .i64 l, AVal.int .i64 a, AVal.int .i64 b].getD k .top) 3 0] (.bool (x.hits a b)) := by
  have hc : NoRef (.cptr (fun k => [AVal.int .i64 l, AVal.int .i64 a, AVal.int .i64 b].getD k .top) 3 0) := .cptr _ _ _ fun j hj => by
    have : j = 0 ∨ j = 1 ∨ j = 2 := by omega
    rcases this with rfl | rfl | rfl <;> simp
  refine Pure.still ?_ hEE (by
    intro y hy
    simp only [List.mem_cons, List.not_mem_nil, or_false] at hy
    rcases hy with rfl | rfl
    · exact .agg _ x.nr
    · exact hc) (by simp)
  obtain ⟨c, hb, hc⟩ := ck64
  refine Pure.of (fn := Tryd.f64) rfl hb cr64 (hc 0) 14 rfl ?_
  refine .seq (.reg ?_)
  simp [r64_0, Fz.cells]
  refine .seq (.reg ?_)
  simp [r64_1]
  refine .retp (rs := rs64) rfl ?_ ?_ <;> simp [rs64, Fz.hits]
def kcells (w : Lw) (s : AVal) (today : Int) : List AVal := [.int .i64 0, .int .i64 w.r, .int .i64 w.h, .int .i64 w.d, .int .i64 w.m, s, .int .i64 today]
def Lw.at (w : Lw) (l : Int) : Int := if l = 0 then 0 else if l = 1 then w.r else if l = 2 then w.h else if l = 3 then w.d else w.m
def may (w : Lw) (q : Nat → Fz) (n : Nat) (today l a b : Int) : Bool := decide (w.at l < today - (b - 1).tdiv 96) && !anyI (fun i => (q i).hits a b) n
theorem enter64 : enterOk Tryd.prog 64 = true := by kernel_rfl
theorem may_st (w : Lw) (q : Nat → Fz) (n : Nat) (s : AVal) (hs : slOr 3 n (fun i => (q i).cells) s) (hn : n < 4611686018427387904) (today l a b : Int) (ht : 0 ≤ today) (ht2 : today ≤ 14609) (hl : 0 ≤ l) (hl2 : l ≤ 4) (hb0 : 0 ≤ b) (hb1 : b ≤ 1402560) :
    Still EE Tryd.prog 47 [.agg (kcells w s today), .agg [.int .i64 l, .int .i64 a, .int .i64 b]] (.bool (may w q n today l a b)) := by
  have hsn : NoRef s := by
    rcases hs with rfl | ⟨rfl, _⟩
    · exact nrF q n
    · exact .nils
  refine Pure.still ?_ hEE (by simp [kcells, hsn]) (by simp)
  obtain ⟨c, hb, hc⟩ := ck47
  refine Pure.of (fn := Tryd.f47) rfl hb cr47 (hc 0) 25 rfl ?_
  have hq1 : 0 ≤ (b - 1).tdiv 96 ∧ (b - 1).tdiv 96 ≤ 14609 := by
    rcases Int.lt_or_le 0 b with h | h
    · rw [Int.tdiv_eq_ediv_of_nonneg (by omega)]; omega
    · obtain rfl : b = 0 := by omega
      decide
  refine .seq (.reg ?_)
  simp [r47_0, kcells]
  have hat : [AVal.int .i64 0, .int .i64 w.r, .int .i64 w.h, .int .i64 w.d, .int .i64 w.m, s, .int .i64 today][l.toNat]? = some (.int .i64 (w.at l)) := by
    have : l = 0 ∨ l = 1 ∨ l = 2 ∨ l = 3 ∨ l = 4 := by omega
    rcases this with rfl | rfl | rfl | rfl | rfl <;> rfl
  refine .seq (.draw ?_)
  simp [r47_1, hat]
  refine ⟨by omega, by omega, by omega, by omega, by omega, rfl, ?_⟩
  refine .fz 1 (by simp) (by simp) ?_
  simp
  refine .seq (.reg ?_)
  simp [r47_2]
  refine .pure (.bool (anyI (fun i => (q i).hits a b) n)) (fun e => by simp) (fun e => contains_st n _ s hs 64 _ (fun i => (q i).hits a b) enter64 hn (fun i _ => rfl) (fun i x _ hx => (q i).nr x hx) ?_ (fun i _ => may1_st (q i) l a b)) ?_
  · intro x hx
    simp at hx
    subst hx
    exact .cptr _ _ _ fun j hj => by
      have hj' : j < 3 := hj
      have : j = 0 ∨ j = 1 ∨ j = 2 := by omega
      rcases this with rfl | rfl | rfl <;> exact .int _ _
  try simp
  refine .retp (rs := rs47) rfl ?_ ?_ <;> simp [rs47, may]
end Go.Am
set_option linter.unusedVariables false
set_option linter.unusedSimpArgs false
namespace Go.Am
open Go.Proofs
attribute [local simp] areg aop dreg dop AOp.req argv argU AOp.args uncAll AOp.unAll Req.val Req.when putT putH athen ablk reqBin reqInt gcond unc unv pickB ressOk ARes.ok retVal ARes.val cut inr AOp.quiet
attribute [local simp] noRef_int noRef_bool noRef_str noRef_nils noRef_agg noRef_tup noRef_slc noRef_fn
attribute [local simp] vsub_top VSub.refl TSub vsub_int
attribute [local simp] AObj.plain AObj.owned AObj.ep hset h0 reqLoad reqStore acells allOne AVal.one lay fills ldv fzv fzl fz1
structure Bn where
  l : Int
  a : Int
  b : Int
def Bn.cells (x : Bn) : List AVal := [.int .i64 x.l, .int .i64 x.a, .int .i64 x.b]
noncomputable def dfind (w : Lw) (q : Nat → Fz) (n : Nat) (today t : Int) : Nat → Bn
  | 0 => ⟨0, 0, 0⟩
  | l + 1 => if may w q n today (l + 1) (bF (l + 1) t) (bT (l + 1) t) then ⟨l + 1, bF (l + 1) t, bT (l + 1) t⟩ else if l = 0 then ⟨0, bF 1 t, bT 1 t⟩ else dfind w q n today t l
def cT (t : Int) : AVal := .cptr (fun k => [AVal.int .i64 t].getD k .top) 1 0
def cK (w : Lw) (s : AVal) (today : Int) : AVal := .cptr (fun k => (kcells w s today).getD k .top) 7 0
theorem cT_eq (t : Int) : cT t = .cptr (fun k => [AVal.int .i64 t].getD k .top) 1 0 := rfl
theorem cK_eq (w : Lw) (s : AVal) (today : Int) : cK w s today = .cptr (fun k => (kcells w s today).getD k .top) 7 0 := rfl
theorem bT_bd (l t : Int) (hl : 0 ≤ l) (hl2 : l ≤ 4) (ht : 0 ≤ t) (ht2 : t < 1402560) : 0 ≤ bT l t ∧ bT l t ≤ 1402560 := by
  have D := dayAt _ (tday t ht ht2).1 (tday t ht ht2).2
  have hn := D.nn
  have hm := D.mm
  have h1 : cd (dn (t.tdiv 96) + 1) ≤ cd 40 := cd_mono (by omega)
  have h40 : cd 40 = 14610 := by decide
  have hs : cd (dn (t.tdiv 96) + 1) = cd (dn (t.tdiv 96)) + ydays (2000 + (dn (t.tdiv 96) : Nat)) := rfl
  have hcm : cm (2000 + (dn (t.tdiv 96) : Nat)) (dm (t.tdiv 96) + 1) ≤ cm (2000 + (dn (t.tdiv 96) : Nat)) 12 := cm_mono (by omega) (by omega)
  have h12 := cm12 (2000 + (dn (t.tdiv 96) : Nat))
  have hsm : cm (2000 + (dn (t.tdiv 96) : Nat)) (dm (t.tdiv 96) + 1) = cm (2000 + (dn (t.tdiv 96) : Nat)) (dm (t.tdiv 96)) + mlen (2000 + (dn (t.tdiv 96) : Nat)) (1 + (dm (t.tdiv 96) : Nat)) := rfl
  have hk0 : 0 ≤ cd (dn (t.tdiv 96)) := cd_mono (Nat.zero_le _)
  have hk1 : 0 ≤ cm (2000 + (dn (t.tdiv 96) : Nat)) (dm (t.tdiv 96)) := cm_mono (by omega) (Nat.zero_le _)
  have hb1 := mlen_bd (2000 + (dn (t.tdiv 96) : Nat)) (dm (t.tdiv 96)) hm
  have hb2 := ydays_bd (2000 + (dn (t.tdiv 96) : Nat))
  unfold bT arT
  rw [Int.tmod_eq_emod_of_nonneg ht, Int.tmod_eq_emod_of_nonneg ht, Int.tmod_eq_emod_of_nonneg ht]
  split
  · omega
  split
  · omega
  split
  · omega
  split
  · omega
  · omega
theorem AW.reth {E : Nat → AVal} {P : Program} {ρ : Option Nat} {rs : List ARes} {R : AVal → AHeap → Prop} {S : ASt} {Q : Exit → ASt → Prop} (hq : Q .ret = Post E rs R .ret) (hds : S.ds = []) (hok : ressOk S rs) (hR : R (retVal S rs) S.h) : AW E ρ P .ret Q S :=
  .ret (by rw [hq]; exact .here hok hds hR)
theorem enter45 : enterOk Tryd.prog 45 = true := by kernel_rfl
set_option maxHeartbeats 2000000 in
theorem due1_ok (w : Lw) (q : Nat → Fz) (n : Nat) (s : AVal) (hs : slOr 3 n (fun i => (q i).cells) s) (hn : n < 4611686018427387904) (today t : Int) (hd : 0 ≤ today) (hd2 : today ≤ 14609) (ht : 0 ≤ t) (ht2 : t < 1402560) :
    ∀ (l : Nat), l < 4 → ∀ (b : Nat) (h : AHeap), 3 < b → h 3 = .box 1 [.fn 45 [cT t, cK w s today, .ptr 3 1 0]] → (∀ i, b ≤ i → h i = .gone 0) →
      ATr EE Tryd.prog 45 [.int .i64 (l + 1), cT t, cK w s today, .ptr 3 1 0] h (fun r h' => r = .agg (dfind w q n today t (l + 1)).cells ∧ ∀ i, i < b → h' i = h i) := by
  intro l
  induction l using Nat.strongRecOn with
  | ind l ih =>
    intro hl b h hb h3 hpl
    obtain ⟨c, hbd, hc⟩ := ck45
    refine ATr.of (fn := Tryd.f45) rfl hbd cr45 (hc b) 24 rfl ?_
    have hb3 : ¬ (3 = b) := by omega
    have hb4 : ¬ (3 = b + 1) := by omega
    have p0 := hpl b (Nat.le_refl _)
    have p1 := hpl (b + 1) (by omega)
    have hlo : ∀ i, i < b → ¬ (i = b) ∧ ¬ (i = b + 1) := fun i hi => ⟨by omega, by omega⟩
    have inc : inCal (l + 1) t = true := by simp [inCal]; omega
    have hbt := bT_bd (l + 1) t (by omega) (by omega) ht ht2
    refine .seq (.reg ?_)
    simp [r45_0, cT_eq, cK_eq, p0]
    refine .seq (.reg ?_)
    simp [r45_1, p0]
    have hblk := block_st (l + 1) t
    rw [if_pos inc] at hblk
    refine hblk.call ?_
    simp [p1]
    refine .seq (.block (.seq (.reg ?_)))
    simp [r45_2, kcells]
    refine (may_st w q n s hs hn today (l + 1) (bF (l + 1) t) (bT (l + 1) t) hd hd2 (by omega) (by omega) hbt.1 hbt.2).call ?_
    try simp
    refine .cond (t := may w q n today (l + 1) (bF (l + 1) t) (bT (l + 1) t)) (by simp) (fun e => ?_) (fun e => ?_)
    · refine .seq (.reg ?_)
      simp [r45_3]
      refine .ret ?_
      simp only [athen, ablk]
      refine .here ?_ rfl ⟨?_, fun i hi => ?_⟩
      · simp [rs45]
      · simp [rs45, dfind, e, Bn.cells]
      · simp [(hlo i hi).1, (hlo i hi).2]
    refine .seq (.reg ?_)
    simp [r45_4]
    refine .cond (t := decide (l = 0)) (by simp; omega) (fun e1 => ?_) (fun e1 => ?_)
    · simp only [decide_eq_true_eq] at e1
      subst e1
      refine .seq (.reg ?_)
      simp [r45_5]
      refine .seq (.reg ?_)
      simp [r45_6]
      refine .ret ?_
      simp only [athen, ablk]
      refine .here ?_ rfl ⟨?_, fun i hi => ?_⟩
      · simp [rs45]
      · have e' := e
        simp at e'
        simp [rs45, dfind, e', Bn.cells]
      · simp [(hlo i hi).1, (hlo i hi).2]
    simp only [decide_eq_false_iff_not] at e1
    refine .skip ?_
    try simp
    refine .seq (.reg ?_)
    simp [r45_7, h3, hb3, hb4, cT_eq, cK_eq, kcells]
    refine ⟨by omega, enter45, ?_⟩
    obtain ⟨k, rfl⟩ : ∃ k, l = k + 1 := ⟨l - 1, by omega⟩
    have hk : ((k + 1 : Nat) : Int) = (k : Int) + 1 := rfl
    simp only [hk] at *
    refine (ih k (by omega) (by omega) (b + 2) _ (by omega) ?_ ?_).mono ?_
    · simp [h3, hb3, hb4, cT, cK, kcells]
    · intro i hi
      have := hpl i (by omega)
      simp [show ¬ (i = b) by omega, show ¬ (i = b + 1) by omega, this]
    rintro r h' ⟨rfl, hh⟩
    have hb' := hh b (by omega)
    simp at hb'
    simp [hb', Bn.cells]
    refine .ret ?_
    refine .here ?_ rfl ⟨?_, fun i hi => ?_⟩
    · simp [rs45]
    · have e0 : dfind w q n today t (k + 1 + 1) = dfind w q n today t (k + 1) := by
        show (if may w q n today ((k : Int) + 1 + 1) (bF ((k : Int) + 1 + 1) t) (bT ((k : Int) + 1 + 1) t) = true then _ else if k + 1 = 0 then _ else dfind w q n today t (k + 1)) = _
        rw [e]; simp
      rw [e0]
      simp [rs45, Bn.cells]
    · have := hh i (by omega)
      simp [(hlo i hi).1, (hlo i hi).2] at this ⊢
      exact this
noncomputable def due (w : Lw) (q : Nat → Fz) (n : Nat) (today t : Int) : Bn := dfind w q n today t 4
theorem due_st (w : Lw) (q : Nat → Fz) (n : Nat) (s : AVal) (hs : slOr 3 n (fun i => (q i).cells) s) (hn : n < 4611686018427387904) (today t : Int) (hd : 0 ≤ today) (hd2 : today ≤ 14609) (ht : 0 ≤ t) (ht2 : t < 1402560) :
    Still EE Tryd.prog 22 [.agg (kcells w s today), .int .i64 t] (.agg (due w q n today t).cells) := by
  have hsn : NoRef s := by
    rcases hs with rfl | ⟨rfl, _⟩
    · exact nrF q n
    · exact .nils
  refine Pure.still ?_ hEE (by simp [kcells, hsn]) (by simp [Bn.cells])
  obtain ⟨c, hb, hc⟩ := ck22
  refine Pure.of (fn := Tryd.f22) rfl hb cr22 (hc 0) 7 rfl ?_
  refine .seq (.reg ?_)
  simp [r22_0, kcells]
  refine .fz 0 (by simp) (by simp) ?_
  simp
  refine .fz 1 (by simp) (by simp) ?_
  simp
  refine .seq (.reg ?_)
  simp [r22_1]
  refine .seq (.reg ?_)
  simp [r22_2]
  refine .seq (.reg ?_)
  simp [r22_3]
  refine ⟨enter45, ?_⟩
  refine (due1_ok w q n s hs hn today t hd hd2 ht ht2 3 (by omega) 4 _ (by omega) ?_ ?_).mono ?_
  · simp [cT, cK, kcells]
  · intro i hi
    simp [show ¬ (i = 0) by omega, show ¬ (i = 1) by omega, show ¬ (i = 2) by omega, show ¬ (i = 3) by omega]
  rintro r h' ⟨rfl, hh⟩
  have h2 := hh 2 (by omega)
  simp at h2
  simp [h2, Bn.cells]
  refine .retp (rs := rs22) rfl ?_ ?_ <;> simp [rs22, due, Bn.cells]
end Go.Am
