/- Part C4 of the proof that the last part closes: contracts of functions and plain lemmas. No condition. -/
import Derived.Test.YtjmchgpbejldlaaDoorC3
set_option linter.unusedVariables false
set_option linter.unusedSimpArgs false
namespace Go.Am
open Go.Proofs
attribute [local simp] areg aop dreg dop AOp.req argv argU AOp.args uncAll AOp.unAll Req.val Req.when putT putH athen ablk reqBin reqInt gcond unc unv pickB ressOk ARes.ok retVal ARes.val cut inr AOp.quiet
attribute [local simp] noRef_int noRef_bool noRef_str noRef_nils noRef_agg noRef_tup noRef_slc noRef_fn
attribute [local simp] vsub_top VSub.refl TSub vsub_int
attribute [local simp] AObj.plain AObj.owned AObj.ep hset h0 reqLoad reqStore acells allOne AVal.one lay fills ldv fzv fzl fz1
attribute [local simp] rg2 rg3 rg4 rg7
theorem rleap_st (y : Int) : Still EE Tryd.prog 96 [.int .i64 y] (.bool (leap y)) := by
  refine Pure.still ?_ hEE (by simp) (by simp)
  obtain ⟨c, hb, hc⟩ := ck96
  refine Pure.of (fn := Tryd.f96) rfl hb cr96 (hc 0) 13 rfl ?_
  refine .seq (.reg ?_)
  simp [r96_0]
  refine .seq (.seq (.reg ?_))
  simp [r96_1]
  refine .cond (t := decide (y.tmod 400 = 0)) (by simp) (fun e => ?_) (fun e => ?_)
  · simp only [decide_eq_true_eq] at e
    refine .seq (.reg ?_)
    simp [r96_2]
    refine .retp (rs := rs96) rfl ?_ ?_ <;> simp [rs96, leap, e]
  · simp only [decide_eq_false_iff_not] at e
    refine .skip ?_
    simp
    refine .seq (.reg ?_)
    simp [r96_3]
    refine .retp (rs := rs96) rfl ?_ ?_ <;> simp [rs96, leap, e]
theorem rdays_st (y : Int) : Still EE Tryd.prog 88 [.int .i64 y] (.int .i64 (ydays y)) := by
  refine Pure.still ?_ hEE (by simp) (by simp)
  obtain ⟨c, hb, hc⟩ := ck88
  refine Pure.of (fn := Tryd.f88) rfl hb cr88 (hc 0) 6 rfl ?_
  refine .seq (.reg ?_)
  simp [r88_0]
  refine .seq (.reg ?_)
  simp [r88_1]
  refine (rleap_st y).call ?_
  try simp
  refine .seq (.seq (.reg ?_))
  simp [r88_2]
  refine .cond (t := leap y) (by simp) (fun e => ?_) (fun e => ?_)
  · refine .seq (.reg ?_)
    simp [r88_3]
    refine .retp (rs := rs88) rfl ?_ ?_ <;> simp [rs88, ydays, e]
  · refine .skip ?_
    simp
    refine .seq (.reg ?_)
    simp [r88_4]
    refine .retp (rs := rs88) rfl ?_ ?_ <;> simp [rs88, ydays, e]
theorem rlength_st (y m : Int) (h1 : 1 ≤ m) (h2 : m ≤ 12) : Still EE Tryd.prog 89 [.int .i64 y, .int .i64 m] (.int .i64 (mlen y m)) := by
  refine Pure.still ?_ hEE (by simp) (by simp)
  obtain ⟨c, hb, hc⟩ := ck89
  refine Pure.of (fn := Tryd.f89) rfl hb cr89 (hc 0) 23 rfl ?_
  refine .seq (.reg ?_)
  simp [r89_0]
  refine .seq (.reg ?_)
  simp [r89_1]
  refine (rleap_st y).call ?_
  try simp
  refine .seq (.seq (.reg ?_))
  simp [r89_2]
  have hm : m = 1 ∨ m = 2 ∨ m = 3 ∨ m = 4 ∨ m = 5 ∨ m = 6 ∨ m = 7 ∨ m = 8 ∨ m = 9 ∨ m = 10 ∨ m = 11 ∨ m = 12 := by omega
  refine .cond (t := decide (m = 2)) (by simp) (fun e => ?_) (fun e => ?_)
  · simp only [decide_eq_true_eq] at e
    subst e
    refine .seq (.seq (.reg ?_))
    simp [r89_3]
    refine .cond (t := leap y) (by simp) (fun e => ?_) (fun e => ?_)
    · refine .seq (.reg ?_)
      simp [r89_4]
      refine .retp (rs := rs89) rfl ?_ ?_ <;> simp [rs89, mlen, e]
    · refine .skip ?_
      simp
      refine .seq (.reg ?_)
      simp [r89_5]
      refine .retp (rs := rs89) rfl ?_ ?_ <;> simp [rs89, mlen, e]
      decide
  · simp only [decide_eq_false_iff_not] at e
    refine .skip ?_
    simp
    refine .seq (.seq (.reg ?_))
    rcases hm with rfl | rfl | rfl | rfl | rfl | rfl | rfl | rfl | rfl | rfl | rfl | rfl <;> first
      | (exact absurd rfl e)
      | (simp [r89_6]
         refine .cond (t := true) (by simp) (fun _ => ?_) (fun e => by cases e)
         refine .seq (.reg ?_)
         simp [r89_7]
         refine .retp (rs := rs89) rfl (by simp [rs89]) (by simp [rs89, mlen]; decide))
      | (simp [r89_6]
         refine .cond (t := false) (by simp) (fun e => by cases e) (fun _ => ?_)
         refine .skip ?_
         simp
         refine .seq (.reg ?_)
         simp [r89_8]
         refine .retp (rs := rs89) rfl (by simp [rs89]) (by simp [rs89, mlen]; decide))
def Y75 (d : Int) (k : Nat) : ASt := ⟨.int .i64 (d - cd k) :: .top :: .ptr 0 1 0 :: .ptr 1 1 0 :: List.replicate 44 .top, hset (hset h0 0 (.box 1 [.int .i64 0, .int .i64 0, .int .i64 0, .int .i64 0])) 1 (.box 1 [.int .i64 (2000 + k), .int .i64 1, .int .i64 0, .int .i64 0]), []⟩
def M75 (d : Int) (n k : Nat) : ASt := ⟨.int .i64 (d - cd n - cm (2000 + n) k) :: .top :: .ptr 0 1 0 :: .ptr 1 1 0 :: List.replicate 44 .top, hset (hset h0 0 (.box 1 [.int .i64 0, .int .i64 0, .int .i64 0, .int .i64 0])) 1 (.box 1 [.int .i64 (2000 + n), .int .i64 (1 + k), .int .i64 0, .int .i64 0]), []⟩
set_option maxHeartbeats 1000000 in
theorem rdate_st (d : Int) (n m : Nat) (h1 : cd n ≤ d) (h2 : d < cd (n + 1)) (hn : n < 40) (h3 : cm (2000 + n) m ≤ d - cd n) (h4 : d - cd n < cm (2000 + n) (m + 1)) (hm : m < 12) (hd0 : 0 ≤ d) (hd : d ≤ 14609) :
    Still EE Tryd.prog 75 [.int .i64 d] (.agg [.int .i64 (2000 + n), .int .i64 (1 + m), .int .i64 (d - cd n - cm (2000 + n) m + 1), .int .i64 0]) := by
  refine Pure.still ?_ hEE (by simp) (by simp)
  obtain ⟨c, hb, hc⟩ := ck75
  refine Pure.of (fn := Tryd.f75) rfl hb cr75 (hc 0) 47 rfl ?_
  refine .seq (.reg ?_)
  simp [r75_0]
  refine .seq (.seq (.reg ?_))
  simp [r75_1]
  refine .cond (t := false) (by simp; omega) (fun e => by cases e) (fun _ => ?_)
  refine .skip ?_
  simp
  refine .seq (.reg ?_)
  simp [r75_3]
  refine .seq (.block (.loop (Y75 d) (fun k => n - k) (fun k => k ≤ n) 0 (by omega) (.of_sub ⟨?_, fun i => ?_, rfl, by simp⟩) ?_))
  · simp [List.replicate, cd, Y75]
  · refine .of_eq ?_
    simp only [Y75, hset]
    by_cases h1 : i = 1
    · subst h1; simp
    by_cases h0 : i = 0
    · subst h0; simp
    simp [h1, h0]
  intro k hk
  have e1 : cd k ≤ cd n := cd_mono hk
  have hb1 := ydays_bd (2000 + k)
  have hstep : cd (k + 1) = cd k + ydays (2000 + k) := rfl
  have hkd : 0 ≤ cd k := cd_mono (Nat.zero_le k)
  refine .seq (.seq (.reg ?_))
  simp [List.replicate, r75_4, Y75]
  refine (rdays_st _).call ?_
  simp
  refine .cond (t := decide (ydays (2000 + k) ≤ d - cd k)) (by simp) (fun e => ?_) (fun e => ?_)
  · simp only [decide_eq_true_eq] at e
    have hlt : k < n := by
      rcases Nat.lt_or_ge k n with h | h
      · exact h
      · have : k = n := by omega
        subst this; omega
    refine .skip ?_
    simp
    refine .block (.seq (.reg ?_))
    simp [r75_5]
    refine (rdays_st _).call ?_
    simp
    refine ⟨by omega, .reg ?_⟩
    simp [r75_6]
    refine ⟨by omega, k + 1, by omega, by omega, .of_sub ⟨?_, fun i => ?_, rfl, by simp⟩⟩
    · simp [List.replicate, Y75]
      rw [hstep]; omega
    · refine .of_eq ?_
      simp only [Y75, hset]
      by_cases h1 : i = 1
      · subst h1; simp; omega
      by_cases h0 : i = 0
      · subst h0; simp
      simp [h1, h0]
  · simp only [decide_eq_false_iff_not] at e
    have hkn : k = n := by
      rcases Nat.lt_or_ge k n with h | h
      · have := cd_mono (show k + 1 ≤ n from h); omega
      · omega
    subst hkn
    refine .exit ?_
    simp
    refine .seq (.block (.loop (M75 d k) (fun j => m - j) (fun j => j ≤ m) 0 (by omega) (.of_sub ⟨?_, fun i => ?_, rfl, by simp⟩) ?_))
    · simp [List.replicate, cm, M75]
    · refine .of_eq ?_
      simp only [M75, hset]
      by_cases h1 : i = 1
      · subst h1; simp
      by_cases h0 : i = 0
      · subst h0; simp
      simp [h1, h0]
    intro j hj
    have e2 : cm (2000 + k) j ≤ cm (2000 + k) m := cm_mono (by omega) hj
    have hb2 := mlen_bd (2000 + k) j (by omega)
    have hstep2 : cm (2000 + k) (j + 1) = cm (2000 + k) j + mlen (2000 + k) (1 + j) := rfl
    have hkd2 : 0 ≤ cm (2000 + k) j := cm_mono (by omega) (Nat.zero_le j)
    refine .seq (.seq (.reg ?_))
    simp [List.replicate, r75_7, M75]
    refine (rlength_st _ _ (by omega) (by omega)).call ?_
    simp
    refine .cond (t := decide (mlen (2000 + k) (1 + j) ≤ d - cd k - cm (2000 + k) j)) (by simp) (fun e => ?_) (fun e => ?_)
    · simp only [decide_eq_true_eq] at e
      have hlt : j < m := by
        rcases Nat.lt_or_ge j m with h | h
        · exact h
        · have : j = m := by omega
          subst this; omega
      refine .skip ?_
      simp
      refine .block (.seq (.reg ?_))
      simp [r75_8]
      refine (rlength_st _ _ (by omega) (by omega)).call ?_
      simp
      refine ⟨by omega, .reg ?_⟩
      simp [r75_9]
      refine ⟨by omega, j + 1, by omega, by omega, .of_sub ⟨?_, fun i => ?_, rfl, by simp⟩⟩
      · simp [List.replicate, M75]
        rw [hstep2]; omega
      · refine .of_eq ?_
        simp only [M75, hset]
        by_cases h1 : i = 1
        · subst h1; simp; omega
        by_cases h0 : i = 0
        · subst h0; simp
        simp [h1, h0]
    · simp only [decide_eq_false_iff_not] at e
      have hjm : j = m := by
        rcases Nat.lt_or_ge j m with h | h
        · have := cm_mono (y := 2000 + k) (by omega) (show j + 1 ≤ m from h); omega
        · omega
      subst hjm
      refine .exit ?_
      simp
      refine .seq (.reg ?_)
      simp [r75_10]
      refine ⟨by omega, ?_⟩
      refine .seq (.reg ?_)
      simp [r75_11]
      refine .retp (rs := rs75) rfl ?_ ?_ <;> simp [rs75]
end Go.Am
set_option linter.unusedVariables false
set_option linter.unusedSimpArgs false
namespace Go.Am
open Go.Proofs
attribute [local simp] areg aop dreg dop AOp.req argv argU AOp.args uncAll AOp.unAll Req.val Req.when putT putH athen ablk reqBin reqInt gcond unc unv pickB ressOk ARes.ok retVal ARes.val cut inr AOp.quiet
attribute [local simp] noRef_int noRef_bool noRef_str noRef_nils noRef_agg noRef_tup noRef_slc noRef_fn
attribute [local simp] vsub_top VSub.refl TSub vsub_int
attribute [local simp] AObj.plain AObj.owned AObj.ep hset h0 reqLoad reqStore acells allOne AVal.one lay fills ldv fzv fzl fz1
attribute [local simp] rg2 rg3 rg4 rg7
noncomputable def dd (d : Int) : Int := d - cd (dn d) - cm (2000 + (dn d : Nat)) (dm d) + 1
theorem rdate_ok (d : Int) (h0 : 0 ≤ d) (h1 : d ≤ 14609) : Still EE Tryd.prog 75 [.int .i64 d] (.agg [.int .i64 (2000 + (dn d : Nat)), .int .i64 (1 + (dm d : Nat)), .int .i64 (dd d), .int .i64 0]) := by
  have D := dayAt d h0 h1
  exact rdate_st d (dn d) (dm d) D.h1 D.h2 D.nn D.h3 D.h4 D.mm h0 h1
noncomputable def stt (l t : Int) : Bool :=
  if l = 0 ∨ t = 1402560 then true else if l = 1 then decide (t.tmod 4 = 0) else if t.tmod 96 ≠ 0 then false
  else if l = 2 then true else if l = 3 then decide (dd (t.tdiv 96) = 1) else decide (dd (t.tdiv 96) = 1) && decide (dm (t.tdiv 96) = 0)
set_option maxHeartbeats 1000000 in
theorem start_st (l t : Int) (hl : 0 ≤ l) (hl4 : l ≤ 4) (ht : 0 ≤ t) (ht2 : t ≤ 1402560) : Still EE Tryd.prog 65 [.int .i64 l, .int .i64 t] (.bool (stt l t)) := by
  refine Pure.still ?_ hEE (by simp) (by simp)
  obtain ⟨c, hb, hc⟩ := ck65
  refine Pure.of (fn := Tryd.f65) rfl hb cr65 (hc 0) 46 rfl ?_
  refine .seq (.reg ?_)
  simp [r65_0]
  refine .seq (.seq (.reg ?_))
  simp [r65_1]
  refine .cond (t := decide (l = 0) || decide (t = 1402560)) (by simp) (fun e => ?_) (fun e => ?_)
  · refine .seq (.reg ?_)
    simp [r65_2]
    simp at e
    refine .retp (rs := rs65) rfl ?_ ?_ <;> simp [rs65, stt, e]
  simp at e
  obtain ⟨e0, et⟩ := e
  refine .skip ?_
  simp
  refine .seq (.seq (.reg ?_))
  simp [r65_3]
  refine .cond (t := decide (l = 1)) (by simp) (fun e => ?_) (fun e1 => ?_)
  · simp only [decide_eq_true_eq] at e
    refine .seq (.reg ?_)
    simp [r65_4]
    refine .retp (rs := rs65) rfl ?_ ?_ <;> simp [rs65, stt, e, et]
  simp only [decide_eq_false_iff_not] at e1
  refine .skip ?_
  simp
  refine .seq (.seq (.reg ?_))
  simp [r65_5]
  refine .cond (t := !decide (t.tmod 96 = 0)) (by simp) (fun e => ?_) (fun e => ?_)
  · simp at e
    refine .seq (.reg ?_)
    simp [r65_6]
    refine .retp (rs := rs65) rfl ?_ ?_ <;> simp [rs65, stt, e0, et, e1, e]
  simp at e
  refine .skip ?_
  simp
  have hq0 : 0 ≤ t.tdiv 96 ∧ t.tdiv 96 ≤ 14609 := by rw [Int.tdiv_eq_ediv_of_nonneg ht]; omega
  refine .seq (.reg ?_)
  simp [r65_7]
  refine ⟨by omega, (rdate_ok _ hq0.1 hq0.2).call ?_⟩
  simp
  refine .seq (.reg ?_)
  have h234 : l = 2 ∨ l = 3 ∨ l = 4 := by omega
  rcases h234 with rfl | rfl | rfl
  · simp [r65_8]
    refine .retp (rs := rs65) rfl ?_ ?_ <;> simp [rs65, stt, et, e]
  · simp [r65_8]
    by_cases hdd : dd (t.tdiv 96) = 1
    · simp [hdd]
      refine .retp (rs := rs65) rfl ?_ ?_ <;> simp [rs65, stt, et, e, hdd]
    · simp [hdd]
      refine .retp (rs := rs65) rfl ?_ ?_ <;> simp [rs65, stt, et, e, hdd]
  · simp [r65_8]
    by_cases hdd : dd (t.tdiv 96) = 1
    · simp [hdd]
      refine .retp (rs := rs65) rfl ?_ ?_ <;> simp [rs65, stt, et, e, hdd]
      omega
    · simp [hdd]
      refine .retp (rs := rs65) rfl ?_ ?_ <;> simp [rs65, stt, et, e, hdd]
end Go.Am
set_option linter.unusedVariables false
set_option linter.unusedSimpArgs false
namespace Go.Am
open Go.Proofs
theorem cd_step (k : Nat) : cd (k + 1) = cd k + ydays (2000 + k) := rfl
theorem cm_step (y : Int) (j : Nat) : cm y (j + 1) = cm y j + mlen y (1 + j) := rfl
theorem cd40 : cd 40 = 14610 := by decide
theorem DayAt.uniq {d : Int} {n m n' m' : Nat} (D : DayAt d n m) (D' : DayAt d n' m') : n = n' ∧ m = m' := by
  have hn : n = n' := by
    rcases Nat.lt_trichotomy n n' with h | h | h
    · have := cd_mono (show n + 1 ≤ n' from h); have := D.h2; have := D'.h1; omega
    · exact h
    · have := cd_mono (show n' + 1 ≤ n from h); have := D'.h2; have := D.h1; omega
  subst hn
  refine ⟨rfl, ?_⟩
  rcases Nat.lt_trichotomy m m' with h | h | h
  · have := cm_mono (y := 2000 + n) (by have := D'.mm; omega) (show m + 1 ≤ m' from h); have := D.h4; have := D'.h3; omega
  · exact h
  · have := cm_mono (y := 2000 + n) (by have := D.mm; omega) (show m' + 1 ≤ m from h); have := D'.h4; have := D.h3; omega
theorem DayAt.eq {d : Int} {n m : Nat} (D : DayAt d n m) (h0 : 0 ≤ d) (h1 : d ≤ 14609) : dn d = n ∧ dm d = m := (dayAt d h0 h1).uniq D
def fd (l : Int) (n m : Nat) : Int := if l = 4 then cd n else cd n + cm (2000 + n) m
def ed (l : Int) (n m : Nat) : Int := if l = 4 then cd (n + 1) else cd n + cm (2000 + n) (m + 1)
theorem bF_day (l t : Int) (hl : l = 3 ∨ l = 4) : bF l t = fd l (dn (t.tdiv 96)) (dm (t.tdiv 96)) * 96 := by
  unfold bF arF fd
  rcases hl with rfl | rfl <;> simp
theorem bT_day (l t : Int) (hl : l = 3 ∨ l = 4) : bT l t = ed l (dn (t.tdiv 96)) (dm (t.tdiv 96)) * 96 := by
  unfold bT arT ed
  rcases hl with rfl | rfl <;> simp [cd_step, cm_step, Int.add_assoc]
theorem cm0 (y : Int) : cm y 0 = 0 := rfl
theorem cd_nn (k : Nat) : 0 ≤ cd k := cd_mono (Nat.zero_le k)
theorem cm_nn (y : Int) (k : Nat) (h : k ≤ 12) : 0 ≤ cm y k := cm_mono h (Nat.zero_le k)
theorem stt_at (l j : Int) (hl : l = 3 ∨ l = 4) (h0 : 0 ≤ j) (h1 : j ≤ 14609) {n m : Nat} (D : DayAt j n m) : stt l (j * 96) = decide (j = fd l n m ∧ (l = 4 → m = 0)) := by
  obtain ⟨e1, e2⟩ := D.eq h0 h1
  have q1 : (j * 96).tmod 96 = 0 := by rw [Int.tmod_eq_emod_of_nonneg (by omega)]; omega
  have q2 : (j * 96).tdiv 96 = j := by rw [Int.tdiv_eq_ediv_of_nonneg (by omega)]; omega
  unfold stt
  rw [if_neg (by omega), if_neg (by omega), if_neg (by rw [q1]; simp), if_neg (by omega), q2]
  unfold dd fd
  rw [e1, e2]
  rcases hl with rfl | rfl
  · simp
    constructor <;> intro h <;> omega
  · have hm0 : cm (2000 + (n : Int)) 0 = 0 := rfl
    simp only [show ¬ ((4 : Int) = 3) by omega, if_false, if_true, ← Bool.decide_and]
    congr 1
    apply propext
    constructor
    · rintro ⟨h, h'⟩; subst h'; exact ⟨by omega, fun _ => rfl⟩
    · rintro ⟨h, h'⟩
      have h' := h' trivial
      subst h'
      exact ⟨by omega, rfl⟩
theorem DayAt.inside {l d : Int} (hl : l = 3 ∨ l = 4) {n m : Nat} (D : DayAt d n m) (hd : d ≤ 14609) {j : Int} (h1 : fd l n m ≤ j) (h2 : j < ed l n m) : 0 ≤ j ∧ j ≤ 14609 ∧ ∃ m', DayAt j n m' ∧ (l = 3 → m' = m) := by
  have nn := D.nn
  have mm := D.mm
  have k0 := cd_nn n
  have k1 := cm_nn (2000 + n) m (by omega)
  have k40 : cd (n + 1) ≤ 14610 := by rw [← cd40]; exact cd_mono nn
  have e12 := cm12 (2000 + n)
  have km : cm (2000 + n) (m + 1) ≤ cm (2000 + n) 12 := cm_mono (by omega) (by omega)
  have hs := cd_step n
  rcases hl with rfl | rfl
  · simp only [fd, ed, show ¬ ((3 : Int) = 4) by omega, if_false] at h1 h2
    exact ⟨by omega, by omega, m, ⟨nn, mm, by omega, by omega, by omega, by omega⟩, fun _ => rfl⟩
  · simp only [fd, ed, if_true] at h1 h2
    obtain ⟨m', hm', a, b⟩ := ivt (cm (2000 + n)) (j - cd n) 12 (by rw [cm0]; omega) (by omega)
    exact ⟨by omega, by omega, m', ⟨nn, hm', by omega, by omega, a, b⟩, fun e => by omega⟩
theorem stt_in {l d : Int} (hl : l = 3 ∨ l = 4) {n m : Nat} (D : DayAt d n m) (hd : d ≤ 14609) {j : Int} (h1 : fd l n m ≤ j) (h2 : j < ed l n m) : stt l (j * 96) = decide (j = fd l n m) := by
  obtain ⟨j0, j1, m', D', hm⟩ := D.inside hl hd h1 h2
  rw [stt_at l j hl j0 j1 D']
  congr 1
  apply propext
  rcases hl with rfl | rfl
  · rw [hm rfl]; simp
  · simp only [fd, if_true]
    constructor
    · rintro ⟨h, _⟩; exact h
    · intro h
      refine ⟨h, fun _ => ?_⟩
      rcases Nat.eq_zero_or_pos m' with e | e
      · exact e
      · have h3 := D'.h3
        have : cm (2000 + n) 1 ≤ cm (2000 + n) m' := cm_mono (by have := D'.mm; omega) e
        have e1 : cm (2000 + (n : Int)) 1 = cm (2000 + n) 0 + mlen (2000 + n) (1 + (0 : Nat)) := rfl
        have hb := mlen_bd (2000 + n) 0 (by omega)
        rw [cm0] at e1
        omega
theorem stt_end {l d : Int} (hl : l = 3 ∨ l = 4) {n m : Nat} (D : DayAt d n m) (hd : d ≤ 14609) : ed l n m ≤ 14610 ∧ stt l (ed l n m * 96) = true := by
  have nn := D.nn
  have mm := D.mm
  have k0 := cd_nn n
  have k40 : cd (n + 1) ≤ 14610 := by rw [← cd40]; exact cd_mono nn
  have e12 := cm12 (2000 + n)
  have km : cm (2000 + n) (m + 1) ≤ cm (2000 + n) 12 := cm_mono (by omega) (by omega)
  have hs := cd_step n
  have year : stt l (cd (n + 1) * 96) = true := by
    by_cases h40 : n + 1 = 40
    · rw [h40, cd40]; unfold stt; rw [if_pos (by omega)]
    · have hb := ydays_bd (2000 + (n + 1 : Nat))
      have hs2 := cd_step (n + 1)
      have hlt : cd (n + 1 + 1) ≤ 14610 := by rw [← cd40]; exact cd_mono (by omega)
      have e1 : cm (2000 + ((n + 1 : Nat) : Int)) 1 = cm (2000 + ((n + 1 : Nat) : Int)) 0 + mlen (2000 + ((n + 1 : Nat) : Int)) (1 + (0 : Nat)) := rfl
      have hb0 := mlen_bd (2000 + ((n + 1 : Nat) : Int)) 0 (by omega)
      rw [cm0] at e1
      have Dn : DayAt (cd (n + 1)) (n + 1) 0 := ⟨by omega, by omega, by omega, by omega, by rw [cm0]; omega, by rw [e1]; omega⟩
      rw [stt_at l _ hl (cd_nn _) (by omega) Dn]
      simp [fd, cm0]
  rcases hl with rfl | rfl
  · simp only [ed, show ¬ ((3 : Int) = 4) by omega, if_false]
    by_cases hm : m + 1 = 12
    · have : cd n + cm (2000 + n) (m + 1) = cd (n + 1) := by rw [hm]; omega
      rw [this]
      exact ⟨k40, year⟩
    · have e1 := cm_step (2000 + n) (m + 1)
      have hb := mlen_bd (2000 + n) (m + 1) (by omega)
      have km2 : cm (2000 + n) (m + 1 + 1) ≤ cm (2000 + n) 12 := cm_mono (by omega) (by omega)
      have k1 := cm_nn (2000 + n) (m + 1) (by omega)
      have Dn : DayAt (cd n + cm (2000 + n) (m + 1)) n (m + 1) := ⟨nn, by omega, by omega, by omega, by omega, by omega⟩
      refine ⟨by omega, ?_⟩
      rw [stt_at 3 _ (.inl rfl) (by omega) (by omega) Dn]
      simp [fd]
  · simp only [ed, if_true]
    exact ⟨k40, year⟩
end Go.Am
set_option linter.unusedVariables false
set_option linter.unusedSimpArgs false
namespace Go.Am
open Go.Proofs
attribute [local simp] areg aop dreg dop AOp.req argv argU AOp.args uncAll AOp.unAll Req.val Req.when putT putH athen ablk reqBin reqInt gcond unc unv pickB ressOk ARes.ok retVal ARes.val cut inr AOp.quiet
attribute [local simp] noRef_int noRef_bool noRef_str noRef_nils noRef_agg noRef_tup noRef_slc noRef_fn
attribute [local simp] vsub_top VSub.refl TSub vsub_int
attribute [local simp] AObj.plain AObj.owned AObj.ep hset h0 reqLoad reqStore acells allOne AVal.one lay fills ldv fzv fzl fz1
attribute [local simp] rg2 rg3 rg4 rg7
def stepOf (l : Int) : Int := if l = 0 then 1 else if l = 1 then 4 else 96
def from0 (l t : Int) : Int := if l = 0 then t else if l = 1 then t - t.tmod 4 else t - t.tmod 96
structure Walk (l t : Int) (k0 k1 : Nat) : Prop where
  f0 : from0 l t = bF l t + k0 * stepOf l
  f1 : stt l (bF l t) = true
  fn : ∀ k : Nat, 1 ≤ k → k ≤ k0 → stt l (bF l t + k * stepOf l) = false
  t0 : bT l t = bF l t + k1 * stepOf l
  t1 : stt l (bT l t) = true
  tn : ∀ k : Nat, 1 ≤ k → k < k1 → stt l (bF l t + k * stepOf l) = false
  kp : 1 ≤ k1
  lo : 0 ≤ bF l t
  hi : bT l t ≤ 1402560
  le : bF l t ≤ t
theorem stt_small {l x : Int} (hl : l = 0 ∨ (l = 1 ∧ x.tmod 4 = 0) ∨ (l = 2 ∧ x.tmod 96 = 0)) : stt l x = true := by
  unfold stt
  rcases hl with rfl | ⟨rfl, h⟩ | ⟨rfl, h⟩
  · simp
  · split
    · rfl
    · simp [h]
  · split
    · rfl
    · simp [h]
theorem walk_ex (l t : Int) (hl : 0 ≤ l) (hl4 : l ≤ 4) (ht : 0 ≤ t) (ht2 : t < 1402560) : ∃ k0 k1, Walk l t k0 k1 := by
  have hF := bF_bd l t ht ht2
  have hT := bT_bd l t hl hl4 ht ht2
  by_cases h2 : l ≤ 2
  · have eF : from0 l t = bF l t := by
      unfold from0 bF arF
      rcases (show l = 0 ∨ l = 1 ∨ l = 2 by omega) with rfl | rfl | rfl <;> simp
    have eT : bT l t = bF l t + stepOf l := by
      unfold bF arF bT arT stepOf
      rcases (show l = 0 ∨ l = 1 ∨ l = 2 by omega) with rfl | rfl | rfl <;> simp
    have md : l = 0 ∨ (l = 1 ∧ (bF l t).tmod 4 = 0) ∨ (l = 2 ∧ (bF l t).tmod 96 = 0) := by
      rcases (show l = 0 ∨ l = 1 ∨ l = 2 by omega) with rfl | rfl | rfl
      · exact .inl rfl
      · refine .inr (.inl ⟨rfl, ?_⟩)
        rw [← eF]; unfold from0
        simp only [show ¬ ((1 : Int) = 0) by omega, if_false, if_true]
        rw [Int.tmod_eq_emod_of_nonneg ht, Int.tmod_eq_emod_of_nonneg (by omega)]; omega
      · refine .inr (.inr ⟨rfl, ?_⟩)
        rw [← eF]; unfold from0
        simp only [show ¬ ((2 : Int) = 0) by omega, show ¬ ((2 : Int) = 1) by omega, if_false]
        rw [Int.tmod_eq_emod_of_nonneg ht, Int.tmod_eq_emod_of_nonneg (by omega)]; omega
    refine ⟨0, 1, ⟨by rw [eF]; simp, stt_small md, fun k h1 h2 => by omega, by rw [eT]; simp, ?_, fun k h1 h2 => by omega, Nat.le_refl _, hF.1, hT.2, hF.2⟩⟩
    rw [eT]
    refine stt_small ?_
    rcases md with rfl | ⟨rfl, h⟩ | ⟨rfl, h⟩
    · exact .inl rfl
    · refine .inr (.inl ⟨rfl, ?_⟩)
      have e : stepOf 1 = 4 := rfl
      rw [e]
      rw [Int.tmod_eq_emod_of_nonneg hF.1] at h
      rw [Int.tmod_eq_emod_of_nonneg (by omega)]; omega
    · refine .inr (.inr ⟨rfl, ?_⟩)
      have e : stepOf 2 = 96 := rfl
      rw [e]
      rw [Int.tmod_eq_emod_of_nonneg hF.1] at h
      rw [Int.tmod_eq_emod_of_nonneg (by omega)]; omega
  · have h34 : l = 3 ∨ l = 4 := by omega
    have hq := tday t ht ht2
    have D := dayAt _ hq.1 hq.2
    have eF := bF_day l t h34
    have eT := bT_day l t h34
    have es : stepOf l = 96 := by unfold stepOf; rcases h34 with rfl | rfl <;> rfl
    have e0 : from0 l t = t.tdiv 96 * 96 := by
      unfold from0
      rw [if_neg (by omega), if_neg (by omega), Int.tmod_eq_emod_of_nonneg ht, Int.tdiv_eq_ediv_of_nonneg ht]; omega
    have hin : fd l (dn (t.tdiv 96)) (dm (t.tdiv 96)) ≤ t.tdiv 96 ∧ t.tdiv 96 < ed l (dn (t.tdiv 96)) (dm (t.tdiv 96)) := by
      have h1 := D.h1; have h2 := D.h2; have h3 := D.h3; have h4 := D.h4
      unfold fd ed
      rcases h34 with rfl | rfl
      · simp only [show ¬ ((3 : Int) = 4) by omega, if_false]; omega
      · simp only [if_true]; omega
    obtain ⟨en1, en2⟩ := stt_end h34 D hq.2
    have inn := fun j h1 h2 => stt_in h34 D hq.2 (j := j) h1 h2
    generalize fd l (dn (t.tdiv 96)) (dm (t.tdiv 96)) = F at *
    generalize ed l (dn (t.tdiv 96)) (dm (t.tdiv 96)) = G at *
    refine ⟨(t.tdiv 96 - F).toNat, (G - F).toNat, ⟨?_, ?_, fun k h1 h2 => ?_, ?_, ?_, fun k h1 h2 => ?_, by omega, hF.1, hT.2, hF.2⟩⟩
    · rw [e0, eF, es]; omega
    · rw [eF, inn F (Int.le_refl _) (by omega)]; simp
    · rw [eF, es, ← Int.add_mul, inn (F + k) (by omega) (by omega)]; simp; omega
    · rw [eT, eF, es]; omega
    · rw [eT]; exact en2
    · rw [eF, es, ← Int.add_mul, inn (F + k) (by omega) (by omega)]; simp; omega
def L49 (l t x : Int) (sv : Bool) : ASt := ⟨.int .i64 l :: .int .i64 t :: .top :: .top :: .ptr 0 1 0 :: .int .i64 x :: .int .i64 (stepOf l) :: .bool sv :: List.replicate 64 .top, hset (hset h0 0 (.box 1 [.int .i64 0, .int .i64 0, .int .i64 0, .int .i64 0])) 1 (.gone 1), []⟩
def R49 (l t x y : Int) (sv : Bool) : ASt := ⟨.int .i64 l :: .int .i64 t :: .top :: .top :: .ptr 0 1 0 :: .int .i64 x :: .int .i64 (stepOf l) :: .top :: .int .i64 y :: .bool sv :: List.replicate 62 .top, hset (hset h0 0 (.box 1 [.int .i64 0, .int .i64 0, .int .i64 0, .int .i64 0])) 1 (.gone 1), []⟩
theorem stepOf_bd (l : Int) : 1 ≤ stepOf l ∧ stepOf l ≤ 96 := by unfold stepOf; split <;> (try split) <;> omega
set_option maxHeartbeats 2000000 in
theorem rblock_st (l t : Int) : Still EE Tryd.prog 49 [.int .i64 l, .int .i64 t]
    (.agg (if inCal l t then [.int .i64 l, .int .i64 (bF l t), .int .i64 (bT l t), .int .i64 0] else [.int .i64 0, .int .i64 0, .int .i64 0, .int .i64 3])) := by
  refine Pure.still ?_ hEE (by simp) (by split <;> simp)
  obtain ⟨c, hb, hc⟩ := ck49
  refine Pure.of (fn := Tryd.f49) rfl hb cr49 (hc 0) 70 rfl ?_
  refine .seq (.reg ?_)
  simp [r49_0]
  refine .seq (.seq (.reg ?_))
  simp [r49_1]
  refine .cond (t := !inCal l t) ?_ (fun e => ?_) (fun e => ?_)
  · have a1 : decide (t < 0) = !decide (0 ≤ t) := by rw [← decide_not]; congr 1; simp
    have a2 : decide (1402560 ≤ t) = !decide (t < 1402560) := by rw [← decide_not]; congr 1; simp
    have a3 : decide (l < 0) = !decide (0 ≤ l) := by rw [← decide_not]; congr 1; simp
    have a4 : decide (4 < l) = !decide (l ≤ 4) := by rw [← decide_not]; congr 1; simp
    simp only [a1, a2, a3, a4, inCal, argv, List.getD_cons_zero, List.getD_cons_succ, AVal.bool.injEq]
    cases decide (0 ≤ l) <;> cases decide (l ≤ 4) <;> cases decide (0 ≤ t) <;> cases decide (t < 1402560) <;> rfl
  · refine .seq (.reg ?_)
    simp [r49_2]
    simp at e
    refine .retp (rs := rs49) rfl ?_ ?_ <;> simp [rs49, e]
  simp at e
  have hin := e
  simp [inCal] at e
  have hl : 0 ≤ l := by omega
  have hl4 : l ≤ 4 := by omega
  have ht : 0 ≤ t := by omega
  have ht2 : t < 1402560 := by omega
  obtain ⟨k0, k1, W⟩ := walk_ex l t hl hl4 ht ht2
  have hs := stepOf_bd l
  have hlo := W.lo
  have hhi := W.hi
  have hle := W.le
  have ht0 := W.t0
  have hf0 := W.f0
  have hfr : from0 l t ≤ t ∧ 0 ≤ from0 l t := by
    unfold from0
    rw [Int.tmod_eq_emod_of_nonneg ht, Int.tmod_eq_emod_of_nonneg ht]
    split
    · omega
    split
    · omega
    · omega
  refine .skip ?_
  simp
  refine .seq (.reg ?_)
  simp [r49_3]
  let Z : Int → ASt := fun x => ⟨.int .i64 l :: .int .i64 t :: .top :: .top :: .ptr 0 1 0 :: .int .i64 x :: List.replicate 66 .top, hset h0 0 (.box 1 [.int .i64 0, .int .i64 0, .int .i64 0, .int .i64 0]), []⟩
  refine .seq (AW.mono (Q := fun e S' => e = .normal ∧ See EE S' (Z (if 0 < l then t - t.tmod 4 else t))) ?_ ?_)
  · refine .seq (.reg ?_)
    simp [r49_4]
    refine .cond (t := decide (0 < l)) (by simp) (fun e => ?_) (fun e => ?_)
    · simp only [decide_eq_true_eq] at e
      refine .reg ?_
      simp [r49_5]
      have hm : 0 ≤ t.tmod 4 ∧ t.tmod 4 < 4 := by rw [Int.tmod_eq_emod_of_nonneg ht]; omega
      refine ⟨by omega, .of_sub ⟨?_, fun i => .refl _, rfl, by simp⟩⟩
      simp [Z, List.replicate, e]
    · simp only [decide_eq_false_iff_not] at e
      refine .skip ?_
      refine ⟨rfl, .of_sub ⟨?_, fun i => .refl _, rfl, by simp⟩⟩
      simp [Z, List.replicate, e]
  rintro e S' ⟨rfl, hsee⟩
  refine .see hsee ?_
  refine .seq (AW.mono (Q := fun e S' => e = .normal ∧ See EE S' (Z (from0 l t))) ?_ ?_)
  · refine .seq (.reg ?_)
    simp [r49_6, Z, List.replicate]
    refine .cond (t := decide (1 < l)) (by simp) (fun e => ?_) (fun e => ?_)
    · simp only [decide_eq_true_eq] at e
      refine .reg ?_
      simp [r49_7]
      have hm : 0 ≤ t.tmod 4 ∧ t.tmod 4 < 4 ∧ t.tmod 4 ≤ t := by rw [Int.tmod_eq_emod_of_nonneg ht]; omega
      have hm2 : (t - t.tmod 4).tmod 96 = t.tmod 96 - t.tmod 4 := by
        rw [Int.tmod_eq_emod_of_nonneg ht, Int.tmod_eq_emod_of_nonneg ht, Int.tmod_eq_emod_of_nonneg (by omega)]; omega
      have hm3 : 0 ≤ t.tmod 96 ∧ t.tmod 96 < 96 ∧ t.tmod 4 ≤ t.tmod 96 := by rw [Int.tmod_eq_emod_of_nonneg ht, Int.tmod_eq_emod_of_nonneg ht]; omega
      have e0 : 0 < l := by omega
      simp only [e0, if_true, hm2]
      refine ⟨by omega, .of_sub ⟨?_, fun i => .refl _, rfl, by simp⟩⟩
      simp [from0, show ¬ (l = 0) by omega, show ¬ (l = 1) by omega]
      omega
    · simp only [decide_eq_false_iff_not] at e
      refine .skip ?_
      refine ⟨rfl, .of_sub ⟨?_, fun i => .refl _, rfl, by simp⟩⟩
      rcases (show l = 0 ∨ l = 1 by omega) with rfl | rfl <;> simp [from0]
  rintro e S2 ⟨rfl, hsee2⟩
  refine .see hsee2 ?_
  clear hsee hsee2
  generalize from0 l t = F at *
  refine .seq (.reg ?_)
  simp [r49_8, Z, List.replicate, elemsOf]
  have hstep : ([[AVal.int .i64 1], [AVal.int .i64 4], [AVal.int .i64 96], [AVal.int .i64 96], [AVal.int .i64 96]][l.toNat]?.getD [])[0]?.getD .top = AVal.int .i64 (stepOf l) := by
    rcases (show l = 0 ∨ l = 1 ∨ l = 2 ∨ l = 3 ∨ l = 4 by omega) with rfl | rfl | rfl | rfl | rfl <;> rfl
  simp only [hstep]
  refine ⟨⟨by omega, by omega⟩, by omega, ?_⟩
  refine .seq (.reg ?_)
  simp [r49_9]
  refine (start_st l F hl hl4 (by omega) (by omega)).call ?_
  try simp
  have hk1 := W.kp
  have hup : ∀ k : Nat, k ≤ k0 → bF l t + k * stepOf l ≤ F := fun k hk => by
    have : (k : Int) * stepOf l ≤ k0 * stepOf l := Int.mul_le_mul_of_nonneg_right (by omega) (by omega)
    omega
  have hup1 : ∀ k : Nat, k ≤ k1 → bF l t + k * stepOf l ≤ bT l t := fun k hk => by
    have : (k : Int) * stepOf l ≤ k1 * stepOf l := Int.mul_le_mul_of_nonneg_right (by omega) (by omega)
    omega
  have hnn : ∀ k : Nat, 0 ≤ (k : Int) * stepOf l := fun k => Int.mul_nonneg (by omega) (by omega)
  have hsuc : ∀ k : Nat, ((k + 1 : Nat) : Int) * stepOf l = k * stepOf l + stepOf l := fun k => by rw [Int.natCast_add, Int.add_mul]; simp
  refine .seq (.block (.loop (fun k : Nat => L49 l t (bF l t + k * stepOf l) (stt l (bF l t + k * stepOf l))) (fun k => k) (fun k => k ≤ k0) k0 (Nat.le_refl _) (.of_sub ⟨?_, fun i => ?_, rfl, by simp⟩) ?_))
  · rw [← hf0]
    simp [List.replicate, L49]
  · simp only [L49, hset]
    by_cases h1 : i = 1
    · subst h1; exact .inl (by simp)
    by_cases h0 : i = 0
    · subst h0; exact .of_eq (by simp)
    exact .of_eq (by simp [h1, h0])
  intro k hk
  have u1 := hup k hk
  have u2 := hnn k
  refine .seq (.seq (.reg ?_))
  simp [List.replicate, r49_10, L49]
  refine .cond (t := !stt l (bF l t + k * stepOf l)) (by simp) (fun e => ?_) (fun e => ?_)
  · simp at e
    have hkp : k ≠ 0 := fun e0 => by
      subst e0
      have := W.f1
      simp at e
      rw [this] at e; cases e
    obtain ⟨k, rfl⟩ : ∃ j, k = j + 1 := ⟨k - 1, by omega⟩
    have hs1 := hsuc k
    have ex : bF l t + ((k + 1 : Nat) : Int) * stepOf l - stepOf l = bF l t + k * stepOf l := by omega
    have u3 := hup k (by omega)
    have u4 := hnn k
    refine .skip ?_
    simp
    refine .block (.seq (.reg ?_))
    simp only [Int.natCast_add, Int.cast_ofNat_Int] at ex u1 u2 hs1
    simp [r49_11, ex]
    refine ⟨by omega, .reg ?_⟩
    simp [r49_12]
    refine (start_st l _ hl hl4 (by omega) (by omega)).call ?_
    try simp
    refine ⟨k, by omega, by omega, .of_sub ⟨?_, fun i => .refl _, rfl, by simp⟩⟩
    simp [List.replicate, L49]
  · simp at e
    have hk0 : k = 0 := by
      rcases Nat.eq_zero_or_pos k with h | h
      · exact h
      · have := W.fn k h hk; rw [this] at e; cases e
    subst hk0
    refine .exit ?_
    simp
    refine .seq (.reg ?_)
    simp [r49_13]
    refine ⟨by have := hup1 1 hk1; simp at this; omega, ?_⟩
    have v1 := hup1 1 hk1
    refine .seq (.reg ?_)
    simp [r49_14]
    refine (start_st l _ hl hl4 (by omega) (by simp at v1; omega)).call ?_
    try simp
    refine .seq (.block (.loop (fun j : Nat => R49 l t (bF l t) (bF l t + j * stepOf l) (stt l (bF l t + j * stepOf l))) (fun j => k1 - j) (fun j => 1 ≤ j ∧ j ≤ k1) 1 ⟨Nat.le_refl _, hk1⟩ (.of_sub ⟨?_, fun i => .refl _, rfl, by simp⟩) ?_))
    · simp [List.replicate, R49]
    rintro j ⟨hj1, hj⟩
    have w1 := hup1 j hj
    have w2 := hnn j
    refine .seq (.seq (.reg ?_))
    simp [List.replicate, r49_15, R49]
    refine .cond (t := !stt l (bF l t + j * stepOf l)) (by simp) (fun e => ?_) (fun e => ?_)
    · simp at e
      have hlt : j < k1 := by
        rcases Nat.lt_or_ge j k1 with h | h
        · exact h
        · have : j = k1 := by omega
          subst this
          have := W.t1
          rw [← ht0] at e
          rw [this] at e; cases e
      have hs1 := hsuc j
      have w3 := hup1 (j + 1) (by omega)
      have ex : bF l t + (j : Int) * stepOf l + stepOf l = bF l t + ((j + 1 : Nat) : Int) * stepOf l := by omega
      refine .skip ?_
      simp
      refine .block (.seq (.reg ?_))
      simp only [Int.natCast_add, Int.cast_ofNat_Int] at ex w3 hs1
      simp [r49_16, ex]
      refine ⟨by omega, .reg ?_⟩
      simp [r49_17]
      refine (start_st l _ hl hl4 (by omega) (by omega)).call ?_
      try simp
      refine ⟨j + 1, by omega, by omega, .of_sub ⟨?_, fun i => .refl _, rfl, by simp⟩⟩
      simp [List.replicate, R49]
    · simp at e
      have hjk : j = k1 := by
        rcases Nat.lt_or_ge j k1 with h | h
        · have := W.tn j hj1 h; rw [this] at e; cases e
        · omega
      subst hjk
      refine .exit ?_
      simp
      refine .seq (.reg ?_)
      simp [r49_18]
      refine .retp (rs := rs49) rfl ?_ ?_ <;> simp [rs49, hin, ht0]
end Go.Am
set_option linter.unusedVariables false
set_option linter.unusedSimpArgs false
set_option maxRecDepth 8000
namespace Go.Am
open Go.Proofs
attribute [local simp] areg aop dreg dop AOp.req argv argU AOp.args uncAll AOp.unAll Req.val Req.when putT putH athen ablk reqBin reqInt gcond unc unv pickB ressOk ARes.ok retVal ARes.val cut inr AOp.quiet
attribute [local simp] noRef_int noRef_bool noRef_str noRef_nils noRef_agg noRef_tup noRef_slc noRef_fn
attribute [local simp] vsub_top VSub.refl TSub vsub_int
attribute [local simp] AObj.plain AObj.owned AObj.ep hset h0 reqLoad reqStore acells allOne AVal.one lay fills ldv fzv fzl fz1
attribute [local simp] nrF
theorem rgauge_st (n : Int) : Still EE Tryd.prog 30 [.int .i64 n] (.bool (decide (0 ≤ n) && decide (n < 40))) := by
  refine Pure.still ?_ hEE (by simp) (by simp)
  obtain ⟨c, hb, hc⟩ := ck30
  refine Pure.of (fn := Tryd.f30) rfl hb cr30 (hc 0) 8 rfl ?_
  refine .seq (.reg ?_)
  simp [r30_0]
  refine .seq (.reg ?_)
  simp [r30_1]
  refine .retp (rs := rs30) rfl ?_ ?_ <;> simp [rs30]
theorem anyI_hit {p : Nat → Bool} {n k : Nat} (hk : k < n) (hp : p k = true) : anyI p n = true := by
  unfold anyI
  exact List.any_eq_true.2 ⟨k, by simpa using hk, hp⟩
theorem anyI_miss {p : Nat → Bool} {n : Nat} (h : ∀ j, j < n → p j = false) : anyI p n = false := by
  unfold anyI
  rw [List.any_eq_false]
  intro j hj
  simp [h j (by simpa using hj)]
def L14 (w : Lw) (q : Nat → Fz) (n k : Nat) : ASt := ⟨.agg w.cells :: .slc 3 n (fun i => (q i).cells) :: .ptr 0 1 0 :: .top :: .int .i64 0 :: .int .i64 k :: List.replicate 76 .top, hset h0 0 (.box 1 w.cells), []⟩
theorem rcheck_st (w : Lw) (q : Nat → Fz) (n : Nat) (hn : n < 4611686018427387904) : Still EE Tryd.prog 14 [.agg w.cells, .slc 3 n (fun i => (q i).cells)] (.int .i64 (chk w q n)) := by
  refine Pure.still ?_ hEE (by simp [Lw.cells, -noRef_slc]) (by simp)
  obtain ⟨c, hb, hc⟩ := ck14
  refine Pure.of (fn := Tryd.f14) rfl hb cr14 (hc 0) 80 rfl ?_
  refine .seq (.reg ?_)
  simp [r14_0, Lw.cells]
  refine .seq (.seq (.reg ?_))
  simp [r14_1]
  refine .cond (t := w.bad) (by simp [Lw.bad]) (fun e => ?_) (fun e => ?_)
  · refine .seq (.reg ?_)
    simp [r14_2]
    refine .retp (rs := rs14) rfl ?_ ?_ <;> simp [rs14, chk, e]
  refine .skip ?_
  try simp
  refine .seq (.seq (.reg ?_))
  simp [r14_3]
  refine .cond (t := decide (100 < n)) (by simp; omega) (fun e1 => ?_) (fun e1 => ?_)
  · simp only [decide_eq_true_eq] at e1
    refine .seq (.reg ?_)
    simp [r14_4]
    refine .retp (rs := rs14) rfl ?_ ?_ <;> simp [rs14, chk, e, e1]
  simp only [decide_eq_false_iff_not] at e1
  refine .skip ?_
  try simp
  refine .seq (.seq (.reg ?_))
  simp [r14_5]
  refine .block (.loop (fun k : Nat => L14 w q n k) (fun k => n - k) (fun k => k ≤ n ∧ ∀ j, j < k → (q j).bad = false) 0 ⟨by omega, fun j hj => by omega⟩ (.of_sub ⟨?_, fun i => .refl _, rfl, by simp⟩) ?_)
  · simp [List.replicate, L14, Lw.cells]
  rintro k ⟨hk, hlo⟩
  refine .seq (.seq (.reg ?_))
  simp [List.replicate, r14_6, L14]
  refine .cond (t := decide (k < n)) (by simp) (fun e2 => ?_) (fun e2 => ?_)
  · simp only [decide_eq_true_eq] at e2
    refine .skip ?_
    try simp
    refine .seq (.block (.seq (.reg ?_)))
    simp [r14_8, Fz.cells, e2]
    refine (rgauge_st (q k).g).call ?_
    try simp
    refine .seq (.draw ?_)
    simp [r14_9, e2]
    refine ⟨by kernel_rfl, ?_⟩
    refine .cond (t := (q k).bad) (by simp [Fz.bad]) (fun e3 => ?_) (fun e3 => ?_)
    · refine .seq (.reg ?_)
      simp [r14_10]
      have : anyI (fun i => (q i).bad) n = true := anyI_hit e2 e3
      refine .retp (rs := rs14) rfl ?_ ?_ <;> simp [rs14, chk, e, e1, this]
    · refine .skip ?_
      try simp
      refine .reg ?_
      simp [r14_7]
      refine ⟨by omega, k + 1, ⟨by omega, fun j hj => ?_⟩, by omega, .of_sub ⟨?_, fun i => .refl _, rfl, by simp⟩⟩
      · rcases Nat.lt_or_ge j k with h | h
        · exact hlo j h
        · obtain rfl : j = k := by omega
          exact e3
      · simp [Fz.cells]
  · simp only [decide_eq_false_iff_not] at e2
    refine .exit ?_
    try simp
    refine .seq (.reg ?_)
    simp [r14_11]
    have : anyI (fun i => (q i).bad) n = false := anyI_miss fun j hj => hlo j (by omega)
    refine .retp (rs := rs14) rfl ?_ ?_ <;> simp [rs14, chk, e, e1, this]
end Go.Am
set_option linter.unusedVariables false
set_option linter.unusedSimpArgs false
set_option maxRecDepth 8000
namespace Go.Am
open Go.Proofs
attribute [local simp] areg aop dreg dop AOp.req argv argU AOp.args uncAll AOp.unAll Req.val Req.when putT putH athen ablk reqBin reqInt gcond unc unv pickB ressOk ARes.ok retVal ARes.val cut inr AOp.quiet
attribute [local simp] noRef_int noRef_bool noRef_str noRef_nils noRef_agg noRef_tup noRef_slc noRef_fn
attribute [local simp] vsub_top VSub.refl TSub vsub_int
attribute [local simp] AObj.plain AObj.owned AObj.ep hset h0 reqLoad reqStore acells allOne AVal.one lay fills ldv fzv fzl fz1
attribute [local simp] nrF rg2 rg3 rg4 rg7
def gd (g today : Int) : Bool := !(decide (0 ≤ g) && decide (g < 40)) || decide (today < 0) || decide (14609 < today)
def fst25 (w : Lw) (q : Nat → Fz) (n : Nat) (g today : Int) : Int := if chk w q n ≠ 0 then chk w q n else if gd g today then 3 else 0
theorem rfirst_st (w : Lw) (q : Nat → Fz) (n : Nat) (g today : Int) (hn : n < 4611686018427387904) : Still EE Tryd.prog 25 [.agg w.cells, .slc 3 n (fun i => (q i).cells), .int .i64 g, .int .i64 today] (.int .i64 (fst25 w q n g today)) := by
  refine Pure.still ?_ hEE (by simp [Lw.cells, -noRef_slc]) (by simp)
  obtain ⟨c, hb, hc⟩ := ck25
  refine Pure.of (fn := Tryd.f25) rfl hb cr25 (hc 0) 25 rfl ?_
  refine .seq (.reg ?_)
  simp [r25_0, Lw.cells]
  refine .seq (.reg ?_)
  simp [r25_1]
  refine (rcheck_st w q n hn).call ?_
  try simp
  refine .seq (.seq (.reg ?_))
  simp [r25_2]
  refine .cond (t := decide (chk w q n ≠ 0)) (by simp) (fun e => ?_) (fun e => ?_)
  · refine .seq (.reg ?_)
    simp [r25_3]
    simp only [decide_eq_true_eq] at e
    refine .retp (rs := rs25) rfl ?_ ?_ <;> simp [rs25, fst25, e]
  simp only [decide_eq_false_iff_not, Classical.not_not] at e
  refine .skip ?_
  try simp
  refine .seq (.reg ?_)
  simp [r25_4]
  refine (rgauge_st g).call ?_
  try simp
  refine .seq (.seq (.reg ?_))
  simp [r25_5]
  refine .cond (t := gd g today) (by simp [gd]) (fun e1 => ?_) (fun e1 => ?_)
  · refine .seq (.reg ?_)
    simp [r25_6]
    refine .retp (rs := rs25) rfl ?_ ?_ <;> simp [rs25, fst25, e, e1]
  refine .skip ?_
  try simp
  refine .seq (.reg ?_)
  simp [r25_7]
  refine .retp (rs := rs25) rfl ?_ ?_ <;> simp [rs25, fst25, e, e1]
def rhit (g a b : Int) (x : Fz) : Bool := decide (x.g = g) && decide (x.a < b) && decide (a < x.b)
def rmay (w : Lw) (q : Nat → Fz) (n : Nat) (g today l a b : Int) : Bool := !anyI (fun i => rhit g a b (q i)) n && decide (w.at l < today - (b - 1).tdiv 96)
def L50 (w : Lw) (q : Nat → Fz) (n : Nat) (g today l a b : Int) (k : Nat) : ASt := ⟨.agg w.cells :: .slc 3 n (fun i => (q i).cells) :: .int .i64 g :: .agg [.int .i64 l, .int .i64 a, .int .i64 b] :: .int .i64 today :: .ptr 0 1 0 :: .top :: .top :: .ptr 1 1 0 :: .top :: .bool false :: .vec 2 1 0 5 :: .int .i64 k :: List.replicate 54 .top,
  hset (hset (hset h0 0 (.box 1 w.cells)) 1 (.box 1 [.int .i64 l, .int .i64 a, .int .i64 b])) 2 (.vec 1 1 5 fun i => (elemsOf 1 5 [.int .i64 0, .int .i64 w.r, .int .i64 w.h, .int .i64 w.d, .int .i64 w.m])[i]?.getD []), []⟩
theorem rmay_st (w : Lw) (q : Nat → Fz) (n : Nat) (g l a b today : Int) (hn : n < 4611686018427387904) (ht : 0 ≤ today) (ht2 : today ≤ 14609) (hl : 0 ≤ l) (hl2 : l ≤ 4) (hb0 : 0 ≤ b) (hb1 : b ≤ 1402560) :
    Still EE Tryd.prog 50 [.agg w.cells, .slc 3 n (fun i => (q i).cells), .int .i64 g, .agg [.int .i64 l, .int .i64 a, .int .i64 b], .int .i64 today] (.bool (rmay w q n g today l a b)) := by
  refine Pure.still ?_ hEE (by simp [Lw.cells, -noRef_slc]) (by simp)
  obtain ⟨c, hb, hc⟩ := ck50
  refine Pure.of (fn := Tryd.f50) rfl hb cr50 (hc 0) 62 rfl ?_
  have hq1 : 0 ≤ (b - 1).tdiv 96 ∧ (b - 1).tdiv 96 ≤ 14609 := by
    rcases Int.lt_or_le 0 b with h | h
    · rw [Int.tdiv_eq_ediv_of_nonneg (by omega)]; omega
    · obtain rfl : b = 0 := by omega
      decide
  refine .seq (.reg ?_)
  simp [r50_0, Lw.cells]
  refine .seq (.reg ?_)
  simp [r50_1]
  refine .seq (.seq (.reg ?_))
  simp [r50_2]
  refine .block (.loop (fun k : Nat => L50 w q n g today l a b k) (fun k => n - k) (fun k => k ≤ n ∧ ∀ j, j < k → rhit g a b (q j) = false) 0 ⟨by omega, fun j hj => by omega⟩ (.of_sub ⟨?_, fun i => .refl _, rfl, by simp⟩) ?_)
  · simp [List.replicate, L50, Lw.cells]
  rintro k ⟨hk, hlo⟩
  refine .seq (.seq (.reg ?_))
  simp [List.replicate, r50_3, L50]
  refine .cond (t := decide (k < n)) (by simp) (fun e2 => ?_) (fun e2 => ?_)
  · simp only [decide_eq_true_eq] at e2
    refine .skip ?_
    try simp
    refine .seq (.block (.seq (.draw ?_)))
    simp [r50_5, Fz.cells, e2]
    refine ⟨by kernel_rfl, ?_⟩
    refine .cond (t := rhit g a b (q k)) (by simp [rhit]) (fun e3 => ?_) (fun e3 => ?_)
    · refine .seq (.reg ?_)
      simp [r50_6]
      have : anyI (fun i => rhit g a b (q i)) n = true := anyI_hit e2 e3
      refine .retp (rs := rs50) rfl ?_ ?_ <;> simp [rs50, rmay, this]
    · refine .skip ?_
      try simp
      refine .reg ?_
      simp [r50_4]
      refine ⟨by omega, k + 1, ⟨by omega, fun j hj => ?_⟩, by omega, .of_sub ⟨?_, fun i => .refl _, rfl, by simp⟩⟩
      · rcases Nat.lt_or_ge j k with h | h
        · exact hlo j h
        · obtain rfl : j = k := by omega
          exact e3
      · simp [Fz.cells]
  · simp only [decide_eq_false_iff_not] at e2
    refine .exit ?_
    try simp
    have hno : anyI (fun i => rhit g a b (q i)) n = false := anyI_miss fun j hj => hlo j (by omega)
    have hat : ([[AVal.int .i64 0], [AVal.int .i64 w.r], [AVal.int .i64 w.h], [AVal.int .i64 w.d], [AVal.int .i64 w.m]][l.toNat]?.getD [])[0]?.getD .top = AVal.int .i64 (w.at l) := by
      rcases (show l = 0 ∨ l = 1 ∨ l = 2 ∨ l = 3 ∨ l = 4 by omega) with rfl | rfl | rfl | rfl | rfl <;> rfl
    refine .seq (.draw ?_)
    simp [r50_7, elemsOf, hat]
    refine ⟨⟨by omega, by omega⟩, ⟨by omega, by omega⟩, ⟨by omega, by omega⟩, ⟨by omega, by omega⟩, by omega, by kernel_rfl, ?_⟩
    refine .retp (rs := rs50) rfl ?_ ?_ <;> simp [rs50, rmay, hno]
end Go.Am
set_option linter.unusedVariables false
set_option linter.unusedSimpArgs false
set_option maxRecDepth 8000
namespace Go.Am
open Go.Proofs
attribute [local simp] areg aop dreg dop AOp.req argv argU AOp.args uncAll AOp.unAll Req.val Req.when putT putH athen ablk reqBin reqInt gcond unc unv pickB ressOk ARes.ok retVal ARes.val cut inr AOp.quiet
attribute [local simp] noRef_int noRef_bool noRef_str noRef_nils noRef_agg noRef_tup noRef_slc noRef_fn
attribute [local simp] vsub_top VSub.refl TSub vsub_int
attribute [local simp] AObj.plain AObj.owned AObj.ep hset h0 reqLoad reqStore acells allOne AVal.one lay fills ldv fzv fzl fz1
attribute [local simp] nrF rg2 rg3 rg4 rg7
noncomputable def rdl (w : Lw) (q : Nat → Fz) (n : Nat) (g today t : Int) : Nat → Bn
  | 0 => ⟨0, t, t + 1⟩
  | k + 1 => if rmay w q n g today (k + 1) (bF (k + 1) t) (bT (k + 1) t) then ⟨k + 1, bF (k + 1) t, bT (k + 1) t⟩ else rdl w q n g today t k
noncomputable def L26 (w : Lw) (q : Nat → Fz) (n : Nat) (g today t : Int) (k : Nat) : ASt := ⟨.agg w.cells :: .slc 3 n (fun i => (q i).cells) :: .int .i64 g :: .int .i64 t :: .int .i64 today :: .ptr 0 1 0 :: .top :: .top :: .top :: .top :: .ptr 1 1 0 :: .ptr 2 1 0 :: .int .i64 (k + 1) :: List.replicate 23 .top,
  hset (hset (hset (hset h0 0 (.box 1 w.cells)) 1 (.box 1 [.int .i64 0, .int .i64 0, .int .i64 0])) 2 (.box 1 (rdl w q n g today t k).cells)) 3 (.gone k), []⟩
theorem rdue_st (w : Lw) (q : Nat → Fz) (n : Nat) (g t today : Int) (hn : n < 4611686018427387904) (hd : 0 ≤ today) (hd2 : today ≤ 14609) (ht : 0 ≤ t) (ht2 : t < 1402560) :
    Still EE Tryd.prog 26 [.agg w.cells, .slc 3 n (fun i => (q i).cells), .int .i64 g, .int .i64 t, .int .i64 today] (.agg (rdl w q n g today t 4).cells) := by
  refine Pure.still ?_ hEE (by simp [Lw.cells, -noRef_slc]) (by simp [Bn.cells])
  obtain ⟨c, hb, hc⟩ := ck26
  refine Pure.of (fn := Tryd.f26) rfl hb cr26 (hc 0) 31 rfl ?_
  refine .seq (.reg ?_)
  simp [r26_0, Lw.cells]
  refine .seq (.reg ?_)
  simp [r26_1]
  refine ⟨by omega, ?_⟩
  refine .seq (.seq (.reg ?_))
  simp [r26_2]
  refine .block (.loop (fun k : Nat => L26 w q n g today t k) (fun k => 4 - k) (fun k => k ≤ 4) 0 (by omega) (.of_sub ⟨?_, fun i => ?_, rfl, by simp⟩) ?_)
  · simp [List.replicate, L26, Lw.cells]
  · simp only [L26, hset]
    by_cases h3 : i = 3
    · subst h3; exact .of_eq (by simp)
    by_cases h2 : i = 2
    · subst h2; exact .of_eq (by simp [rdl, Bn.cells])
    by_cases h1 : i = 1
    · subst h1; exact .of_eq (by simp)
    by_cases h0 : i = 0
    · subst h0; exact .of_eq (by simp [Lw.cells])
    exact .of_eq (by simp [h0, h1, h2, h3])
  intro k hk
  refine .seq (.seq (.reg ?_))
  simp [List.replicate, r26_3, L26]
  refine .cond (t := decide (k < 4)) (by simp; omega) (fun e2 => ?_) (fun e2 => ?_)
  · simp only [decide_eq_true_eq] at e2
    refine .skip ?_
    try simp
    refine .seq (.block (.seq (.reg ?_)))
    simp [r26_5]
    have hin : inCal ((k : Int) + 1) t = true := by simp [inCal]; omega
    have hrb := rblock_st (k + 1) t
    rw [if_pos hin] at hrb
    refine hrb.call ?_
    simp
    have hT := bT_bd (k + 1) t (by omega) (by omega) ht ht2
    have hrm := rmay_st w q n g (k + 1) (bF (k + 1) t) (bT (k + 1) t) today hn hd hd2 (by omega) (by omega) hT.1 hT.2
    refine .seq (.reg ?_)
    simp [r26_6, Lw.cells]
    simp only [Lw.cells] at hrm
    refine hrm.call ?_
    try simp
    refine .seq (.reg ?_)
    simp [r26_7]
    refine .cond (t := rmay w q n g today (k + 1) (bF (k + 1) t) (bT (k + 1) t)) (by simp) (fun e3 => ?_) (fun e3 => ?_)
    · refine .reg ?_
      simp [r26_8]
      refine ⟨by simp [Bn.cells], ?_⟩
      refine .reg ?_
      simp [r26_4]
      refine ⟨⟨by omega, by omega⟩, k + 1, by omega, by omega, .of_sub ⟨?_, fun i => ?_, rfl, by simp⟩⟩
      · simp
      · simp only [hset]
        by_cases h3 : i = 3
        · subst h3; exact .inl (by simp)
        by_cases h2 : i = 2
        · subst h2; exact .of_eq (by simp [rdl, Bn.cells, e3])
        exact .of_eq (by simp [h2, h3])
    · refine .skip ?_
      try simp
      refine .reg ?_
      simp [r26_4]
      refine ⟨⟨by omega, by omega⟩, k + 1, by omega, by omega, .of_sub ⟨?_, fun i => ?_, rfl, by simp⟩⟩
      · simp
      · simp only [hset]
        by_cases h3 : i = 3
        · subst h3; exact .inl (by simp)
        by_cases h2 : i = 2
        · subst h2; exact .of_eq (by simp [rdl, Bn.cells, e3])
        exact .of_eq (by simp [h2, h3])
  · simp only [decide_eq_false_iff_not] at e2
    obtain rfl : k = 4 := by omega
    refine .exit ?_
    try simp
    refine .seq (.reg ?_)
    simp [r26_9, Bn.cells]
    refine .retp (rs := rs26) rfl ?_ ?_ <;> simp [rs26, Bn.cells]
end Go.Am
set_option linter.unusedVariables false
set_option linter.unusedSimpArgs false
set_option maxRecDepth 8000
namespace Go.Am
open Go.Proofs
attribute [local simp] areg aop dreg dop AOp.req argv argU AOp.args uncAll AOp.unAll Req.val Req.when putT putH athen ablk reqBin reqInt gcond unc unv pickB ressOk ARes.ok retVal ARes.val cut inr AOp.quiet
attribute [local simp] noRef_int noRef_bool noRef_str noRef_nils noRef_agg noRef_tup noRef_slc noRef_fn
attribute [local simp] vsub_top VSub.refl TSub vsub_int
attribute [local simp] AObj.plain AObj.owned AObj.ep hset h0 reqLoad reqStore acells allOne AVal.one lay fills ldv fzv fzl fz1
attribute [local simp] nrF rg2 rg3 rg4 rg7
noncomputable def rlvl (w : Lw) (q : Nat → Fz) (n : Nat) (g tick today : Int) : Int × Int :=
  if fst25 w q n g today ≠ 0 then (0, fst25 w q n g today) else if tick < 0 ∨ 1402560 ≤ tick then (0, 3) else ((rdl w q n g today tick 4).l, 0)
theorem fst25_zero {w : Lw} {q : Nat → Fz} {n : Nat} {g today : Int} (h : fst25 w q n g today = 0) : 0 ≤ g ∧ g < 40 ∧ 0 ≤ today ∧ today ≤ 14609 := by
  unfold fst25 at h
  split at h
  · contradiction
  · split at h
    · cases h
    · rename_i h1
      simp [gd] at h1
      omega
theorem rlvl_st (w : Lw) (q : Nat → Fz) (n : Nat) (hn : n < 4611686018427387904) (g tick today : Int) :
    Still EE Tryd.prog 10 [.agg w.cells, .slc 3 n (fun i => (q i).cells), .int .i64 g, .int .i64 tick, .int .i64 today] (.agg [.int .i64 (rlvl w q n g tick today).1, .int .i64 (rlvl w q n g tick today).2]) := by
  refine Pure.still ?_ hEE (by simp [Lw.cells, -noRef_slc]) (by simp)
  obtain ⟨c, hb, hc⟩ := ck10
  refine Pure.of (fn := Tryd.f10) rfl hb cr10 (hc 0) 31 rfl ?_
  refine .seq (.reg ?_)
  simp [r10_0, Lw.cells]
  refine .seq (.reg ?_)
  have hf := rfirst_st w q n g today hn
  simp only [Lw.cells] at hf
  simp [r10_1]
  refine hf.call ?_
  try simp
  refine .seq (.seq (.reg ?_))
  simp [r10_2]
  refine .cond (t := decide (fst25 w q n g today ≠ 0)) (by simp) (fun e => ?_) (fun e => ?_)
  · simp only [decide_eq_true_eq] at e
    refine .seq (.reg ?_)
    simp [r10_3]
    refine .retp (rs := rs10) rfl ?_ ?_ <;> simp [rs10, rlvl, e]
  simp only [decide_eq_false_iff_not, Classical.not_not] at e
  refine .skip ?_
  try simp
  refine .seq (.seq (.reg ?_))
  simp [r10_4]
  refine .cond (t := decide (tick < 0) || decide (1402560 ≤ tick)) (by simp) (fun e1 => ?_) (fun e1 => ?_)
  · have e1' : tick < 0 ∨ 1402560 ≤ tick := by simpa using e1
    refine .seq (.reg ?_)
    simp [r10_5]
    refine .retp (rs := rs10) rfl ?_ ?_ <;> simp [rs10, rlvl, e, e1']
  have e1' : ¬ (tick < 0 ∨ 1402560 ≤ tick) := by simpa using e1
  refine .skip ?_
  try simp
  have hz := fst25_zero e
  have hdu := rdue_st w q n g tick today hn (by omega) (by omega) (by omega) (by omega)
  simp only [Lw.cells, Bn.cells] at hdu
  refine .seq (.reg ?_)
  simp [r10_6]
  refine hdu.call ?_
  try simp
  refine .retp (rs := rs10) rfl ?_ ?_ <;> simp [rs10, rlvl, e, e1']
end Go.Am
set_option linter.unusedVariables false
set_option linter.unusedSimpArgs false
set_option maxRecDepth 8000
namespace Go.Am
open Go.Proofs
attribute [local simp] areg aop dreg dop AOp.req argv argU AOp.args uncAll AOp.unAll Req.val Req.when putT putH athen ablk reqBin reqInt gcond unc unv pickB ressOk ARes.ok retVal ARes.val cut inr AOp.quiet
attribute [local simp] noRef_int noRef_bool noRef_str noRef_nils noRef_agg noRef_tup noRef_slc noRef_fn
attribute [local simp] vsub_top VSub.refl TSub vsub_int
attribute [local simp] AObj.plain AObj.owned AObj.ep hset h0 reqLoad reqStore acells allOne AVal.one lay fills ldv fzv fzl fz1
attribute [local simp] nrF rg2 rg3 rg4 rg7
def tks (a b m : Int) : Bool := decide (a < 0) || decide (1402560 < b) || decide (b < a) || decide (b - a ≤ m)
theorem ticks_st (a b m : Int) : Still EE Tryd.prog 5 [.agg [.int .i64 a, .int .i64 b], .int .i64 m] (.bool (tks a b m)) := by
  refine Pure.still ?_ hEE (by simp) (by simp)
  obtain ⟨c, hb, hc⟩ := ck5
  refine Pure.of (fn := Tryd.f5) rfl hb cr5 (hc 0) 27 rfl ?_
  refine .seq (.reg ?_)
  simp [r5_0]
  refine .seq (.reg ?_)
  simp [r5_1]
  refine ⟨by omega, ?_⟩
  refine .retp (rs := rs5) rfl ?_ ?_ <;> simp [rs5, tks]
end Go.Am
