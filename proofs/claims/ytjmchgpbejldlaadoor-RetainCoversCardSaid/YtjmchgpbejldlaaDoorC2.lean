/- Part C2 of the proof that the last part closes: contracts of functions and plain lemmas. No condition. -/
import Derived.Test.YtjmchgpbejldlaaDoorC1
import Derived.Test.YtjmchgpbejldlaaDoorA4
set_option linter.unusedVariables false
set_option linter.unusedSimpArgs false
namespace Go.Am
open Go.Proofs
attribute [local simp] areg aop dreg dop AOp.req argv argU AOp.args uncAll AOp.unAll Req.val Req.when putT putH athen ablk reqBin reqInt gcond unc unv pickB ressOk ARes.ok retVal ARes.val cut inr AOp.quiet
attribute [local simp] noRef_int noRef_bool noRef_str noRef_nils noRef_agg noRef_tup noRef_slc noRef_fn
attribute [local simp] vsub_top VSub.refl TSub vsub_int
attribute [local simp] AObj.plain AObj.owned AObj.ep hset h0 reqLoad reqStore acells allOne AVal.one lay fills ldv fzv fzl fz1
theorem rg2 : List.range 2 = [0, 1] := rfl
theorem rg3 : List.range 3 = [0, 1, 2] := rfl
theorem rg4 : List.range 4 = [0, 1, 2, 3] := rfl
theorem rg7 : List.range 7 = [0, 1, 2, 3, 4, 5, 6] := rfl
attribute [local simp] rg2 rg3 rg4 rg7
theorem OSub.of_eq {o o' : AObj} (h : o' = o) : OSub o o' := .inr (.inl h)
def fl (q : Nat → Fz) (g : Int) : Nat → List Fz
  | 0 => []
  | k + 1 => if (q k).g = g then fl q g k ++ [q k] else fl q g k
def Fz.zero : Fz := ⟨0, 0, 0⟩
def lcells (l : List Fz) (i : Nat) : List AVal := (l.getD i Fz.zero).cells
def sLF (l : List Fz) : AVal := if l.length = 0 then .nils else .slc 3 l.length (lcells l)
def sVec (l : List Fz) : AVal := if l.length = 0 then .nils else .vec 5 l.length 0 l.length
def oVec (l : List Fz) : AObj := if l.length = 0 then .gone 0 else .vec l.length 3 l.length (lcells l)
def B21 (w : Lw) (q : Nat → Fz) (n : Nat) (g today : Int) (k : Nat) : ASt :=
  ⟨.agg w.cells :: .slc 3 n (fun i => (q i).cells) :: .int .i64 g :: .int .i64 today :: .ptr 0 1 0 :: .top :: .top :: .top :: .ptr 1 1 0 :: .int .i64 0 :: .top :: .ptr 2 1 0 :: List.replicate 32 .top ++ [.slc 3 n (fun i => (q i).cells), .int .i64 n, .int .i64 k] ++ List.replicate 15 .top,
    hset (hset (hset (hset (hset (hset h0 0 (.box 1 w.cells)) 1 (.box 1 [.int .i64 0, .int .i64 0, .int .i64 0, .int .i64 0, .int .i64 0, .nils, .int .i64 0])) 2 (.box 1 (kcells w (sVec (fl q g k)) today))) 3 (.gone k)) 4 (.gone (fl q g k).length)) 5 (oVec (fl q g k)), []⟩
theorem fl_len (q : Nat → Fz) (g : Int) : ∀ k, (fl q g k).length ≤ k
  | 0 => Nat.le_refl _
  | k + 1 => by
    have := fl_len q g k
    simp only [fl]; split <;> simp <;> omega
theorem B21_def (w : Lw) (q : Nat → Fz) (n : Nat) (g today : Int) (k : Nat) : B21 w q n g today k = ⟨.agg w.cells :: .slc 3 n (fun i => (q i).cells) :: .int .i64 g :: .int .i64 today :: .ptr 0 1 0 :: .top :: .top :: .top :: .ptr 1 1 0 :: .int .i64 0 :: .top :: .ptr 2 1 0 :: List.replicate 32 .top ++ [.slc 3 n (fun i => (q i).cells), .int .i64 n, .int .i64 k] ++ List.replicate 15 .top,
    hset (hset (hset (hset (hset (hset h0 0 (.box 1 w.cells)) 1 (.box 1 [.int .i64 0, .int .i64 0, .int .i64 0, .int .i64 0, .int .i64 0, .nils, .int .i64 0])) 2 (.box 1 (kcells w (sVec (fl q g k)) today))) 3 (.gone k)) 4 (.gone (fl q g k).length)) 5 (oVec (fl q g k)), []⟩ := rfl
def beginE (w : Lw) (q : Nat → Fz) (n : Nat) (g today : Int) : Int := if chk w q n ≠ 0 then chk w q n else if !(decide (0 ≤ g) && decide (g < 40)) || decide (today < 0) || decide (14609 < today) then 3 else 0
def kzero : List AVal := [.int .i64 0, .int .i64 0, .int .i64 0, .int .i64 0, .int .i64 0, .nils, .int .i64 0]
theorem nr_sLF (l : List Fz) : NoRef (sLF l) := by
  unfold sLF; split
  · exact .nils
  · exact .slc _ _ _ fun i x _ hx => Fz.nr _ x hx
set_option maxHeartbeats 2000000 in
theorem begin_st (w : Lw) (q : Nat → Fz) (n : Nat) (hn : n < 4611686018427387904) (g today : Int) :
    Still EE Tryd.prog 21 [.agg w.cells, .slc 3 n (fun i => (q i).cells), .int .i64 g, .int .i64 today] (.tup [.agg (if beginE w q n g today = 0 then kcells w (sLF (fl q g n)) today else kzero), .int .i64 (beginE w q n g today)]) := by
  refine Pure.still ?_ hEE (by simp [Lw.cells, nrF, -noRef_slc]) (by split <;> simp [kcells, kzero, nr_sLF])
  obtain ⟨c, hb, hc⟩ := ck21
  refine Pure.of (fn := Tryd.f21) rfl hb cr21 (hc 0) 58 rfl ?_
  refine .seq (.reg ?_)
  simp [r21_0]
  refine .seq (.seq (.reg ?_))
  simp [r21_1, Lw.cells]
  have hck := check_st w q n hn
  refine hck.call ?_
  try simp
  refine .seq (.reg ?_)
  simp [r21_2]
  refine .cond (t := !decide (chk w q n = 0)) (by simp) (fun e => ?_) (fun e => ?_)
  · simp at e
    refine .seq (.reg ?_)
    simp [r21_3]
    refine .retp (rs := rs21) rfl ?_ ?_ <;> simp [rs21, beginE, e, kzero]
  simp at e
  refine .skip ?_
  try simp
  refine .seq (.seq (.reg ?_))
  simp [r21_4]
  refine (gauge_st g).call ?_
  try simp
  refine .cond (t := !(decide (0 ≤ g) && decide (g < 40)) || decide (today < 0) || decide (14609 < today)) (by simp) (fun e1 => ?_) (fun e1 => ?_)
  · refine .seq (.reg ?_)
    simp [r21_5]
    have hE3 : beginE w q n g today = 3 := by simp only [beginE, e, e1]; simp
    rw [hE3]
    refine .retp (rs := rs21) rfl ?_ ?_ <;> simp [rs21, kzero]
  have hE : beginE w q n g today = 0 := by simp only [beginE, e, e1]; simp
  rw [hE]
  have hn100 : n ≤ 100 := by
    unfold chk at e
    split at e
    · cases e
    · split at e
      · cases e
      · omega
  refine .skip ?_
  try simp
  refine .seq (.reg ?_)
  simp [r21_6]
  refine .seq (.seq (.reg ?_))
  simp [r21_7]
  refine .block (.loop (B21 w q n g today) (fun k => n - k) (fun k => k ≤ n) 0 (by omega) (.of_sub ⟨?_, fun i => ?_, rfl, by simp⟩) ?_)
  · simp [List.replicate, B21, Lw.cells]
  · refine .of_eq ?_
    simp only [B21, hset, fl, sVec, oVec, kcells, h0, Lw.cells, List.length_nil, if_true]
    by_cases h5 : i = 5
    · subst h5; simp
    by_cases h4 : i = 4
    · subst h4; simp
    by_cases h3 : i = 3
    · subst h3; simp
    by_cases h2 : i = 2
    · subst h2; simp
    simp [h5, h4, h3, h2]
  intro k hk
  have hkl := fl_len q g k
  refine .seq (.reg ?_)
  simp [List.replicate, r21_8, B21_def w q n g today k, -List.length_eq_zero_iff]
  refine .seq (.cond (t := decide (k < n)) (by simp) (fun e2 => ?_) (fun e2 => ?_))
  · simp only [decide_eq_true_eq] at e2
    refine .skip ?_
    try simp
    refine .seq (.block (.seq (.reg ?_)))
    simp [r21_9, Fz.cells]
    refine ⟨e2, .seq (.reg ?_)⟩
    simp [r21_10]
    refine .cond (t := decide ((q k).g = g)) (by simp) (fun e3 => ?_) (fun e3 => ?_)
    · simp only [decide_eq_true_eq] at e3
      have hfl : fl q g (k + 1) = fl q g k ++ [q k] := by simp [fl, e3]
      refine .reg ?_
      by_cases hc0 : (fl q g k).length = 0
      · simp [r21_11, sVec, oVec, hc0, kcells, reqAppend, srcOf, elemsOf, -List.length_eq_zero_iff]
        refine .reg ?_
        simp [r21_12]
        refine ⟨by omega, k + 1, by omega, by omega, .of_sub ⟨?_, fun i => ?_, rfl, by simp⟩⟩
        · simp [List.replicate, B21, Lw.cells, Fz.cells]
        · have hl : (fl q g (k + 1)).length = 1 := by rw [hfl]; simp [hc0, -List.length_eq_zero_iff]
          have hnil : fl q g k = [] := List.length_eq_zero_iff.1 hc0
          simp only [B21, hset, sVec, oVec, hl, kcells]
          by_cases h5 : i = 5
          · subst h5
            refine .inr (.inr ⟨_, _, _, _, lcells (fl q g (k + 1)), by simp; exact ⟨rfl, rfl, rfl, rfl⟩, by simp, fun j hj => ?_⟩)
            obtain rfl : j = 0 := by omega
            rw [hfl, hnil]
            rfl
          by_cases h4 : i = 4
          · subst h4; exact .inl (by simp)
          by_cases h3 : i = 3
          · subst h3; exact .inl (by simp)
          by_cases h2 : i = 2
          · subst h2; exact .of_eq (by simp)
          exact .of_eq (by simp [h5, h4, h3, h2])
      · simp [r21_11, sVec, oVec, hc0, kcells, reqAppend, srcOf, elemsOf, -List.length_eq_zero_iff]
        refine ⟨by omega, .reg ?_⟩
        simp [r21_12]
        refine ⟨by omega, k + 1, by omega, by omega, .of_sub ⟨?_, fun i => ?_, rfl, by simp⟩⟩
        · simp [List.replicate, B21, Lw.cells, Fz.cells]
        · have hl : (fl q g (k + 1)).length = (fl q g k).length + 1 := by rw [hfl]; simp
          simp only [B21, hset, sVec, oVec, hl, kcells]
          by_cases h5 : i = 5
          · subst h5
            refine .inr (.inr ⟨_, _, _, _, lcells (fl q g (k + 1)), by simp; exact ⟨rfl, rfl, rfl, rfl⟩, by simp, fun j hj => ?_⟩)
            rw [hfl]
            by_cases hj' : j < (fl q g k).length
            · simp [lcells, hj', List.getElem?_append]
            · obtain rfl : j = (fl q g k).length := by omega
              simp [lcells, Fz.cells]
          by_cases h4 : i = 4
          · subst h4; exact .inl (by simp)
          by_cases h3 : i = 3
          · subst h3; exact .inl (by simp)
          by_cases h2 : i = 2
          · subst h2; exact .of_eq (by simp)
          exact .of_eq (by simp [h5, h4, h3, h2])
    · simp only [decide_eq_false_iff_not] at e3
      have hfl : fl q g (k + 1) = fl q g k := by simp [fl, e3]
      refine .skip ?_
      try simp
      refine .reg ?_
      simp [r21_12]
      refine ⟨by omega, k + 1, by omega, by omega, .of_sub ⟨?_, fun i => ?_, rfl, by simp⟩⟩
      · simp [List.replicate, B21, Lw.cells, Fz.cells]
      · simp only [B21, hfl, hset]
        by_cases h5 : i = 5
        · subst h5; exact .of_eq (by simp)
        by_cases h4 : i = 4
        · subst h4; exact .of_eq (by simp)
        by_cases h3 : i = 3
        · subst h3; exact .inl (by simp)
        by_cases h2 : i = 2
        · subst h2; exact .of_eq (by simp)
        exact .of_eq (by simp [h5, h4, h3, h2])
  · simp only [decide_eq_false_iff_not] at e2
    obtain rfl : k = n := by omega
    refine .exit ?_
    simp
    by_cases hc0 : (fl q g k).length = 0
    · refine .seq (.reg ?_)
      simp [r21_13, sVec, hc0, kcells, -List.length_eq_zero_iff]
      refine .retp (rs := rs21) rfl ?_ ?_ <;> simp [rs21, sLF, hc0, -List.length_eq_zero_iff]
    · refine .fzc 5 (by simp [oVec, hc0, -List.length_eq_zero_iff]) (by simp [oVec, hc0, -List.length_eq_zero_iff]) ?_
      simp [oVec, sVec, hc0, kcells, -List.length_eq_zero_iff]
      refine .seq (.reg ?_)
      simp [r21_13, fzo, -List.length_eq_zero_iff]
      refine .retp (rs := rs21) rfl ?_ ?_ <;> simp [rs21, sLF, hc0, -List.length_eq_zero_iff]
end Go.Am
set_option linter.unusedVariables false
set_option linter.unusedSimpArgs false
namespace Go.Am
open Go.Proofs
attribute [local simp] areg aop dreg dop AOp.req argv argU AOp.args uncAll AOp.unAll Req.val Req.when putT putH athen ablk reqBin reqInt gcond unc unv pickB ressOk ARes.ok retVal ARes.val cut inr AOp.quiet
attribute [local simp] noRef_int noRef_bool noRef_str noRef_nils noRef_agg noRef_tup noRef_slc noRef_fn
attribute [local simp] vsub_top VSub.refl TSub vsub_int
attribute [local simp] AObj.plain AObj.owned AObj.ep hset h0 reqLoad reqStore acells allOne lay fills ldv fzv fzl fz1
attribute [local simp] rg2 rg3 rg4 rg7
theorem one_sLF (l : List Fz) : (sLF l).one = true := by unfold sLF; split <;> rfl
attribute [local simp] one_sLF AVal.one_int AVal.one_bool AVal.one_str AVal.one_nils AVal.one_slc AVal.one_vec AVal.one_ptr AVal.one_eptr AVal.one_cptr AVal.one_nilp AVal.one_fn AVal.one_nilfn AVal.one_mp AVal.one_nilmp
def ival (a b : Int) : Bool := decide (0 ≤ a) && decide (a ≤ b) && decide (b ≤ 1402560)
theorem interval_st (a b : Int) : Still EE Tryd.prog 23 [.int .i64 a, .int .i64 b] (.bool (ival a b)) := by
  refine Pure.still ?_ hEE (by simp) (by simp)
  obtain ⟨c, hb, hc⟩ := ck23
  refine Pure.of (fn := Tryd.f23) rfl hb cr23 (hc 0) 14 rfl ?_
  refine .seq (.reg ?_)
  simp [r23_0]
  refine .seq (.reg ?_)
  simp [r23_1]
  refine .retp (rs := rs23) rfl ?_ ?_ <;> simp [rs23, ival]
def qf (q : Nat → Fz) (n : Nat) (g : Int) (i : Nat) : Fz := (fl q g n).getD i Fz.zero
def nf (q : Nat → Fz) (n : Nat) (g : Int) : Nat := (fl q g n).length
theorem sl_sLF (q : Nat → Fz) (n : Nat) (g : Int) : slOr 3 (nf q n g) (fun i => (qf q n g i).cells) (sLF (fl q g n)) := by
  unfold sLF nf
  split
  · rename_i h; exact .inr ⟨rfl, h⟩
  · exact .inl rfl
theorem begin_ok {w : Lw} {q : Nat → Fz} {n : Nat} {g today : Int} (h : beginE w q n g today = 0) : n ≤ 100 ∧ 0 ≤ today ∧ today ≤ 14609 := by
  unfold beginE at h
  split at h
  · rename_i h1; exact absurd h h1
  · rename_i h1
    split at h
    · cases h
    · rename_i h2
      simp at h2
      have hc : chk w q n = 0 := by simpa using h1
      unfold chk at hc
      split at hc
      · cases hc
      · split at hc
        · cases hc
        · exact ⟨by omega, h2.1.2, h2.2⟩
theorem nf_lt {q : Nat → Fz} {n : Nat} {g : Int} (h : n ≤ 100) : nf q n g < 4611686018427387904 := by
  have := fl_len q g n; unfold nf; omega
noncomputable def lvl (w : Lw) (q : Nat → Fz) (n : Nat) (g tick today : Int) : Int × Int :=
  if beginE w q n g today ≠ 0 then (0, beginE w q n g today) else if tick < 0 ∨ 1402560 ≤ tick then (0, 3) else ((due w (qf q n g) (nf q n g) today tick).l, 0)
theorem lvl_st (w : Lw) (q : Nat → Fz) (n : Nat) (hn : n < 4611686018427387904) (g tick today : Int) :
    Still EE Tryd.prog 7 [.agg w.cells, .slc 3 n (fun i => (q i).cells), .int .i64 g, .int .i64 tick, .int .i64 today] (.tup [.int .i64 (lvl w q n g tick today).1, .int .i64 (lvl w q n g tick today).2]) := by
  refine Pure.still ?_ hEE (by simp [Lw.cells, nrF, -noRef_slc]) (by simp)
  obtain ⟨c, hb, hc⟩ := ck7
  refine Pure.of (fn := Tryd.f7) rfl hb cr7 (hc 0) 30 rfl ?_
  refine .seq (.reg ?_)
  simp [r7_0]
  refine .seq (.reg ?_)
  simp [r7_1, Lw.cells]
  have hbg := begin_st w q n hn g today
  refine hbg.call ?_
  by_cases hE : beginE w q n g today = 0
  · obtain ⟨hn1, ht0, ht1⟩ := begin_ok hE
    simp [hE, kcells]
    skip
    refine .seq (.seq (.reg ?_))
    simp [r7_2]
    refine .cond (t := false) (by simp) (fun e => by cases e) (fun _ => ?_)
    refine .skip ?_
    try simp
    refine .seq (.seq (.reg ?_))
    simp [r7_4]
    refine .cond (t := decide (tick < 0) || decide (1402560 ≤ tick)) (by simp) (fun e => ?_) (fun e => ?_)
    · refine .seq (.reg ?_)
      simp [r7_5]
      simp at e
      refine .retp (rs := rs7) rfl ?_ ?_ <;> simp [rs7, lvl, hE, e]
    · simp at e
      refine .skip ?_
      try simp
      refine .seq (.reg ?_)
      simp [r7_6]
      refine (due_st w (qf q n g) (nf q n g) (sLF (fl q g n)) (sl_sLF q n g) (nf_lt hn1) today tick ht0 ht1 e.1 e.2).call ?_
      simp [Bn.cells]
      refine .retp (rs := rs7) rfl ?_ ?_ <;> simp [rs7, lvl, hE, show ¬ (tick < 0 ∨ 1402560 ≤ tick) by omega]
  · simp [hE, kzero]
    refine .seq (.seq (.reg ?_))
    simp [r7_2, hE]
    refine .cond (t := true) (by simp) (fun _ => ?_) (fun e => by cases e)
    refine .seq (.reg ?_)
    simp [r7_3]
    refine .retp (rs := rs7) rfl ?_ ?_ <;> simp [rs7, lvl, hE]
def cI (a b : Int) : AVal := .cptr (fun k => [AVal.int .i64 a, AVal.int .i64 b].getD k .top) 2 0
theorem nr_cptr {f : Nat → AVal} {l o : Nat} (h : ∀ j, j < l → NoRef (f j)) : NoRef (.cptr f l o) := .cptr _ _ _ h
theorem nr_cI (a b : Int) : NoRef (cI a b) := .cptr _ _ _ fun j hj => by
  have : j = 0 ∨ j = 1 := by omega
  rcases this with rfl | rfl <;> exact .int _ _
theorem nr_cK (w : Lw) (s : AVal) (today : Int) (hs : NoRef s) : NoRef (cK w s today) := .cptr _ _ _ fun j hj => by
  have : j = 0 ∨ j = 1 ∨ j = 2 ∨ j = 3 ∨ j = 4 ∨ j = 5 ∨ j = 6 := by omega
  rcases this with rfl | rfl | rfl | rfl | rfl | rfl | rfl <;> first | exact .int _ _ | exact hs
theorem bins_st (w : Lw) (s : AVal) (hs : NoRef s) (today a b : Int) : Still EE Tryd.prog 24 [.agg (kcells w s today), .agg [.int .i64 a, .int .i64 b]] (.fn 48 [cI a b, cK w s today]) := by
  refine Pure.still ?_ hEE (by simp [kcells, hs]) (by simp [nr_cI, nr_cK w s today hs])
  obtain ⟨c, hb, hc⟩ := ck24
  refine Pure.of (fn := Tryd.f24) rfl hb cr24 (hc 0) 4 rfl ?_
  refine .seq (.reg ?_)
  simp [r24_0, kcells]
  refine .fz 0 (by simp) (by simp) ?_
  simp
  refine .fz 1 (by simp) (by simp) ?_
  simp
  refine .seq (.reg ?_)
  simp [r24_1]
  refine .retp (rs := rs24) rfl ?_ ?_ <;> simp [rs24, cI, cK, kcells]
end Go.Am
set_option linter.unusedVariables false
set_option linter.unusedSimpArgs false
namespace Go.Am
open Go.Proofs
attribute [local simp] areg aop dreg dop AOp.req argv argU AOp.args uncAll AOp.unAll Req.val Req.when putT putH athen ablk reqBin reqInt gcond unc unv pickB ressOk ARes.ok retVal ARes.val cut inr AOp.quiet
attribute [local simp] noRef_int noRef_bool noRef_str noRef_nils noRef_agg noRef_tup noRef_slc noRef_fn
attribute [local simp] vsub_top VSub.refl TSub vsub_int
attribute [local simp] AObj.plain AObj.owned AObj.ep hset h0 reqLoad reqStore acells allOne AVal.one lay fills ldv fzv fzl fz1
attribute [local simp] rg2 rg3 rg4 rg7
def bsq (D : Int → Bn) (to : Int) : Nat → Int → Int → Int → List Bn
  | 0, _, _, _ => []
  | k + 1, t, rF, rT =>
    if t < to then
      if (D t).l = 0 then bsq D to k (D t).b rF (min (D t).b to)
      else (if rF < rT then [⟨0, rF, rT⟩] else []) ++ D t :: bsq D to k (D t).b (D t).b (D t).b
    else if rF < rT then [⟨0, rF, rT⟩] else []
theorem bT_gt (l t : Int) (hl : 0 ≤ l) (hl2 : l ≤ 4) (ht : 0 ≤ t) (ht2 : t < 1402560) : t < bT l t := by
  have D := dayAt _ (tday t ht ht2).1 (tday t ht ht2).2
  have h2 := D.h2
  have h4 := D.h4
  have hs : cd (dn (t.tdiv 96) + 1) = cd (dn (t.tdiv 96)) + ydays (2000 + (dn (t.tdiv 96) : Nat)) := rfl
  have hsm : cm (2000 + (dn (t.tdiv 96) : Nat)) (dm (t.tdiv 96) + 1) = cm (2000 + (dn (t.tdiv 96) : Nat)) (dm (t.tdiv 96)) + mlen (2000 + (dn (t.tdiv 96) : Nat)) (1 + (dm (t.tdiv 96) : Nat)) := rfl
  unfold bT arT
  rw [Int.tmod_eq_emod_of_nonneg ht, Int.tmod_eq_emod_of_nonneg ht, Int.tmod_eq_emod_of_nonneg ht]
  have hq := Int.tdiv_eq_ediv_of_nonneg ht (b := 96)
  split
  · omega
  split
  · omega
  split
  · omega
  split
  · omega
  · omega
theorem dfind_gt (w : Lw) (q : Nat → Fz) (n : Nat) (today t : Int) (ht : 0 ≤ t) (ht2 : t < 1402560) : ∀ l : Nat, l < 4 → t < (dfind w q n today t (l + 1)).b ∧ (dfind w q n today t (l + 1)).b ≤ 1402560
  | l, hl => by
    have h1 := bT_gt (l + 1) t (by omega) (by omega) ht ht2
    have h2 := bT_bd (l + 1) t (by omega) (by omega) ht ht2
    have h3 := bT_gt 1 t (by omega) (by omega) ht ht2
    have h4 := bT_bd 1 t (by omega) (by omega) ht ht2
    unfold dfind
    split
    · exact ⟨h1, h2.2⟩
    · split
      · exact ⟨h3, h4.2⟩
      · rename_i h
        obtain ⟨k, rfl⟩ : ∃ k, l = k + 1 := ⟨l - 1, by omega⟩
        exact dfind_gt w q n today t ht ht2 k (by omega)
theorem bF_bd (l t : Int) (ht : 0 ≤ t) (ht2 : t < 1402560) : 0 ≤ bF l t ∧ bF l t ≤ t := by
  have D := dayAt _ (tday t ht ht2).1 (tday t ht ht2).2
  have h1 := D.h1
  have h3 := D.h3
  have k1 : 0 ≤ cd (dn (t.tdiv 96)) := cd_mono (Nat.zero_le _)
  have k2 : 0 ≤ cm (2000 + (dn (t.tdiv 96) : Nat)) (dm (t.tdiv 96)) := cm_mono (by have := D.mm; omega) (Nat.zero_le _)
  unfold bF arF
  rw [Int.tmod_eq_emod_of_nonneg ht, Int.tmod_eq_emod_of_nonneg ht, Int.tmod_eq_emod_of_nonneg ht]
  have hq := Int.tdiv_eq_ediv_of_nonneg ht (b := 96)
  split
  · omega
  split
  · omega
  split
  · omega
  split
  · omega
  · omega
theorem dfind_a (w : Lw) (q : Nat → Fz) (n : Nat) (today t : Int) (ht : 0 ≤ t) (ht2 : t < 1402560) : ∀ l : Nat, (dfind w q n today t l).l ≠ 0 → 0 ≤ (dfind w q n today t l).a ∧ (dfind w q n today t l).a ≤ t
  | 0, h => by simp [dfind] at h
  | l + 1, h => by
    have h1 := bF_bd (l + 1) t ht ht2
    unfold dfind at h ⊢
    split
    · exact h1
    · rename_i hm
      rw [if_neg hm] at h
      split
      · rename_i e; rw [if_pos e] at h; simp at h
      · rename_i e; rw [if_neg e] at h; exact dfind_a w q n today t ht ht2 l h
def GB (x : Bn) : Prop := x.l ≠ 0 → 0 ≤ x.a ∧ x.a < 1402560
theorem GB.raw (a b : Int) : GB ⟨0, a, b⟩ := fun h => absurd rfl h
theorem GB.due (w : Lw) (q : Nat → Fz) (n : Nat) (today t : Int) (ht : 0 ≤ t) (ht2 : t < 1402560) : GB (due w q n today t) := fun h => by
  obtain ⟨h1, h2⟩ := dfind_a w q n today t ht ht2 4 h
  exact ⟨h1, by show (dfind w q n today t 4).a < _; omega⟩
structure Consumer (b L e : Nat) (HC : List Bn → AHeap → Prop) (X : List Bn → Bn → AHeap → Prop) : Prop where
  loc : ∀ l h h', (∀ i, i < b → h' i = h i) → HC l h → HC l h'
  round : ∀ (l : List Bn) (x : Bn) (h : AHeap), GB x → HC l h →
    Round EE Tryd.prog L e [.agg x.cells] h (fun v h' => (v = .bool true ∧ HC (l ++ [x]) h' ∧ ∀ i, b ≤ i → h' i = h i) ∨ (v = .bool false ∧ X l x h'))
theorem Post.norm {E : Nat → AVal} {rs : List ARes} {R : AVal → AHeap → Prop} {S : ASt} (h : Post E rs R .ret S) : Post E rs R .normal S := h
def Stopped (bs : List Bn) (X : List Bn → Bn → AHeap → Prop) (h' : AHeap) : Prop := ∃ l x rest, bs = l ++ x :: rest ∧ X l x h'
theorem Round.mono {E : Nat → AVal} {P : Program} {id ep : Nat} {args : List AVal} {h : AHeap} {K K' : AVal → AHeap → Prop} (R : Round E P id ep args h K) (hk : ∀ r h', K r h' → K' r h') : Round E P id ep args h K' := by
  obtain ⟨ts, ps, asg, body, D, eD, h1, h2, h3⟩ := R
  refine ⟨ts, ps, asg, body, D, eD, h1, h2, fun ρ => (h3 ρ).mono ?_⟩
  rintro e S ⟨he, hid, hb⟩
  refine ⟨he, hid, hb.mono ?_⟩
  intro e' S' hp
  cases e' <;> first | exact ⟨hp.1, hk _ _ hp.2⟩ | exact hp
def H48 (b : Nat) (hb : AHeap) (rF rT : Int) (e1 : Nat) : AHeap := fun i => if i < b then hb i else if i = b then .box 1 [.int .i64 0, .int .i64 rF, .int .i64 rT] else if i = b + 1 then .gone e1 else .gone 0
theorem H48_b (b : Nat) (hb : AHeap) (rF rT : Int) (e1 : Nat) : H48 b hb rF rT e1 b = .box 1 [.int .i64 0, .int .i64 rF, .int .i64 rT] := by simp [H48]
theorem H48_b1 (b : Nat) (hb : AHeap) (rF rT : Int) (e1 : Nat) : H48 b hb rF rT e1 (b + 1) = .gone e1 := by unfold H48; rw [if_neg (by omega), if_neg (by omega), if_pos rfl]
structure X48 where
  k : Nat
  t : Int
  rF : Int
  rT : Int
  l : List Bn
  e1 : Nat
  hb : AHeap
def S48 (b L e : Nat) (A B : AVal) (x : X48) : ASt := ⟨.yld L e :: A :: B :: .top :: .ptr b 1 0 :: .int .i64 x.t :: List.replicate 56 .top, H48 b x.hb x.rF x.rT x.e1, []⟩
theorem S48_def (b L e : Nat) (A B : AVal) (x : X48) : S48 b L e A B x = ⟨.yld L e :: A :: B :: .top :: .ptr b 1 0 :: .int .i64 x.t :: List.replicate 56 .top, H48 b x.hb x.rF x.rT x.e1, []⟩ := rfl
set_option maxHeartbeats 4000000 in
theorem bins1_ok (w : Lw) (q : Nat → Fz) (n : Nat) (s : AVal) (hs : slOr 3 n (fun i => (q i).cells) s) (hn : n < 4611686018427387904) (today : Int) (hd : 0 ≤ today) (hd2 : today ≤ 14609) (a to : Int) (ha : 0 ≤ a) (hat : a ≤ to) (hto : to ≤ 1402560)
    (b L e : Nat) (HC : List Bn → AHeap → Prop) (X : List Bn → Bn → AHeap → Prop) (C : Consumer b L e HC X) (K : Nat) (hK : (to - a).toNat < K) (h : AHeap) (hh : HC [] h) (hp : ∀ i, b ≤ i → h i = .gone 0) :
    ATr EE Tryd.prog 48 [.yld L e, cI a to, cK w s today] h (fun v h' => HC (bsq (due w q n today) to K a a a) h' ∨ Stopped (bsq (due w q n today) to K a a a) X h') := by
  obtain ⟨c, hbd, hc⟩ := ck48
  refine ATr.of (fn := Tryd.f48) rfl hbd cr48 (hc b) 59 rfl ?_
  have p0 := hp b (Nat.le_refl _)
  have p1 := hp (b + 1) (by omega)
  refine .seq (.reg ?_)
  simp [r48_0, cI, p0]
  refine .seq (.seq (.reg ?_))
  simp [r48_1]
  refine .block (.loop (S48 b L e (cI a to) (cK w s today)) (fun x => x.k) (fun x => 0 ≤ x.t ∧ x.t ≤ 1402560 ∧ (to - x.t).toNat < x.k ∧ HC x.l x.hb ∧ x.l ++ bsq (due w q n today) to x.k x.t x.rF x.rT = bsq (due w q n today) to K a a a) ⟨K, a, a, a, [], 0, h⟩ ⟨ha, (by show a ≤ 1402560; omega), hK, hh, by simp⟩ (.of_sub ⟨?_, fun i => .of_eq ?_, rfl, by simp⟩) ?_)
  · simp [List.replicate, S48, cI]
  · simp only [S48, H48]
    by_cases h1 : i < b
    · simp [h1, show ¬ (i = b) by omega]
    · by_cases h2 : i = b
      · subst h2; simp
      · have := hp i (by omega)
        simp [h1, h2, this]
  rintro x ⟨hx0, hx1, hxk, hxh, hxl⟩
  refine .seq (.seq (.reg ?_))
  simp [List.replicate, r48_2, S48_def _ _ _ _ _ x, cI]
  refine .cond (t := decide (x.t < to)) (by simp) (fun e1 => ?_) (fun e1 => ?_)
  · simp only [decide_eq_true_eq] at e1
    refine .skip ?_
    try simp
    refine .block (.seq (.reg ?_))
    simp [r48_3, cK, kcells]
    refine (due_st w q n s hs hn today x.t hd hd2 hx0 (by omega)).call ?_
    simp [H48_b1, Bn.cells]
    refine .seq (.seq (.reg ?_))
    simp [r48_4]
    have hgt := dfind_gt w q n today x.t hx0 (by omega) 3 (by omega)
    have hgt1 : x.t < (due w q n today x.t).b := hgt.1
    have hgt2 : (due w q n today x.t).b ≤ 1402560 := hgt.2
    obtain ⟨xk, xt, xrF, xrT, xl, xe, xh⟩ := x
    simp only at *
    obtain ⟨k, rfl⟩ : ∃ k, xk = k + 1 := ⟨xk - 1, by omega⟩
    refine .cond (t := decide ((due w q n today xt).l = 0)) (by simp) (fun e2 => ?_) (fun e2 => ?_)
    · simp only [decide_eq_true_eq] at e2
      refine .reg ?_
      simp [r48_5, H48_b]
      refine .reg ?_
      simp [r48_8]
      refine ⟨⟨k, (due w q n today xt).b, xrF, min (due w q n today xt).b to, xl, xe + 1, xh⟩, ⟨by simp only; omega, by simp only; omega, by simp only; omega, hxh, ?_⟩, by simp only; omega, .of_sub ⟨?_, fun i => ?_, rfl, by simp⟩⟩
      · rw [← hxl]; simp only [bsq, if_pos e1, if_pos e2]
      · simp [List.replicate, S48]
      · simp only [S48, H48, hset]
        by_cases h2 : i = b
        · subst h2; exact .of_eq (by simp)
        by_cases h3 : i = b + 1
        · subst h3; exact .inl (by simp only [if_neg (show ¬ (b + 1 < b) by omega), if_neg (show ¬ (b + 1 = b) by omega), if_true]; rfl)
        exact .of_eq (by simp [h2, h3])
    · simp only [decide_eq_false_iff_not] at e2
      refine .seq (.seq (.reg ?_))
      by_cases e3 : xrF < xrT
      · simp [r48_6, H48_b, H48_b1, e3]
        refine ⟨fun _ => ⟨by simp, (C.round xl ⟨0, xrF, xrT⟩ _ (.raw _ _) (C.loc _ xh _ (fun i hi => by simp [H48, hi, show ¬ (i = b + 1) by omega]) hxh)).mono ?_⟩, fun e => by cases e⟩
        rintro v h' (⟨rfl, hlo, hhi⟩ | ⟨rfl, hX⟩)
        · have hb0 := hhi b (Nat.le_refl _)
          have hb1 := hhi (b + 1) (by omega)
          simp [H48_b] at hb0 hb1
          simp [hb0, hb1]
          refine ⟨fun _ => ⟨by simp, (C.round (xl ++ [⟨0, xrF, xrT⟩]) (due w q n today xt) _ (.due w q n today xt hx0 (by omega)) hlo).mono ?_⟩, fun e => by cases e⟩
          rintro v h2' (⟨rfl, hlo2, hhi2⟩ | ⟨rfl, hX⟩)
          · have hc0 := hhi2 b (Nat.le_refl _)
            have hc1 := hhi2 (b + 1) (by omega)
            rw [hb0] at hc0
            rw [hb1] at hc1
            simp
            refine .cond (t := false) (by simp) (fun e => by cases e) (fun _ => ?_)
            refine .skip ?_
            try simp
            refine .reg ?_
            simp [r48_7, hc0, hc1]
            refine .reg ?_
            simp [r48_8, hc1]
            refine ⟨⟨k, (due w q n today xt).b, (due w q n today xt).b, (due w q n today xt).b, xl ++ [⟨0, xrF, xrT⟩] ++ [due w q n today xt], xe + 1, h2'⟩, ⟨by simp only; omega, by simp only; omega, by simp only; omega, hlo2, ?_⟩, by simp only; omega, .of_sub ⟨?_, fun i => ?_, rfl, by simp⟩⟩
            · rw [← hxl]; simp only [bsq, if_pos e1, if_neg e2, if_pos e3]; simp
            · simp [List.replicate, S48]
            · simp only [S48, H48, hset]
              by_cases h2 : i = b
              · subst h2; exact .of_eq (by simp)
              by_cases h3 : i = b + 1
              · subst h3; exact .inl (by simp only [if_neg (show ¬ (b + 1 < b) by omega), if_neg (show ¬ (b + 1 = b) by omega), if_true, hc1]; rfl)
              by_cases h4 : i < b
              · exact .of_eq (by simp [h2, h4, show ¬ (i = b + 1) by omega])
              · exact .of_eq (by
                  have := (hhi2 i (by omega)).trans (hhi i (by omega))
                  simp [h2, h3, h4, this, H48])
          · simp
            refine .cond (t := true) (by simp) (fun _ => ?_) (fun e => by cases e)
            refine .ret ?_
            try simp only [athen, ablk]
            refine .here ?_ rfl ?_
            · simp [rs48]
            · exact .inr ⟨xl ++ [⟨0, xrF, xrT⟩], _, bsq (due w q n today) to k (due w q n today xt).b (due w q n today xt).b (due w q n today xt).b, (by rw [← hxl]; simp [bsq, e1, e2, e3]), hX⟩
        · simp [Req.fail]
          refine ⟨by split <;> first | rfl | (split <;> rfl), ?_⟩
          try simp
          refine .cond (t := true) (by simp) (fun _ => ?_) (fun e => by cases e)
          refine .ret ?_
          try simp only [athen, ablk]
          refine .here ?_ rfl ?_
          · simp [rs48]
          · exact .inr ⟨xl, _, due w q n today xt :: bsq (due w q n today) to k (due w q n today xt).b (due w q n today xt).b (due w q n today xt).b, (by rw [← hxl]; simp [bsq, e1, e2, e3]), hX⟩
      · simp [r48_6, H48_b, H48_b1, e3, Req.fail]
        try simp
        refine ⟨fun _ => ⟨by simp, (C.round xl (due w q n today xt) _ (.due w q n today xt hx0 (by omega)) (C.loc _ xh _ (fun i hi => by simp [H48, hi, show ¬ (i = b + 1) by omega]) hxh)).mono ?_⟩, fun e => by cases e⟩
        rintro v h2' (⟨rfl, hlo2, hhi2⟩ | ⟨rfl, hX⟩)
        · have hc0 := hhi2 b (Nat.le_refl _)
          have hc1 := hhi2 (b + 1) (by omega)
          simp [H48_b] at hc0 hc1
          simp
          refine .cond (t := false) (by simp) (fun e => by cases e) (fun _ => ?_)
          refine .skip ?_
          try simp
          refine .reg ?_
          simp [r48_7, hc0, hc1]
          refine .reg ?_
          simp [r48_8, hc1]
          refine ⟨⟨k, (due w q n today xt).b, (due w q n today xt).b, (due w q n today xt).b, xl ++ [due w q n today xt], xe + 1, h2'⟩, ⟨by simp only; omega, by simp only; omega, by simp only; omega, hlo2, ?_⟩, by simp only; omega, .of_sub ⟨?_, fun i => ?_, rfl, by simp⟩⟩
          · rw [← hxl]; simp only [bsq, if_pos e1, if_neg e2, if_neg e3]; simp
          · simp [List.replicate, S48]
          · simp only [S48, H48, hset]
            by_cases h2 : i = b
            · subst h2; exact .of_eq (by simp)
            by_cases h3 : i = b + 1
            · subst h3; exact .inl (by simp only [if_neg (show ¬ (b + 1 < b) by omega), if_neg (show ¬ (b + 1 = b) by omega), if_true, hc1]; rfl)
            by_cases h4 : i < b
            · exact .of_eq (by simp [h2, h4, show ¬ (i = b + 1) by omega])
            · exact .of_eq (by
                have := hhi2 i (by omega)
                simp [h2, h3, h4, this, H48])
        · simp
          refine .cond (t := true) (by simp) (fun _ => ?_) (fun e => by cases e)
          refine .ret ?_
          try simp only [athen, ablk]
          refine .here ?_ rfl ?_
          · simp [rs48]
          · exact .inr ⟨xl, _, bsq (due w q n today) to k (due w q n today xt).b (due w q n today xt).b (due w q n today xt).b, (by rw [← hxl]; simp [bsq, e1, e2, e3]), hX⟩
  · simp only [decide_eq_false_iff_not] at e1
    obtain ⟨xk, xt, xrF, xrT, xl, xe, xh⟩ := x
    simp only at *
    obtain ⟨k, rfl⟩ : ∃ k, xk = k + 1 := ⟨xk - 1, by omega⟩
    refine .exit ?_
    simp
    refine .seq (.reg ?_)
    simp [r48_9, H48_b]
    refine .cond (t := decide (xrF < xrT)) (by simp) (fun e2 => ?_) (fun e2 => ?_)
    · simp only [decide_eq_true_eq] at e2
      refine .reg ?_
      simp [r48_10, H48_b]
      refine (C.round xl ⟨0, xrF, xrT⟩ _ (.raw _ _) (C.loc _ xh _ (fun i hi => by simp [H48, hi]) hxh)).mono ?_
      rintro v h' (⟨rfl, hlo, hhi⟩ | ⟨rfl, hX⟩)
      · refine .norm ?_
        refine .here (by simp [rs48]) rfl (.inl ?_)
        rw [← hxl]
        simp only [bsq, if_neg e1, if_pos e2]
        exact hlo
      · refine .norm ?_
        exact .here (by simp [rs48]) rfl (.inr ⟨xl, _, [], (by rw [← hxl]; simp [bsq, e1, e2]), hX⟩)
    · simp only [decide_eq_false_iff_not] at e2
      refine .skip ?_
      refine .norm ?_
      refine .here (by simp [rs48]) rfl (.inl ?_)
      rw [← hxl]
      simp only [bsq, if_neg e1, if_neg e2, List.append_nil]
      exact C.loc _ xh _ (fun i hi => by simp [H48, hi]) hxh
end Go.Am
