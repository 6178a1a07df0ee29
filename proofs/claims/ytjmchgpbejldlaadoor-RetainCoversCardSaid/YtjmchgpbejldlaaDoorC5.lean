/- Part C5 of the proof that the last part closes: contracts of functions and plain lemmas. No condition. -/
import Derived.Test.YtjmchgpbejldlaaDoorC4
import Derived.Test.YtjmchgpbejldlaaDoorA4
set_option linter.unusedVariables false
set_option linter.unusedSimpArgs false
set_option maxRecDepth 8000
namespace Go.Am
open Go.Proofs
attribute [local simp] areg aop dreg dop AOp.req argv argU AOp.args uncAll AOp.unAll Req.val Req.when putT putH athen ablk reqBin reqInt gcond unc unv pickB ressOk ARes.ok retVal ARes.val cut inr AOp.quiet
attribute [local simp] noRef_int noRef_bool noRef_str noRef_nils noRef_agg noRef_tup noRef_slc noRef_fn
attribute [local simp] vsub_top VSub.refl TSub vsub_int
attribute [local simp] AObj.plain AObj.owned AObj.ep hset h0 reqLoad reqStore acells allOne AVal.one lay fills ldv fzv fzl fz1
attribute [local simp] nrF rg2 rg3 rg4 rg7
def rpush (t : Int) (d : Bn) (l : List Bn) : List Bn :=
  if l.length = 0 then [d] else
    let z := l.getD (l.length - 1) ⟨0, 0, 0⟩
    if d.l = z.l ∧ d.a = z.a ∧ d.b = z.b then l
    else if d.l = 0 ∧ z.l = 0 then l.dropLast ++ [⟨z.l, z.a, t + 1⟩] else l ++ [d]
def rdues (due : Int → Bn) (a : Int) : Nat → List Bn
  | 0 => []
  | k + 1 => rpush (a + k) (due (a + k)) (rdues due a k)
theorem rpush_len (t : Int) (d : Bn) (l : List Bn) : (rpush t d l).length ≤ l.length + 1 := by
  unfold rpush
  simp only
  split
  · rename_i h; simp [h]
  · split
    · omega
    · split
      · simp
        try omega
      · simp
theorem rdues_len (due : Int → Bn) (a : Int) : ∀ k, (rdues due a k).length ≤ k
  | 0 => by simp [rdues]
  | k + 1 => by
    have h1 := rdues_len due a k
    have h2 := rpush_len (a + k) (due (a + k)) (rdues due a k)
    simp only [rdues]; omega
noncomputable def rdueL (w : Lw) (q : Nat → Fz) (n : Nat) (g a b today : Int) : List Bn × Int :=
  if fst25 w q n g today ≠ 0 then ([], fst25 w q n g today) else if ival a b = false then ([], 3)
  else let l := rdues (fun t => rdl w q n g today t 4) a (b - a).toNat
    if 4000 < l.length then ([], 2) else (l, 0)
def outR (l : List Bn) : AVal := if l.length = 0 then .nils else .vec 5 l.length 0 l.length
def L11 (w : Lw) (q : Nat → Fz) (n : Nat) (g a b today : Int) (l : List Bn) (k : Nat) : ASt := ⟨.agg w.cells :: .slc 3 n (fun i => (q i).cells) :: .int .i64 g :: .agg [.int .i64 a, .int .i64 b] :: .int .i64 today :: .ptr 0 1 0 :: .top :: .top :: .ptr 1 1 0 :: .top :: .ptr 2 1 0 :: .top :: outR l :: .int .i64 (a + k) :: List.replicate 89 .top,
  hset (hset (hset (hset (hset (hset h0 0 (.box 1 w.cells)) 1 (.box 1 [.int .i64 a, .int .i64 b])) 2 (.box 1 [.nils, .int .i64 0])) 3 (.gone k)) 4 (.gone l.length)) 5 (if l.length = 0 then .gone 0 else .vec l.length 3 l.length (bcells l)), []⟩
set_option maxHeartbeats 4000000 in
theorem rdueL_st (w : Lw) (q : Nat → Fz) (n : Nat) (hn : n < 4611686018427387904) (g a b today : Int) :
    Still EE Tryd.prog 11 [.agg w.cells, .slc 3 n (fun i => (q i).cells), .int .i64 g, .agg [.int .i64 a, .int .i64 b], .int .i64 today] (.agg [sLB (rdueL w q n g a b today).1, .int .i64 (rdueL w q n g a b today).2]) := by
  refine Pure.still ?_ hEE (by simp [Lw.cells, -noRef_slc]) (by simp [nr_sLB])
  obtain ⟨c, hb, hc⟩ := ck11
  refine Pure.of (fn := Tryd.f11) rfl hb cr11 (hc 0) 98 rfl ?_
  have hf := rfirst_st w q n g today hn
  simp only [Lw.cells] at hf
  refine AW.sr (by simp [r11_0, Lw.cells]; rfl) ?_
  refine AW.sr (by simp [r11_1]; refine hf.call ?_; (try simp); rfl) ?_
  refine AW.seq (AW.sr (by simp [r11_2]; rfl) ?_)
  refine AW.if' (decide (fst25 w q n g today ≠ 0)) (by simp) (fun e => ?_) (fun e => AW.sk ?_)
  · simp only [decide_eq_true_eq] at e
    refine AW.sr (by simp [r11_3]; rfl) ?_
    refine .retp (rs := rs11) rfl ?_ ?_ <;> simp [rs11, rdueL, e, sLB]
  simp only [decide_eq_false_iff_not, Classical.not_not] at e
  refine AW.seq (AW.sr (by simp [r11_4]; rfl) ?_)
  refine AW.if' (!ival a b) (by simp [ival, ← Int.not_lt]) (fun e1 => ?_) (fun e1 => AW.sk ?_)
  · have e1' : ival a b = false := by simpa using e1
    refine AW.sr (by simp [r11_5]; rfl) ?_
    refine .retp (rs := rs11) rfl ?_ ?_ <;> simp [rs11, rdueL, e, e1', sLB]
  have e1' : ival a b = true := by simpa using e1
  refine AW.sr (by simp [r11_6]; rfl) ?_
  refine AW.seq (AW.sr (by simp [r11_7]; rfl) ?_)
  have hi : 0 ≤ a ∧ a ≤ b ∧ b ≤ 1402560 := by simp [ival] at e1'; omega
  have hz := fst25_zero e
  refine .block (.loop (fun k : Nat => L11 w q n g a b today (rdues (fun t => rdl w q n g today t 4) a k) k) (fun k => (b - a).toNat - k) (fun k => k ≤ (b - a).toNat) 0 (by omega) (.of_sub ⟨?_, fun i => ?_, rfl, by simp⟩) ?_)
  · simp [List.replicate, L11, Lw.cells, rdues, outR]
  · simp only [L11, hset, rdues]
    by_cases h5 : i = 5
    · subst h5; exact .of_eq (by simp)
    by_cases h4 : i = 4
    · subst h4; exact .of_eq (by simp)
    by_cases h3 : i = 3
    · subst h3; exact .of_eq (by simp)
    exact .of_eq (by simp [h3, h4, h5, Lw.cells])
  intro k hk
  have hlen := rdues_len (fun t => rdl w q n g today t 4) a k
  have hsuc : rdues (fun t => rdl w q n g today t 4) a (k + 1) = rpush (a + k) (rdl w q n g today (a + k) 4) (rdues (fun t => rdl w q n g today t 4) a k) := rfl
  have hend : k = (b - a).toNat → rdues (fun t => rdl w q n g today t 4) a (b - a).toNat = rdues (fun t => rdl w q n g today t 4) a k := fun e => by rw [e]
  generalize rdues (fun t => rdl w q n g today t 4) a k = l at hlen hsuc hend ⊢
  refine AW.seq (AW.sr (by simp [List.replicate, r11_8, L11]; rfl) ?_)
  refine AW.if' (decide (a + k < b)) (by simp) (fun e2 => AW.sk ?_) (fun e2 => ?_)
  · simp only [decide_eq_true_eq] at e2
    have hdu := rdue_st w q n g (a + k) today hn (by omega) (by omega) (by omega) (by omega)
    generalize rdl w q n g today (a + k) 4 = d at hsuc hdu
    simp only [Lw.cells, Bn.cells] at hdu
    refine .seq (.block (AW.sr (by simp [r11_10, Lw.cells]; refine hdu.call ?_; (try simp); rfl) ?_))
    by_cases hl : l.length = 0
    · have ho : outR l = .nils := by simp [outR, hl]
      refine AW.sr (by simp [r11_11, ho]; rfl) ?_
      refine AW.seq (AW.sd (by simp [r11_12, Req.fail]; exact ⟨by kernel_rfl, rfl⟩) ?_)
      refine AW.if' false rfl (fun e3 => by cases e3) (fun e3 => AW.sk ?_)
      refine AW.seq (AW.sr (by simp [r11_13, Req.fail]; rfl) ?_)
      refine AW.if' false rfl (fun e3 => by cases e3) (fun e3 => AW.sk ?_)
      obtain rfl : l = [] := List.eq_nil_of_length_eq_zero hl
      refine AW.r1 (by simp [r11_15, reqAppend, srcOf, elemsOf]; rfl) ?_
      refine AW.r1 (by simp [r11_9]; exact ⟨by omega, rfl⟩) ?_
      refine ⟨k + 1, by omega, by omega, .of_sub ⟨?_, fun i => ?_, rfl, by simp⟩⟩
      · rw [hsuc]
        simp [rpush, outR, L11, List.replicate, Lw.cells]
        try omega
      · rw [hsuc]
        simp only [hset, L11]
        by_cases h5 : i = 5
        · subst h5
          refine .inr (.inr ⟨1, 3, 1, _, bcells [d], rfl, by simp [rpush], fun j hj => ?_⟩)
          obtain rfl : j = 0 := by omega
          simp [rpush, bcells, Bn.cells]
        by_cases h4 : i = 4
        · subst h4; exact .inl (by simp [rpush])
        by_cases h3 : i = 3
        · subst h3; exact .inl (by simp)
        exact .of_eq (by simp [h3, h4, h5, Lw.cells])
    · have ho : outR l = .vec 5 l.length 0 l.length := by simp [outR, hl]
      have hlp : 0 < l.length := by omega
      have hln : ¬ (l = []) := fun e => hl (by simp [e])
      obtain ⟨z, hz⟩ : ∃ z, l.getD (l.length - 1) ⟨0, 0, 0⟩ = z := ⟨_, rfl⟩
      have hzc : bcells l (l.length - 1) = z.cells := by simp only [bcells, hz]
      have hmx : max 0 ((l.length : Int) - 1) = (l.length : Int) - 1 := by omega
      have htn : ((l.length : Int) - 1).toNat = l.length - 1 := by omega
      refine AW.sr (by simp [r11_11, ho, hln]; rfl) ?_
      refine AW.seq (AW.sd (by simp [r11_12, hln, hlp, hmx, htn, hzc, Bn.cells, eqCells, AVal.kind, -Bool.decide_and]; (repeat' apply And.intro) <;> first | omega | exact rfl | kernel_rfl) ?_)
      refine AW.if' (decide (d.l = z.l ∧ d.a = z.a ∧ d.b = z.b)) (by simp) (fun e3 => .exit ?_) (fun e3 => AW.sk ?_)
      · simp only [decide_eq_true_eq] at e3
        have hp : rdues (fun t => rdl w q n g today t 4) a (k + 1) = l := by rw [hsuc, rpush, if_neg hl]; simp only [hz]; rw [if_pos e3]
        refine AW.r1 (by simp [r11_9]; exact ⟨by omega, rfl⟩) ?_
        refine ⟨k + 1, by omega, by omega, .of_sub ⟨?_, fun i => ?_, rfl, by simp⟩⟩
        · rw [hp]
          simp [ho, L11, List.replicate, Lw.cells]
          try omega
        · rw [hp]
          simp only [hset, L11]
          by_cases h5 : i = 5
          · subst h5; exact .of_eq (by simp [hln])
          by_cases h4 : i = 4
          · subst h4; exact .inl (by simp)
          by_cases h3 : i = 3
          · subst h3; exact .inl (by simp)
          exact .of_eq (by simp [h3, h4, h5, Lw.cells])
      simp only [decide_eq_false_iff_not] at e3
      refine AW.seq (AW.sr (by simp [r11_13, hln, hlp, hmx, htn, hzc, Bn.cells, -Bool.decide_and]; (repeat' apply And.intro) <;> first | omega | exact rfl | kernel_rfl) ?_)
      refine AW.if' (decide (d.l = 0 ∧ z.l = 0)) (by simp) (fun e4 => ?_) (fun e4 => AW.sk ?_)
      · simp only [decide_eq_true_eq] at e4
        have hp : rdues (fun t => rdl w q n g today t 4) a (k + 1) = l.dropLast ++ [⟨z.l, z.a, a + k + 1⟩] := by rw [hsuc, rpush, if_neg hl]; simp only [hz]; rw [if_neg e3, if_pos e4]
        have hpl : (l.dropLast ++ [(⟨z.l, z.a, a + k + 1⟩ : Bn)]).length = l.length := by simp; omega
        have hpn : ¬ (l.dropLast ++ [(⟨z.l, z.a, a + k + 1⟩ : Bn)] = []) := by simp
        refine AW.sr (by simp [r11_14, hln, hlp, hmx, htn, hzc, Bn.cells]; (repeat' apply And.intro) <;> first | omega | exact rfl | kernel_rfl) (.exit ?_)
        refine AW.r1 (by simp [r11_9]; exact ⟨by omega, rfl⟩) ?_
        refine ⟨k + 1, by omega, by omega, .of_sub ⟨?_, fun i => ?_, rfl, by simp⟩⟩
        · rw [hp]
          simp [outR, hpl, L11, List.replicate, Lw.cells, hln]
          omega
        · rw [hp]
          simp only [hset, L11, hpl]
          by_cases h5 : i = 5
          · subst h5
            refine .inr (.inr ⟨l.length, 3, l.length, _, bcells (l.dropLast ++ [(⟨z.l, z.a, a + k + 1⟩ : Bn)]), rfl, by simp [hl, -List.length_eq_zero_iff], fun j hj => ?_⟩)
            show _ = if j = l.length - 1 then _ else _
            have hdl : l.dropLast.length = l.length - 1 := List.length_dropLast
            by_cases hj' : j = l.length - 1
            · subst hj'
              simp [bcells, Bn.cells]
            · have : l[j]? = some l[j] := List.getElem?_eq_getElem hj
              simp [bcells, Bn.cells, hj', List.getElem?_append, show j < l.length - 1 by omega, List.getElem?_dropLast]
              rw [List.getElem?_eq_getElem hj]; simp
          by_cases h4 : i = 4
          · subst h4; exact .inl (by simp)
          by_cases h3 : i = 3
          · subst h3; exact .inl (by simp)
          exact .of_eq (by simp [h3, h4, h5, Lw.cells])
      · simp only [decide_eq_false_iff_not] at e4
        have hp : rdues (fun t => rdl w q n g today t 4) a (k + 1) = l ++ [d] := by rw [hsuc, rpush, if_neg hl]; simp only [hz]; rw [if_neg e3, if_neg e4]
        have hpn : ¬ (l ++ [d] = []) := by simp
        refine AW.r1 (by simp [r11_15, hln, reqAppend, srcOf, elemsOf]; (repeat' apply And.intro) <;> first | omega | exact rfl | kernel_rfl) ?_
        refine AW.r1 (by simp [r11_9]; exact ⟨by omega, rfl⟩) ?_
        refine ⟨k + 1, by omega, by omega, .of_sub ⟨?_, fun i => ?_, rfl, by simp⟩⟩
        · rw [hp]
          simp [outR, L11, List.replicate, Lw.cells]
          try omega
        · rw [hp]
          simp only [hset, L11]
          by_cases h5 : i = 5
          · subst h5
            refine .inr (.inr ⟨l.length + 1, 3, l.length + 1, _, bcells (l ++ [d]), rfl, by simp, fun j hj => ?_⟩)
            by_cases hj' : j < l.length
            · simp [hj', bcells, List.getElem?_append]
            · obtain rfl : j = l.length := by omega
              simp [bcells, Bn.cells]
          by_cases h4 : i = 4
          · subst h4; exact .inl (by simp)
          by_cases h3 : i = 3
          · subst h3; exact .inl (by simp)
          exact .of_eq (by simp [h3, h4, h5, Lw.cells])
  · simp only [decide_eq_false_iff_not] at e2
    obtain rfl : k = (b - a).toNat := by omega
    have hend := hend rfl
    have hd : rdueL w q n g a b today = if 4000 < l.length then ([], 2) else (l, 0) := by rw [← hend]; simp [rdueL, e, e1']
    refine .exit ?_
    by_cases hl : l.length = 0
    · obtain rfl : l = [] := List.eq_nil_of_length_eq_zero hl
      refine AW.seq (AW.sr (by simp [r11_16, outR]; rfl) ?_)
      refine AW.if' false rfl (fun e3 => by cases e3) (fun e3 => AW.sk ?_)
      refine AW.sr (by simp [r11_18, outR]; rfl) ?_
      refine .retp (rs := rs11) rfl ?_ ?_ <;> simp [rs11, hd, sLB]
    · have ho : outR l = .vec 5 l.length 0 l.length := by simp [outR, hl]
      have hln : ¬ (l = []) := fun e => hl (by simp [e])
      refine AW.seq (AW.sr (by simp [r11_16, ho, hln]; rfl) ?_)
      refine AW.if' (decide (4000 < l.length)) (by simp; omega) (fun e3 => ?_) (fun e3 => AW.sk ?_)
      · have e3 : 4000 < l.length := by simpa using e3
        refine AW.sr (by simp [r11_17]; rfl) ?_
        refine .retp (rs := rs11) rfl ?_ ?_ <;> simp [rs11, hd, e3, sLB]
      · have e3 : ¬ 4000 < l.length := by simpa using e3
        refine .fz 5 (by simp [hln]) (by simp [hln]) ?_
        simp only [hln, fzl, fzv, fz1]
        refine AW.sr (by simp [r11_18, ho, hln]; rfl) ?_
        refine .retp (rs := rs11) rfl ?_ ?_ <;> simp [rs11, hd, e3, sLB, hln]
end Go.Am
set_option linter.unusedVariables false
set_option linter.unusedSimpArgs false
set_option maxRecDepth 8000
namespace Go.Am
open Go.Proofs
attribute [local simp] areg aop dreg dop AOp.req argv argU AOp.args uncAll AOp.unAll Req.val Req.when putT putH athen ablk reqBin reqInt gcond unc unv pickB ressOk ARes.ok retVal ARes.val cut inr AOp.quiet
attribute [local simp] noRef_int noRef_bool noRef_str noRef_nils noRef_agg noRef_tup noRef_slc noRef_fn
attribute [local simp] vsub_top VSub.refl TSub vsub_int
attribute [local simp] AObj.plain AObj.owned AObj.ep hset h0 reqLoad reqStore acells allOne lay fills ldv fzv fzl fz1
attribute [local simp] nrF rg2 rg3 rg4 rg7
theorem one_sLB (l : List Bn) : (sLB l).one = true := by unfold sLB; split <;> rfl
attribute [local simp] one_sLB AVal.one_int AVal.one_bool AVal.one_str AVal.one_nils AVal.one_slc AVal.one_vec AVal.one_ptr AVal.one_eptr AVal.one_cptr AVal.one_nilp AVal.one_fn AVal.one_nilfn AVal.one_mp AVal.one_nilmp
noncomputable def npush (o d : Bn) (l : List Bn) : List Bn :=
  if d.l = 0 then l else
    let z := l.getD (l.length - 1) ⟨0, 0, 0⟩
    if 0 < l.length ∧ d.l = z.l ∧ d.a = z.a ∧ d.b = z.b then l
    else if o.l = d.l ∧ o.a = d.a ∧ o.b = d.b then l else l ++ [d]
noncomputable def rnews (old due : Int → Bn) (a : Int) : Nat → List Bn
  | 0 => []
  | k + 1 => npush (old (a + k)) (due (a + k)) (rnews old due a k)
theorem npush_len (o d : Bn) (l : List Bn) : (npush o d l).length ≤ l.length + 1 := by
  unfold npush
  simp only
  split
  · omega
  · split
    · omega
    · split
      · omega
      · simp
theorem rnews_len (old due : Int → Bn) (a : Int) : ∀ k, (rnews old due a k).length ≤ k
  | 0 => by simp [rnews]
  | k + 1 => by
    have h1 := rnews_len old due a k
    have h2 := npush_len (old (a + k)) (due (a + k)) (rnews old due a k)
    simp only [rnews]; omega
noncomputable def rnewL (w : Lw) (q : Nat → Fz) (n : Nat) (g a b before today : Int) : List Bn × Int :=
  if (rdueL w q n g a b before).2 ≠ 0 ∧ (rdueL w q n g a b before).2 ≠ 2 then rdueL w q n g a b before
  else if fst25 w q n g today ≠ 0 then ([], fst25 w q n g today)
  else let l := rnews (fun t => rdl w q n g before t 4) (fun t => rdl w q n g today t 4) a (b - a).toNat
    if 4000 < l.length then ([], 2) else (l, 0)
theorem fst25_range (w : Lw) (q : Nat → Fz) (n : Nat) (g today : Int) : fst25 w q n g today = chk w q n ∨ chk w q n = 0 ∧ fst25 w q n g today = 3 := by
  unfold fst25; split
  · exact .inl rfl
  · rename_i h
    have h : chk w q n = 0 := Classical.not_not.1 h
    split
    · exact .inr ⟨h, rfl⟩
    · exact .inl h.symm
theorem rnew_pre {w : Lw} {q : Nat → Fz} {n : Nat} {g a b before today : Int} (h : ¬ ((rdueL w q n g a b before).2 ≠ 0 ∧ (rdueL w q n g a b before).2 ≠ 2)) (h1 : fst25 w q n g today = 0) :
    fst25 w q n g before = 0 ∧ ival a b = true := by
  have hc : chk w q n = 0 := by
    rcases fst25_range w q n g today with e | ⟨e, e'⟩
    · rw [← e]; exact h1
    · exact e
  have hb : fst25 w q n g before = 0 ∨ fst25 w q n g before = 3 := by
    rcases fst25_range w q n g before with e | ⟨e, e'⟩
    · exact .inl (e.trans hc)
    · exact .inr e'
  unfold rdueL at h
  rcases hb with e | e
  · refine ⟨e, ?_⟩
    cases hi : ival a b
    · exfalso; apply h; simp [e, hi]
    · rfl
  · exfalso; apply h; simp [e]
def outN (l : List Bn) : AVal := if l.length = 0 then .nils else .vec 6 l.length 0 l.length
def L12 (w : Lw) (q : Nat → Fz) (n : Nat) (g a b before today : Int) (A : List Bn × Int) (l : List Bn) (k : Nat) : ASt := ⟨.agg w.cells :: .slc 3 n (fun i => (q i).cells) :: .int .i64 g :: .agg [.int .i64 a, .int .i64 b] :: .int .i64 before :: .int .i64 today :: .ptr 0 1 0 :: .top :: .top :: .ptr 1 1 0 :: .top :: .top :: .ptr 2 1 0 :: .top :: .top :: outN l :: .int .i64 (a + k) :: List.replicate 79 .top,
  hset (hset (hset (hset (hset (hset (hset h0 0 (.box 1 w.cells)) 1 (.box 1 [.int .i64 a, .int .i64 b])) 2 (.box 1 [.nils, .int .i64 0])) 3 (.box 1 [sLB A.1, .int .i64 A.2])) 4 (.gone k)) 5 (.gone l.length)) 6 (if l.length = 0 then .gone 0 else .vec l.length 3 l.length (bcells l)), []⟩
set_option maxHeartbeats 8000000 in
theorem rnewL_st (w : Lw) (q : Nat → Fz) (n : Nat) (hn : n < 4611686018427387904) (g a b before today : Int) :
    Still EE Tryd.prog 12 [.agg w.cells, .slc 3 n (fun i => (q i).cells), .int .i64 g, .agg [.int .i64 a, .int .i64 b], .int .i64 before, .int .i64 today] (.agg [sLB (rnewL w q n g a b before today).1, .int .i64 (rnewL w q n g a b before today).2]) := by
  refine Pure.still ?_ hEE (by simp [Lw.cells, -noRef_slc]) (by simp [nr_sLB])
  obtain ⟨c, hb, hc⟩ := ck12
  refine Pure.of (fn := Tryd.f12) rfl hb cr12 (hc 0) 90 rfl ?_
  have hf := rfirst_st w q n g today hn
  have hD := rdueL_st w q n hn g a b before
  simp only [Lw.cells] at hf hD
  obtain ⟨A, hA⟩ : ∃ A, rdueL w q n g a b before = A := ⟨_, rfl⟩
  rw [hA] at hD
  refine AW.sr (by simp [r12_0, Lw.cells]; rfl) ?_
  refine AW.sr (by simp [r12_1]; refine hD.call ?_; (try simp); rfl) ?_
  refine AW.seq (AW.sr (by simp [r12_2]; rfl) ?_)
  refine AW.if' (decide (A.2 ≠ 0 ∧ A.2 ≠ 2)) (by simp) (fun e => ?_) (fun e => AW.sk ?_)
  · simp only [decide_eq_true_eq] at e
    refine AW.sr (by simp [r12_3]; rfl) ?_
    have hr : rnewL w q n g a b before today = A := by unfold rnewL; rw [hA, if_pos e]
    refine .retp (rs := rs12) rfl ?_ ?_ <;> simp [rs12, hr]
  simp only [decide_eq_false_iff_not] at e
  refine AW.sr (by simp [r12_4]; refine hf.call ?_; (try simp); rfl) ?_
  refine AW.seq (AW.sr (by simp [r12_5]; rfl) ?_)
  refine AW.if' (decide (fst25 w q n g today ≠ 0)) (by simp) (fun e1 => ?_) (fun e1 => AW.sk ?_)
  · simp only [decide_eq_true_eq] at e1
    refine AW.sr (by simp [r12_6]; rfl) ?_
    have hr : rnewL w q n g a b before today = ([], fst25 w q n g today) := by unfold rnewL; rw [hA, if_neg e, if_pos e1]
    refine .retp (rs := rs12) rfl ?_ ?_ <;> simp [rs12, hr, sLB]
  simp only [decide_eq_false_iff_not, Classical.not_not] at e1
  obtain ⟨e0, e2'⟩ := rnew_pre (hA ▸ e) e1
  refine AW.sr (by simp [r12_7]; rfl) ?_
  refine AW.seq (AW.sr (by simp [r12_8]; rfl) ?_)
  have hi : 0 ≤ a ∧ a ≤ b ∧ b ≤ 1402560 := by simp [ival] at e2'; omega
  have hz := fst25_zero e1
  have hz0 := fst25_zero e0
  refine .block (.loop (fun k : Nat => L12 w q n g a b before today A (rnews (fun t => rdl w q n g before t 4) (fun t => rdl w q n g today t 4) a k) k) (fun k => (b - a).toNat - k) (fun k => k ≤ (b - a).toNat) 0 (by omega) (.of_sub ⟨?_, fun i => ?_, rfl, by simp⟩) ?_)
  · simp [List.replicate, L12, Lw.cells, rnews, outN]
  · simp only [L12, hset, rnews]
    by_cases h6 : i = 6
    · subst h6; exact .of_eq (by simp)
    by_cases h5 : i = 5
    · subst h5; exact .of_eq (by simp)
    by_cases h4 : i = 4
    · subst h4; exact .of_eq (by simp)
    by_cases h3 : i = 3
    · subst h3; exact .of_eq (by simp)
    exact .of_eq (by simp [h3, h4, h5, h6, Lw.cells])
  intro k hk
  have hlen := rnews_len (fun t => rdl w q n g before t 4) (fun t => rdl w q n g today t 4) a k
  have hsuc : rnews (fun t => rdl w q n g before t 4) (fun t => rdl w q n g today t 4) a (k + 1) = npush (rdl w q n g before (a + k) 4) (rdl w q n g today (a + k) 4) (rnews (fun t => rdl w q n g before t 4) (fun t => rdl w q n g today t 4) a k) := rfl
  have hend : k = (b - a).toNat → rnews (fun t => rdl w q n g before t 4) (fun t => rdl w q n g today t 4) a (b - a).toNat = rnews (fun t => rdl w q n g before t 4) (fun t => rdl w q n g today t 4) a k := fun e => by rw [e]
  generalize rnews (fun t => rdl w q n g before t 4) (fun t => rdl w q n g today t 4) a k = l at hlen hsuc hend ⊢
  refine AW.seq (AW.sr (by simp [List.replicate, r12_9, L12]; rfl) ?_)
  refine AW.if' (decide (a + k < b)) (by simp) (fun e2 => AW.sk ?_) (fun e2 => ?_)
  · simp only [decide_eq_true_eq] at e2
    have hdu := rdue_st w q n g (a + k) today hn (by omega) (by omega) (by omega) (by omega)
    have hdo := rdue_st w q n g (a + k) before hn (by omega) (by omega) (by omega) (by omega)
    generalize rdl w q n g today (a + k) 4 = d at hsuc hdu
    generalize rdl w q n g before (a + k) 4 = o at hsuc hdo
    simp only [Lw.cells, Bn.cells] at hdu hdo
    refine .seq (.block (AW.sr (by simp [r12_11, Lw.cells]; refine hdu.call ?_; (try simp); rfl) ?_))
    by_cases hl : l.length = 0
    · have ho : outN l = .nils := by simp [outN, hl]
      obtain rfl : l = [] := List.eq_nil_of_length_eq_zero hl
      refine AW.sr (by simp [r12_12, ho]; rfl) ?_
      refine AW.seq (AW.sd (by
        simp [r12_13, Req.fail, -Bool.decide_and]
        refine dgcall.pure _ ?_ (fun _ => hdo) ?_
        · simp
        simp [eqCells, AVal.kind, -Bool.decide_and]
        exact ⟨by kernel_rfl, rfl⟩) ?_)
      refine AW.if' (decide (d.l = 0 ∨ o.l = d.l ∧ o.a = d.a ∧ o.b = d.b)) (by simp) (fun e3 => .exit ?_) (fun e3 => AW.sk ?_)
      · simp only [decide_eq_true_eq] at e3
        have hp : rnews (fun t => rdl w q n g before t 4) (fun t => rdl w q n g today t 4) a (k + 1) = [] := by
          rw [hsuc, npush]; rcases e3 with e3 | e3
          · rw [if_pos e3]
          · by_cases h0 : d.l = 0 <;> simp [h0, e3]
        refine AW.r1 (by simp [r12_10]; exact ⟨by omega, rfl⟩) ?_
        refine ⟨k + 1, by omega, by omega, .of_sub ⟨?_, fun i => ?_, rfl, by simp⟩⟩
        · rw [hp]
          simp [outN, L12, List.replicate, Lw.cells]
          omega
        · rw [hp]
          simp only [hset, L12]
          by_cases h6 : i = 6
          · subst h6; exact .of_eq (by simp)
          by_cases h5 : i = 5
          · subst h5; exact .of_eq (by simp)
          by_cases h4 : i = 4
          · subst h4; exact .inl (by simp)
          exact .of_eq (by simp [h4, h5, h6, Lw.cells])
      · simp only [decide_eq_false_iff_not, not_or] at e3
        have hp : rnews (fun t => rdl w q n g before t 4) (fun t => rdl w q n g today t 4) a (k + 1) = [d] := by
          rw [hsuc, npush]; simp [e3.1, e3.2]
        refine AW.r1 (by simp [r12_14, reqAppend, srcOf, elemsOf]; rfl) ?_
        refine AW.r1 (by simp [r12_10]; exact ⟨by omega, rfl⟩) ?_
        refine ⟨k + 1, by omega, by omega, .of_sub ⟨?_, fun i => ?_, rfl, by simp⟩⟩
        · rw [hp]
          simp [outN, L12, List.replicate, Lw.cells]
          omega
        · rw [hp]
          simp only [hset, L12]
          by_cases h6 : i = 6
          · subst h6
            refine .inr (.inr ⟨1, 3, 1, _, bcells [d], rfl, by simp, fun j hj => ?_⟩)
            obtain rfl : j = 0 := by omega
            simp [bcells, Bn.cells]
          by_cases h5 : i = 5
          · subst h5; exact .inl (by simp)
          by_cases h4 : i = 4
          · subst h4; exact .inl (by simp)
          exact .of_eq (by simp [h4, h5, h6, Lw.cells])
    · have ho : outN l = .vec 6 l.length 0 l.length := by simp [outN, hl]
      have hlp : 0 < l.length := by omega
      have hln : ¬ (l = []) := fun e => hl (by simp [e])
      obtain ⟨z, hz⟩ : ∃ z, l.getD (l.length - 1) ⟨0, 0, 0⟩ = z := ⟨_, rfl⟩
      have hzc : bcells l (l.length - 1) = z.cells := by simp only [bcells, hz]
      have hmx : max 0 ((l.length : Int) - 1) = (l.length : Int) - 1 := by omega
      have htn : ((l.length : Int) - 1).toNat = l.length - 1 := by omega
      refine AW.sr (by simp [r12_12, ho, hln]; rfl) ?_
      refine AW.seq (AW.sd (by
        simp [r12_13, hln, hlp, hmx, htn, hzc, Bn.cells, eqCells, AVal.kind, -List.length_eq_zero_iff, -Bool.decide_and]
        refine ⟨fun _ => ⟨by omega, by omega⟩, fun _ => ⟨by omega, by omega⟩, fun _ => by omega, dgcall.pure _ ?_ (fun _ => hdo) ?_⟩
        · simp
        simp [eqCells, AVal.kind, -Bool.decide_and]
        exact ⟨fun h1 h2 _ _ => ⟨h1, h2⟩, by kernel_rfl, rfl⟩) ?_)
      refine AW.if' (decide (d.l = 0 ∨ (d.l = z.l ∧ d.a = z.a ∧ d.b = z.b) ∨ o.l = d.l ∧ o.a = d.a ∧ o.b = d.b)) (by simp [Bool.or_assoc]) (fun e3 => .exit ?_) (fun e3 => AW.sk ?_)
      · simp only [decide_eq_true_eq] at e3
        have hp : rnews (fun t => rdl w q n g before t 4) (fun t => rdl w q n g today t 4) a (k + 1) = l := by
          rw [hsuc, npush]; simp only [hz]
          rcases e3 with e3 | e3 | e3
          · rw [if_pos e3]
          · by_cases h0 : d.l = 0
            · rw [if_pos h0]
            · rw [if_neg h0, if_pos ⟨hlp, e3⟩]
          · by_cases h0 : d.l = 0
            · rw [if_pos h0]
            · rw [if_neg h0]
              split
              · rfl
              · first | rw [if_pos e3] | rfl
        refine AW.r1 (by simp [r12_10]; exact ⟨by omega, rfl⟩) ?_
        refine ⟨k + 1, by omega, by omega, .of_sub ⟨?_, fun i => ?_, rfl, by simp⟩⟩
        · rw [hp]
          simp [ho, L12, List.replicate, Lw.cells]
          omega
        · rw [hp]
          simp only [hset, L12]
          by_cases h6 : i = 6
          · subst h6; exact .of_eq (by simp [hln])
          by_cases h5 : i = 5
          · subst h5; exact .of_eq (by simp)
          by_cases h4 : i = 4
          · subst h4; exact .inl (by simp)
          exact .of_eq (by simp [h4, h5, h6, Lw.cells])
      · simp only [decide_eq_false_iff_not, not_or] at e3
        have hp : rnews (fun t => rdl w q n g before t 4) (fun t => rdl w q n g today t 4) a (k + 1) = l ++ [d] := by
          rw [hsuc, npush]; simp only [hz]
          rw [if_neg e3.1, if_neg (fun h => e3.2.1 h.2), if_neg e3.2.2]
        refine AW.r1 (by simp [r12_14, hln, reqAppend, srcOf, elemsOf]; (repeat' apply And.intro) <;> first | omega | exact rfl | kernel_rfl) ?_
        refine AW.r1 (by simp [r12_10]; exact ⟨by omega, rfl⟩) ?_
        refine ⟨k + 1, by omega, by omega, .of_sub ⟨?_, fun i => ?_, rfl, by simp⟩⟩
        · rw [hp]
          simp [outN, L12, List.replicate, Lw.cells]
          omega
        · rw [hp]
          simp only [hset, L12]
          by_cases h6 : i = 6
          · subst h6
            refine .inr (.inr ⟨l.length + 1, 3, l.length + 1, _, bcells (l ++ [d]), rfl, by simp, fun j hj => ?_⟩)
            by_cases hj' : j < l.length
            · simp [hj', bcells, List.getElem?_append]
            · obtain rfl : j = l.length := by omega
              simp [bcells, Bn.cells]
          by_cases h5 : i = 5
          · subst h5; exact .inl (by simp)
          by_cases h4 : i = 4
          · subst h4; exact .inl (by simp)
          exact .of_eq (by simp [h4, h5, h6, Lw.cells])
  · simp only [decide_eq_false_iff_not] at e2
    obtain rfl : k = (b - a).toNat := by omega
    have hend := hend rfl
    have hd : rnewL w q n g a b before today = if 4000 < l.length then ([], 2) else (l, 0) := by rw [← hend, rnewL, hA, if_neg e]; simp [e1]
    refine .exit ?_
    by_cases hl : l.length = 0
    · obtain rfl : l = [] := List.eq_nil_of_length_eq_zero hl
      refine AW.seq (AW.sr (by simp [r12_15, outN]; rfl) ?_)
      refine AW.if' false rfl (fun e3 => by cases e3) (fun e3 => AW.sk ?_)
      refine AW.sr (by simp [r12_17, outN]; rfl) ?_
      refine .retp (rs := rs12) rfl ?_ ?_ <;> simp [rs12, hd, sLB]
    · have ho : outN l = .vec 6 l.length 0 l.length := by simp [outN, hl]
      have hln : ¬ (l = []) := fun e => hl (by simp [e])
      refine AW.seq (AW.sr (by simp [r12_15, ho, hln]; rfl) ?_)
      refine AW.if' (decide (4000 < l.length)) (by simp; omega) (fun e3 => ?_) (fun e3 => AW.sk ?_)
      · have e3 : 4000 < l.length := by simpa using e3
        refine AW.sr (by simp [r12_16]; rfl) ?_
        refine .retp (rs := rs12) rfl ?_ ?_ <;> simp [rs12, hd, e3, sLB]
      · have e3 : ¬ 4000 < l.length := by simpa using e3
        refine .fz 6 (by simp [hln]) (by simp [hln]) ?_
        simp only [hln, fzl, fzv, fz1]
        refine AW.sr (by simp [r12_17, ho, hln]; rfl) ?_
        refine .retp (rs := rs12) rfl ?_ ?_ <;> simp [rs12, hd, e3, sLB, hln]
end Go.Am
