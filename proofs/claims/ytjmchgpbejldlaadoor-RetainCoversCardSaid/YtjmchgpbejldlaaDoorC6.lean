/- Part C6 of the proof that the last part closes: contracts of functions and plain lemmas. No condition. -/
import Derived.Test.YtjmchgpbejldlaaDoorC5
import Derived.Test.YtjmchgpbejldlaaDoorC2
import Derived.Test.YtjmchgpbejldlaaDoorC3
set_option linter.unusedVariables false
set_option linter.unusedSimpArgs false
set_option maxRecDepth 8000
namespace Go.Am
open Go.Proofs
attribute [local simp] areg aop dreg dop AOp.req argv argU AOp.args uncAll AOp.unAll Req.val Req.when putT putH athen ablk reqBin reqInt gcond unc unv pickB ressOk ARes.ok retVal ARes.val cut inr AOp.quiet
attribute [local simp] noRef_int noRef_bool noRef_str noRef_nils noRef_agg noRef_tup noRef_slc noRef_fn
attribute [local simp] vsub_top VSub.refl TSub vsub_int
attribute [local simp] AObj.plain AObj.owned AObj.ep hset h0 reqLoad reqStore acells allOne AVal.one lay fills ldv fzv fzl fz1
attribute [local simp] nrF rg2 rg3 rg4 rg7
theorem Bn.ext {x y : Bn} (a : x.l = y.l) (b : x.a = y.a) (c : x.b = y.b) : x = y := by
  cases x; cases y; simp at a b c; simp [a, b, c]
instance : DecidableEq Bn := fun x y =>
  if h : x.l = y.l ∧ x.a = y.a ∧ x.b = y.b then isTrue (Bn.ext h.1 h.2.1 h.2.2) else isFalse fun e => h (by subst e; exact ⟨rfl, rfl, rfl⟩)
def L15 (l m : List Bn) (k : Nat) : ASt := ⟨sLB l :: sLB m :: .top :: .top :: .top :: .int .i64 k :: List.replicate 20 .top, h0, []⟩
theorem same06_st (l m : List Bn) (hl : l.length < 4611686018427387904) : Still EE Tryd.prog 15 [sLB l, sLB m] (.bool (decide (l = m))) := by
  refine Pure.still ?_ hEE (by simp [nr_sLB]) (by simp)
  obtain ⟨c, hb, hc⟩ := ck15
  refine Pure.of (fn := Tryd.f15) rfl hb cr15 (hc 0) 24 rfl ?_
  refine AW.sr (by simp [r15_0]; rfl) ?_
  refine AW.seq (AW.sr (S1 := ⟨sLB l :: sLB m :: .top :: .top :: .bool false :: .top :: sLB l :: .int .i64 l.length :: sLB m :: .int .i64 m.length :: .bool (!decide (l.length = m.length)) :: List.replicate 15 .top, h0, []⟩) (by
    by_cases h1 : l.length = 0 <;> by_cases h2 : m.length = 0 <;> simp [r15_1, sLB, h1, h2, List.replicate, -List.length_eq_zero_iff] <;> omega) ?_)
  refine AW.if' (!decide (l.length = m.length)) rfl (fun e => ?_) (fun e => AW.sk ?_)
  · have e : ¬ l.length = m.length := by simpa using e
    refine AW.sr (by simp [r15_2]; rfl) ?_
    have : ¬ l = m := fun h => e (by rw [h])
    refine .retp (rs := rs15) rfl ?_ ?_ <;> simp [rs15, this]
  have e : l.length = m.length := by simpa using e
  refine AW.seq (AW.sr (by simp [r15_3]; rfl) ?_)
  refine .block (.loop (fun k : Nat => L15 l m k) (fun k => l.length - k) (fun k => k ≤ l.length ∧ ∀ j, j < k → l.getD j ⟨0, 0, 0⟩ = m.getD j ⟨0, 0, 0⟩) 0 ⟨by omega, fun j hj => by omega⟩ (.of_sub ⟨?_, fun i => ?_, rfl, by simp⟩) ?_)
  · simp [L15, List.replicate]
  · exact .refl _
  rintro k ⟨hk, hlo⟩
  have hsl : ∀ l : List Bn, k < l.length → sLB l = .slc 3 l.length (bcells l) := fun l h => by simp [sLB]; intro e; simp [e] at h
  refine AW.seq (AW.sr (S1 := ⟨sLB l :: sLB m :: .top :: .top :: .top :: .int .i64 k :: .top :: .top :: .top :: .top :: .top :: .int .i64 k :: sLB l :: .int .i64 l.length :: .bool (decide (k < l.length)) :: List.replicate 11 .top, h0, []⟩) (by
    by_cases h1 : l.length = 0 <;> simp [r15_4, L15, sLB, h1, List.replicate, -List.length_eq_zero_iff]) ?_)
  refine AW.if' (decide (k < l.length)) rfl (fun e2 => AW.sk ?_) (fun e2 => ?_)
  · simp only [decide_eq_true_eq] at e2
    rw [hsl l e2, hsl m (by omega)]
    obtain ⟨x, hx⟩ : ∃ x, l.getD k ⟨0, 0, 0⟩ = x := ⟨_, rfl⟩
    obtain ⟨y, hy⟩ : ∃ y, m.getD k ⟨0, 0, 0⟩ = y := ⟨_, rfl⟩
    have hxc : bcells l k = x.cells := by simp only [bcells, hx]
    have hyc : bcells m k = y.cells := by simp only [bcells, hy]
    refine .seq (.block (AW.sd (by
      simp [r15_6, List.replicate, e2, ← e, hxc, hyc, Bn.cells, eqCells, AVal.kind, -Bool.decide_and]
      exact ⟨by kernel_rfl, rfl⟩) ?_))
    have hxy : x = y ↔ x.l = y.l ∧ x.a = y.a ∧ x.b = y.b := ⟨fun h => by subst h; exact ⟨rfl, rfl, rfl⟩, fun h => Bn.ext h.1 h.2.1 h.2.2⟩
    refine AW.if' (decide (¬ x = y)) (by simp [hxy]) (fun e3 => ?_) (fun e3 => AW.skip ?_)
    · simp only [decide_eq_true_eq] at e3
      refine AW.sr (by simp [r15_7]; rfl) ?_
      have : ¬ l = m := fun h => e3 (by rw [← hx, ← hy, h])
      refine .retp (rs := rs15) rfl ?_ ?_ <;> simp [rs15, this]
    · simp only [decide_eq_false_iff_not, Classical.not_not] at e3
      refine AW.r1 (by simp [r15_5]; exact ⟨by omega, rfl⟩) ?_
      refine ⟨k + 1, ⟨by omega, fun j hj => ?_⟩, by omega, .of_sub ⟨?_, fun i => .refl _, rfl, by simp⟩⟩
      · by_cases h : j = k
        · subst h; rw [hx, hy, e3]
        · exact hlo j (by omega)
      · simp [L15, List.replicate, hsl l e2, hsl m (by omega), ← e]
  · simp only [decide_eq_false_iff_not] at e2
    refine .exit ?_
    refine AW.sr (by simp [r15_8]; rfl) ?_
    have : l = m := by
      refine List.ext_getElem e fun i h1 h2 => ?_
      have := hlo i (by omega)
      simpa [h1, h2] using this
    refine .retp (rs := rs15) rfl ?_ ?_ <;> simp [rs15, this]
end Go.Am
set_option linter.unusedVariables false
set_option linter.unusedSimpArgs false
set_option maxRecDepth 8000
namespace Go.Am
open Go.Proofs
attribute [local simp] areg aop dreg dop AOp.req argv argU AOp.args uncAll AOp.unAll Req.val Req.when putT putH athen ablk reqBin reqInt gcond pickB ressOk ARes.ok retVal ARes.val cut inr AOp.quiet
attribute [local simp] noRef_int noRef_bool noRef_str noRef_nils noRef_agg noRef_tup noRef_slc noRef_fn
attribute [local simp] vsub_top VSub.refl TSub vsub_int
attribute [local simp] AObj.plain AObj.owned AObj.ep hset h0 reqLoad reqStore acells allOne lay fills ldv fzv fzl fz1
attribute [local simp] nrF rg2 rg3 rg4 rg7
theorem unv_sLB (l : List Bn) : unv (sLB l) = sLB l := by unfold sLB; split <;> rfl
theorem unc_sLB (c : Bool) (l : List Bn) : unc c (sLB l) = True := by unfold sLB; split <;> rfl
attribute [local simp] unv_sLB unc_sLB one_sLB AVal.one_int AVal.one_bool AVal.one_str AVal.one_nils AVal.one_slc AVal.one_vec AVal.one_ptr AVal.one_eptr AVal.one_cptr AVal.one_nilp AVal.one_fn AVal.one_nilfn AVal.one_mp AVal.one_nilmp
attribute [local simp] unv_int unc_int unv_bool unc_bool unv_str unc_str unv_nils unc_nils unv_slc unc_slc unv_vec unc_vec unv_ptr unc_ptr unv_eptr unc_eptr unv_cptr unc_cptr unv_nilp unc_nilp unv_fn unc_fn unv_nilfn unc_nilfn unv_mp unc_mp unv_nilmp unc_nilmp unv_agg unc_agg unv_tup unc_tup unv_top unc_top unv_cnd unc_cnd
set_option maxHeartbeats 8000000 in
theorem law3_st (hs : Still EE Tryd.prog 6 [] (.bool true)) (w : Lw) (q : Nat → Fz) (n : Nat) (g tick a b before today : Int)
    (hL : lvl w q n g tick today = rlvl w q n g tick today) (hD : tks a b 500 = true → dueL w q n g a b today = rdueL w q n g a b today) (hN : tks a b 500 = true → newL w q n g a b before today = rnewL w q n g a b before today)
    (hl1 : (dueL w q n g a b today).1.length < 4611686018427387904) (hl2 : (newL w q n g a b before today).1.length < 4611686018427387904) :
    Still EE Tryd.prog 3 [.agg w.cells, .slc 3 n (fun i => (q i).cells), .agg [.int .i64 g, .int .i64 tick, .int .i64 a, .int .i64 b, .int .i64 before, .int .i64 today]] (.bool true) := by
  refine Pure.still ?_ hEE (by simp [Lw.cells, nrF, -noRef_slc]) (by simp)
  obtain ⟨c, hb, hc⟩ := ck3
  refine Pure.of (fn := Tryd.f3) rfl hb cr3 (hc 0) 150 rfl ?_
  refine AW.sr (by simp [r3_0, Lw.cells]; rfl) ?_
  refine AW.sr (by simp [r3_1]; refine (ticks_st a b 500).call ?_; (try simp); rfl) ?_
  refine AW.seq (AW.sr (by simp [r3_2]; rfl) ?_)
  refine AW.if' _ rfl (fun e => ?_) (fun e => AW.sk ?_)
  · refine AW.sr (by simp [r3_3]; refine hs.call ?_; (try simp); rfl) ?_
    refine .retp (rs := rs3) rfl ?_ ?_ <;> simp [rs3]
  refine AW.keep [0, 1, 3, 5, 6] (by simp [keepT]; rfl) (by simp) ?_
  have ht : tks a b 500 = true := by
    cases h : tks a b 500
    · simp [h] at e
    · rfl
  have hn : n < 4611686018427387904 := by
    simp [ht] at e
    omega
  have h7 := lvl_st w q n hn g tick today
  have h8 := due8_st w q n hn g a b today
  have h9 := new9_st w q n hn g a b before today
  have h10 := rlvl_st w q n hn g tick today
  have h11 := rdueL_st w q n hn g a b today
  have h12 := rnewL_st w q n hn g a b before today
  have h13 := check_st w q n hn
  have h14 := rcheck_st w q n hn
  simp only [Lw.cells] at h7 h8 h9 h10 h11 h12 h13 h14
  have hD := hD ht
  have hN := hN ht
  rw [hL] at h7
  rw [hD] at h8 hl1
  rw [hN] at h9 hl2
  generalize rlvl w q n g tick today = L at h7 h10
  generalize rdueL w q n g a b today = D at h8 h11 hl1
  generalize rnewL w q n g a b before today = N at h9 h12 hl2
  generalize chk w q n = ck at h13 h14
  refine AW.sr (by simp [r3_4]; refine h7.call ?_; (try simp); rfl) ?_
  refine AW.sr (by simp [r3_5]; refine h8.call ?_; (try simp); rfl) ?_
  refine AW.sr (by simp [r3_6]; refine h9.call ?_; (try simp); rfl) ?_
  refine AW.sr (by simp [r3_7]; refine h10.call ?_; (try simp); rfl) ?_
  refine AW.sr (by simp [r3_8]; refine h11.call ?_; (try simp); rfl) ?_
  refine AW.sr (by simp [r3_9]; refine h12.call ?_; (try simp); rfl) ?_
  refine AW.keep [0, 1, 3, 5, 6, 8, 9, 10, 11, 12, 13, 14, 15, 16] (by simp [keepT]; rfl) (by simp) ?_
  refine AW.sd (by
    simp [r3_10]
    refine ⟨_, [], h13.on _ _, ?_⟩
    simp
    refine ⟨_, [], h14.on _ _, ?_⟩
    simp
    refine dgcall.pure _ ?_ (fun _ => same06_st D.1 D.1 hl1) ?_
    · simp
    simp
    exact ⟨by kernel_rfl, rfl⟩) ?_
  refine AW.keep [6, 12, 13, 16, 17] (by simp [keepT]; rfl) (by simp) ?_
  refine AW.sr (by
    simp [r3_11]
    refine hs.call ?_
    simp
    refine gcall.pure _ ?_ (fun _ => same06_st N.1 N.1 hl2) ?_
    · simp
    simp
    rfl) ?_
  refine .retp (rs := rs3) rfl ?_ ?_ <;> simp [rs3]
end Go.Am
