/- Part D1 of the proof that the last part closes: helpers. No condition. -/
import Derived.Test.YtjmchgpbejldlaaDoorC6
import Derived.Test.YtjmchgpbejldlaaDoorC7
import Derived.Test.YtjmchgpbejldlaaDoorA4
set_option linter.unusedVariables false
set_option linter.unusedSimpArgs false
set_option maxRecDepth 8000
namespace Go.Am
open Go.Proofs
attribute [local simp] areg aop dreg dop AOp.req argv argU AOp.args uncAll AOp.unAll Req.val Req.when putT putH athen ablk reqBin reqInt gcond pickB ressOk ARes.ok retVal ARes.val cut inr AOp.quiet
attribute [local simp] noRef_int noRef_bool noRef_str noRef_nils noRef_agg noRef_tup noRef_slc noRef_fn
attribute [local simp] vsub_t vsub_int_int vsub_slc_slc vsub_nils_slc vsub_self osub_gone osub_box osub_vec osub_self subm subh keysIn
attribute [local simp] tl_set tl_get tl_getD hl_set hl_get look lookh pick pickh zipA
attribute [local simp] AObj.plain AObj.owned AObj.ep reqLoad reqStore acells_int acells_bool acells_str acells_nils acells_slc acells_vec acells_ptr acells_eptr acells_cptr acells_nilp acells_fn acells_nilfn acells_mp acells_nilmp acells_agg allOne lay fills ldv
attribute [local simp] rg2 rg3 rg4 rg7
attribute [local simp] unv_sLB unc_sLB one_sLB AVal.one_int AVal.one_bool AVal.one_str AVal.one_nils AVal.one_slc AVal.one_vec AVal.one_ptr AVal.one_eptr AVal.one_cptr AVal.one_nilp AVal.one_fn AVal.one_nilfn AVal.one_mp AVal.one_nilmp
attribute [local simp] unv_int unc_int unv_bool unc_bool unv_str unc_str unv_nils unc_nils unv_slc unc_slc unv_vec unc_vec unv_ptr unc_ptr unv_eptr unc_eptr unv_cptr unc_cptr unv_nilp unc_nilp unv_fn unc_fn unv_nilfn unc_nilfn unv_mp unc_mp unv_nilmp unc_nilmp unv_agg unc_agg unv_tup unc_tup unv_top unc_top unv_cnd unc_cnd
theorem vsub_sLB (l : List Bn) : vsub (sLB l) (.slc 3 l.length (bcells l)) := by
  unfold sLB
  by_cases h : l.length = 0
  · rw [if_pos h, h]; exact .inl ⟨rfl, rfl⟩
  · rw [if_neg h]; exact vsub_self _
theorem acells_sLB (l : List Bn) : acells (sLB l) = some [sLB l] := acells_one (one_sLB l)
attribute [local simp] vsub_sLB acells_sLB
def slB (l : List Bn) : AVal := .slc 3 l.length (bcells l)
theorem slB_eq (l : List Bn) : slB l = .slc 3 l.length (bcells l) := rfl
set_option maxHeartbeats 16000000 in
theorem law4_st (hs : Still EE Tryd.prog 6 [] (.bool true)) (w : Lw) (q : Nat → Fz) (n : Nat) (g tick a b before today : Int) :
    Still EE Tryd.prog 4 [.agg w.cells, .slc 3 n (fun i => (q i).cells), .agg [.int .i64 g, .int .i64 tick, .int .i64 a, .int .i64 b, .int .i64 before, .int .i64 today]] (.bool true) := by
  refine Pure.still ?_ hEE (by simp [Lw.cells, nrF, -noRef_slc]) (by simp)
  obtain ⟨c, hb, hc⟩ := ck4
  refine Pure.ofs (fn := Tryd.f4) (n := 319) rfl hb cr4 (hc 0) (by simp; rfl) rfl (by simp) ?_
  refine (AW.srk [1, 3, 5] [0, 1] (by simp [r4_0, Lw.cells]; exact ⟨rfl, rfl⟩) (by simp; rfl) (by simp; rfl) rfl ?_)
  refine (AW.srk [1, 3, 5, 7] [0, 1] (by simp [r4_1]; refine (ticks_st a b 500).call ?_; (try simp); exact ⟨rfl, rfl⟩) (by simp; rfl) (by simp; rfl) rfl ?_)
  refine .seq ?_
  refine (AW.srk [1, 3, 5, 44] [0, 1] (by simp [r4_2]; exact ⟨rfl, rfl⟩) (by simp; rfl) (by simp; rfl) rfl ?_)
  refine AW.ift _ rfl rfl (fun e => ?_) (fun e => AW.skip ?_)
  · refine (AW.srk [6] [0, 1] (by simp [r4_3]; refine hs.call ?_; (try simp); exact ⟨rfl, rfl⟩) (by simp; rfl) (by simp; rfl) rfl ?_)
    refine .retp (rs := rs4) rfl ?_ ?_ <;> simp [rs4]
  have ht : tks a b 500 = true := by
    cases h : tks a b 500
    · simp [h] at e
    · rfl
  have hn12 : n ≤ 12 ∧ before ≤ today := by simp [ht] at e; omega
  have hn : n < 4611686018427387904 := by omega
  have h8 := due8_st w q n hn g a b before
  have h8' := due8_st w q n hn g a b today
  simp only [Lw.cells] at h8 h8'
  have herr := dueL_errs w q n g a b before today ht
  have hok1 := dueL_ok (w := w) (q := q) (n := n) (g := g) (a := a) (b := b) (d := before)
  have hok2 := dueL_ok (w := w) (q := q) (n := n) (g := g) (a := a) (b := b) (d := today)
  have len1 : (dueL w q n g a b before).1.length ≤ 4000 := by
    rw [law_due]; unfold rdueL
    split
    · simp
    · split
      · simp
      · simp only
        split
        · simp
        · simp only; omega
  have len2 : (dueL w q n g a b today).1.length ≤ 4000 := by
    rw [law_due]; unfold rdueL
    split
    · simp
    · split
      · simp
      · simp only
        split
        · simp
        · simp only; omega
  generalize dueL w q n g a b before = D1 at h8 herr hok1 len1
  generalize dueL w q n g a b today = D2 at h8' herr hok2 len2
  obtain ⟨A, e1⟩ := D1
  obtain ⟨B, e2⟩ := D2
  simp only at h8 h8' herr hok1 hok2 len1 len2
  refine (AW.srk [1, 3, 5, 8, 9] [0, 1] (by simp [r4_4]; refine h8.call ?_; (try simp); exact ⟨rfl, rfl⟩) (by simp; rfl) (by simp; rfl) rfl ?_)
  refine (AW.srk [1, 3, 5, 8, 9, 10, 11] [0, 1] (by simp [r4_5]; refine h8'.call ?_; (try simp); exact ⟨rfl, rfl⟩) (by simp; rfl) (by simp; rfl) rfl ?_)
  refine .seq ?_
  refine (AW.srk [1, 3, 5, 8, 9, 10, 11, 76] [0, 1] (by simp [r4_6]; exact ⟨rfl, rfl⟩) (by simp; rfl) (by simp; rfl) rfl ?_)
  refine AW.ift _ rfl rfl (fun e => ?_) (fun e => AW.skip ?_)
  · refine (AW.srk [6] [0, 1] (by simp [r4_7]; refine hs.call ?_; simp; exact ⟨fun h1 h2 => ⟨h1, h2⟩, rfl, rfl⟩) (by simp; rfl) (by simp; rfl) rfl ?_)
    refine .retp (rs := rs4) rfl ?_ ?_ <;> simp [rs4]
    omega
  have he : e1 = 0 ∧ e2 = 0 := by simp at e; omega
  obtain ⟨rfl, rfl⟩ := he
  obtain ⟨k1, ki, kA⟩ := hok1 rfl
  obtain ⟨k2, _, kB⟩ := hok2 rfl
  obtain ⟨i0, i1, i2⟩ := ki
  have S1 := sys_due w q n g before
  have S2 := sys_due w q n g today
  have L12 := later_due w (qf q n g) (nf q n g) hn12.2
  have cA := chain_all S1 (a := a) (b := b) i0 i2
  have cB := chain_all S2 (a := a) (b := b) i0 i2
  rw [← kA] at cA
  rw [← kB] at cB
  have hlv : ∀ t, 0 ≤ t → t < 1402560 → lvl w q n g t today = ((due w (qf q n g) (nf q n g) today t).l, 0) := fun t h0 h1 => lvl_ok k2 h0 h1
  have hfr : ∀ t k, 0 ≤ t → t < 1402560 → k < n → (q k).g = g → (q k).a ≤ t → t < (q k).b → (due w (qf q n g) (nf q n g) today t).l = 0 := fun t k h0 h1 h2 h3 h4 h5 => frozen_raw h0 h1 h2 h3 h4 h5
  generalize due w (qf q n g) (nf q n g) before = E1 at S1 cA L12
  generalize due w (qf q n g) (nf q n g) today = E2 at S2 cB L12 hlv hfr
  clear kA kB h8 h8' herr hok1 hok2 k1 k2
  refine .see (.sp (m' := [(1, .slc 3 n fun i => (q i).cells), (3, .ptr 0 1 0), (5, .ptr 1 1 0), (8, .slc 3 A.length (bcells A)), (10, .slc 3 B.length (bcells B))]) (hm' := [(0, .box 1 [.int .i64 w.r, .int .i64 w.h, .int .i64 w.d, .int .i64 w.m]), (1, .box 1 [.int .i64 g, .int .i64 tick, .int .i64 a, .int .i64 b, .int .i64 before, .int .i64 today])]) (by simp) (by simp) rfl) ?_
  refine .seq ?_
  refine (AW.srk [1, 3, 5, 8, 10, 93, 94, 95] [0, 1, 2] (by simp [r4_8, elemsOf]; exact ⟨rfl, rfl⟩) (by simp; rfl) (by simp; rfl) rfl ?_)
  refine .block ?_
  refine AW.lp (fun x : Nat × Nat => [(1, .slc 3 n fun i => (q i).cells), (3, .ptr 0 1 0), (5, .ptr 1 1 0), (8, .slc 3 A.length (bcells A)), (10, .slc 3 B.length (bcells B)), (93, .vec 2 1 0 2), (94, .int .i64 2), (95, .int .i64 x.1)])
    (fun x => [(0, .box 1 [.int .i64 w.r, .int .i64 w.h, .int .i64 w.d, .int .i64 w.m]), (1, .box 1 [.int .i64 g, .int .i64 tick, .int .i64 a, .int .i64 b, .int .i64 before, .int .i64 today]), (2, .vec 1 1 2 fun i => [if i = 0 then slB A else slB B]), (3, .gone x.2)])
    (fun x => 2 - x.1) (fun x => x.1 ≤ 2) (0, 0) (by simp) (by simp) ?_ rfl ?_
  · simp
    intro k hk
    rcases (show k = 0 ∨ k = 1 by omega) with rfl | rfl <;> rfl
  rintro ⟨i, ep⟩ hi2
  simp only at hi2
  refine (AW.srk [1, 3, 5, 8, 10, 93, 94, 95, 96] [0, 1, 2, 3] (by simp [r4_9]; exact ⟨rfl, rfl⟩) (by simp; rfl) (by simp; rfl) rfl ?_)
  refine .seq ?_
  refine AW.ift _ rfl rfl (fun e => AW.skip ?_) (fun e => ?_)
  · have hi : i < 2 := by simp at e; omega
    obtain ⟨l, hF, E0, R0, S0, c0, llen⟩ : ∃ l, (if i = 0 then slB A else slB B) = .slc 3 l.length (bcells l) ∧ ∃ E0 R0, Sys 1402560 E0 R0 ∧ Chain E0 a b a false l ∧ l.length ≤ 4000 := by
      by_cases h : i = 0
      · exact ⟨A, by rw [if_pos h]; rfl, E1, _, S1, cA, len1⟩
      · exact ⟨B, by rw [if_neg h]; rfl, E2, _, S2, cB, len2⟩
    have hnil := chain_nil i1 c0
    refine .seq ?_
    refine .block ?_
    refine (AW.srk [1, 3, 5, 8, 10, 13, 93, 94, 95] [0, 1, 2, 3] (by simp [r4_10, hi, hF]; (repeat' apply And.intro) <;> first | omega | exact rfl) (by simp; rfl) (by simp; rfl) rfl ?_)
    refine .seq ?_
    refine (AW.srk [1, 3, 5, 8, 10, 13, 93, 94, 95, 99, 100, 101] [0, 1, 2, 3] (by simp [r4_11]; exact ⟨rfl, rfl⟩) (by simp; rfl) (by simp; rfl) rfl ?_)
    refine .block ?_
    refine AW.lp (fun x : Nat × Nat => [(1, .slc 3 n fun i => (q i).cells), (3, .ptr 0 1 0), (5, .ptr 1 1 0), (8, .slc 3 A.length (bcells A)), (10, .slc 3 B.length (bcells B)), (13, .slc 3 l.length (bcells l)), (93, .vec 2 1 0 2), (94, .int .i64 2), (95, .int .i64 i), (99, .slc 3 l.length (bcells l)), (100, .int .i64 l.length), (101, .int .i64 x.1)])
      (fun x => [(0, .box 1 [.int .i64 w.r, .int .i64 w.h, .int .i64 w.d, .int .i64 w.m]), (1, .box 1 [.int .i64 g, .int .i64 tick, .int .i64 a, .int .i64 b, .int .i64 before, .int .i64 today]), (2, .vec 1 1 2 fun i => [if i = 0 then slB A else slB B]), (3, .gone x.2)])
      (fun x => l.length - x.1) (fun x => x.1 ≤ l.length) (0, ep) (by simp) (by simp) ?_ rfl ?_
    · simp
    rintro ⟨k, ep1⟩ hk
    simp only at hk
    refine (AW.srk [1, 3, 5, 8, 10, 13, 93, 94, 95, 99, 100, 101, 102] [0, 1, 2, 3] (by simp [r4_12]; exact ⟨rfl, rfl⟩) (by simp; rfl) (by simp; rfl) rfl ?_)
    refine .seq ?_
    refine AW.ift _ rfl rfl (fun e => AW.skip ?_) (fun e => ?_)
    · have hkl : k < l.length := by simp at e; omega
      obtain ⟨x, hx⟩ : ∃ x, l[k]? = some x := ⟨_, List.getElem?_eq_getElem hkl⟩
      have hxc : bcells l k = x.cells := by simp [bcells, hx]
      obtain ⟨u, hu, hz0, hz1⟩ := chain_get (Int.le_refl _) c0 k x hx
      have hxa := hu.xa
      have hxb := hu.xb
      refine .seq ?_
      refine .block ?_
      refine (AW.srk [1, 3, 5, 8, 10, 13, 14, 15, 93, 94, 95, 99, 100, 101] [0, 1, 2, 3] (by simp [r4_13, hkl, hxc, Bn.cells]; exact ⟨rfl, rfl⟩) (by simp; rfl) (by simp; rfl) rfl ?_)
      rcases k with _ | j
      · obtain ⟨rfl, hz2, _⟩ := hz0 rfl
        refine (AW.sdk [1, 3, 5, 8, 10, 13, 93, 94, 95, 99, 100, 101, 155] [0, 1, 2, 3] (by simp [r4_14, hxc, Bn.cells]; (repeat' apply And.intro) <;> first | omega | exact rfl | kernel_rfl | (intros; omega)) (by simp; rfl) (by simp; rfl) rfl ?_)
        refine AW.ift _ rfl rfl (fun e => ?_) (fun e => AW.skip ?_)
        · exfalso; simp at e; omega
        refine AW.r1 (by simp [r4_16]; rfl) ?_
        refine ⟨(1, ep1 + 1), by simp only; omega, by simp only; omega, .sp (by simp) (by simp) rfl⟩
      · obtain ⟨y, hy, y1, y2, y3⟩ := hz1 j rfl
        have hyc : bcells l j = y.cells := by simp [bcells, hy]
        have htn : ((j : Int) + 1 - 1).toNat = j := by omega
        refine (AW.sdk [1, 3, 5, 8, 10, 13, 93, 94, 95, 99, 100, 101, 155] [0, 1, 2, 3] (by simp [r4_14, hxc, hyc, htn, Bn.cells]; (repeat' apply And.intro) <;> first | omega | exact rfl | kernel_rfl | (intros; omega)) (by simp; rfl) (by simp; rfl) rfl ?_)
        refine AW.ift _ rfl rfl (fun e => ?_) (fun e => AW.skip ?_)
        · exfalso; simp at e; omega
        refine AW.r1 (by simp [r4_16]; exact ⟨by omega, rfl⟩) ?_
        refine ⟨(j + 1 + 1, ep1 + 1), by simp only; omega, by simp only; omega, .sp (by simp) (by simp) rfl⟩
    · have hkl : k = l.length := by simp at e; omega
      subst hkl
      refine .exit ?_
      refine (AW.srk [1, 3, 5, 8, 10, 13, 16, 93, 94, 95] [0, 1, 2, 3] (by simp [r4_17]; exact ⟨rfl, rfl⟩) (by simp; rfl) (by simp; rfl) rfl ?_)
      have hlast := chain_last c0
      by_cases hl0 : l.length = 0
      · have hab := hnil.1 hl0
        have hb0 : bcells l 0 = (⟨0, 0, 0⟩ : Bn).cells := by simp [bcells, List.length_eq_zero_iff.1 hl0, Bn.cells]
        refine (AW.sdk [1, 3, 5, 8, 10, 93, 94, 95, 184] [0, 1, 2, 3] (by simp [r4_18, hl0, hb0, Bn.cells, -List.length_eq_zero_iff]; (repeat' apply And.intro) <;> first | omega | exact rfl | kernel_rfl | (intros; omega)) (by simp; rfl) (by simp; rfl) rfl ?_)
        refine AW.ift _ rfl rfl (fun e => ?_) (fun e => AW.skip ?_)
        · exfalso; simp at e; omega
        refine AW.r1 (by simp [r4_20]; exact ⟨by omega, rfl⟩) ?_
        refine ⟨(i + 1, ep1), by simp only; omega, by simp only; omega, .sp (by simp) (by simp) rfl⟩
      · have hab : ¬ a = b := fun h => hl0 (hnil.2 h)
        obtain ⟨x, hx⟩ : ∃ x, l[l.length - 1]? = some x := ⟨_, List.getElem?_eq_getElem (by omega)⟩
        have hxc : bcells l (l.length - 1) = x.cells := by simp [bcells, hx]
        have hxb := hlast x hx
        have htn : ((l.length : Int) - 1).toNat = l.length - 1 := by omega
        refine (AW.sdk [1, 3, 5, 8, 10, 93, 94, 95, 184] [0, 1, 2, 3] (by simp [r4_18, htn, hxc, Bn.cells, -List.length_eq_zero_iff]; (repeat' apply And.intro) <;> first | omega | exact rfl | kernel_rfl | (intros; omega)) (by simp; rfl) (by simp; rfl) rfl ?_)
        refine AW.ift _ rfl rfl (fun e => ?_) (fun e => AW.skip ?_)
        · exfalso; have hlne : ¬ l = [] := fun h => hl0 (by simp [h]); simp [hlne, hab] at e; omega
        refine AW.r1 (by simp [r4_20]; exact ⟨by omega, rfl⟩) ?_
        refine ⟨(i + 1, ep1), by simp only; omega, by simp only; omega, .sp (by simp) (by simp) rfl⟩
  · have hi : i = 2 := by simp at e; omega
    subst hi
    refine .exit ?_
    refine (AW.srk [1, 3, 5, 8, 10, 17] [0, 1, 2, 3] (by simp [r4_21]; exact ⟨rfl, rfl⟩) (by simp; rfl) (by simp; rfl) rfl ?_)
    refine .seq ?_
    refine (AW.srk [1, 3, 5, 10, 17, 186, 187, 188] [0, 1, 2, 3] (by simp [r4_22]; exact ⟨rfl, rfl⟩) (by simp; rfl) (by simp; rfl) rfl ?_)
    refine .block ?_
    refine AW.lp (fun x : Nat × Nat × Nat => [(1, .slc 3 n fun i => (q i).cells), (3, .ptr 0 1 0), (5, .ptr 1 1 0), (10, .slc 3 B.length (bcells B)), (17, .int .i64 x.2.1), (186, .slc 3 A.length (bcells A)), (187, .int .i64 A.length), (188, .int .i64 x.1)])
      (fun x => [(0, .box 1 [.int .i64 w.r, .int .i64 w.h, .int .i64 w.d, .int .i64 w.m]), (1, .box 1 [.int .i64 g, .int .i64 tick, .int .i64 a, .int .i64 b, .int .i64 before, .int .i64 today]), (2, .gone 1), (3, .gone ep), (4, .gone x.2.2)])
      (fun x => A.length - x.1) (fun x => x.1 ≤ A.length ∧ ∀ (i : Nat) (z y : Bn), i < x.2.1 → B[i]? = some z → A[x.1]? = some y → z.b ≤ y.a) (0, 0, 0) ⟨Nat.zero_le _, fun i z y hi => absurd hi (Nat.not_lt_zero _)⟩ (by simp) (by simp) rfl ?_
    rintro ⟨k, at', e4⟩ ⟨hkA, hat⟩
    simp only at hkA hat
    refine (AW.srk [1, 3, 5, 10, 17, 186, 187, 188, 189] [0, 1, 2, 3, 4] (by simp [r4_23]; exact ⟨rfl, rfl⟩) (by simp; rfl) (by simp; rfl) rfl ?_)
    refine .seq ?_
    refine AW.ift _ rfl rfl (fun e => AW.skip ?_) (fun e => ?_)
    · have hkl : k < A.length := by simp at e; omega
      obtain ⟨x, hx⟩ : ∃ x, A[k]? = some x := ⟨_, List.getElem?_eq_getElem hkl⟩
      have hxc : bcells A k = x.cells := by simp [bcells, hx]
      obtain ⟨u, hu, hz0, hz1⟩ := chain_get (Int.le_refl _) cA k x hx
      have hxa := hu.xa
      have hxb := hu.xb
      obtain ⟨j, y, hj, hy1, hy2⟩ := inside_at S1 S2 L12 i0 i2 cB hu
      have hjB : j < B.length := by
        rcases Nat.lt_or_ge j B.length with h | h
        · exact h
        · rw [List.getElem?_eq_none h] at hj; cases hj
      have hatj : at' ≤ j := by
        rcases Nat.lt_or_ge j at' with h | h
        · have := hat j y x h hj hx; omega
        · exact h
      refine .seq ?_
      refine .block ?_
      refine (AW.srk [1, 3, 5, 10, 17, 19, 186, 187, 188] [0, 1, 2, 3, 4] (by simp [r4_24, hkl, hxc, Bn.cells]; exact ⟨rfl, rfl⟩) (by simp; rfl) (by simp; rfl) rfl ?_)
      refine .seq ?_
      refine .block ?_
      refine AW.lp (fun c : Nat => [(1, .slc 3 n fun i => (q i).cells), (3, .ptr 0 1 0), (5, .ptr 1 1 0), (10, .slc 3 B.length (bcells B)), (17, .int .i64 c), (19, .ptr 4 (e4 + 1) 0), (186, .slc 3 A.length (bcells A)), (187, .int .i64 A.length), (188, .int .i64 k)])
        (fun c => [(0, .box 1 [.int .i64 w.r, .int .i64 w.h, .int .i64 w.d, .int .i64 w.m]), (1, .box 1 [.int .i64 g, .int .i64 tick, .int .i64 a, .int .i64 b, .int .i64 before, .int .i64 today]), (2, .gone 1), (3, .gone ep), (4, .box (e4 + 1) [.int .i64 x.l, .int .i64 x.a, .int .i64 x.b])])
        (fun c => j - c) (fun c => c ≤ j ∧ ∀ (i : Nat) (z : Bn), i < c → B[i]? = some z → z.b ≤ x.a) at' ⟨hatj, fun i z hi hz => hat i z x hi hz hx⟩ (by simp) (by simp) rfl ?_
      rintro c ⟨hc1, hc2⟩
      have hcB : c < B.length := by omega
      obtain ⟨z, hz⟩ : ∃ z, B[c]? = some z := ⟨_, List.getElem?_eq_getElem hcB⟩
      have hzc : bcells B c = z.cells := by simp [bcells, hz]
      refine .seq ?_
      refine (AW.sdk [1, 3, 5, 10, 17, 19, 186, 187, 188, 205] [0, 1, 2, 3, 4] (by simp [r4_25, hcB, hzc, Bn.cells]; (repeat' apply And.intro) <;> first | omega | exact rfl | kernel_rfl | (intros; omega)) (by simp; rfl) (by simp; rfl) rfl ?_)
      refine AW.ift _ rfl rfl (fun e => AW.skip ?_) (fun e => ?_)
      · have hzx : z.b ≤ x.a := by simp at e; omega
        have hcj : c ≠ j := by
          rintro rfl
          rw [hj] at hz
          cases hz
          omega
        refine .block ?_
        refine AW.r1 (by simp [r4_26]; exact ⟨by omega, rfl⟩) ?_
        refine ⟨c + 1, ⟨by omega, fun i z' hi hz' => ?_⟩, by omega, .sp (by simp) (by simp) rfl⟩
        rcases Nat.lt_or_ge i c with h | h
        · exact hc2 i z' h hz'
        · have : i = c := by omega
          subst this
          rw [hz] at hz'
          cases hz'
          exact hzx
      · have hzx : ¬ z.b ≤ x.a := by simp at e; omega
        refine .exit ?_
        refine .seq ?_
        refine (AW.srk [1, 3, 5, 10, 17, 19, 186, 187, 188, 211] [0, 1, 2, 3, 4] (by simp [r4_27]; exact ⟨rfl, rfl⟩) (by simp; rfl) (by simp; rfl) rfl ?_)
        refine AW.ift _ rfl rfl (fun e => ?_) (fun e => AW.skip ?_)
        · exfalso; simp at e; omega
        refine (AW.sdk [1, 3, 5, 10, 17, 19, 20, 186, 187, 188] [0, 1, 2, 3, 4] (by simp [r4_29, hcB, hzc, Bn.cells]; (repeat' apply And.intro) <;> first | omega | exact rfl | kernel_rfl | (intros; omega)) (by simp; rfl) (by simp; rfl) rfl ?_)
        refine (AW.srk [1, 3, 5, 10, 17, 186, 187, 188, 246] [0, 1, 2, 3, 4] (by simp [r4_30]; exact ⟨rfl, rfl⟩) (by simp; rfl) (by simp; rfl) rfl ?_)
        refine AW.ift _ rfl rfl (fun e => ?_) (fun e => AW.skip ?_)
        · exfalso
          by_cases hl : x.l = 0
          · simp [hl] at e
          obtain ⟨p1, p2, p3, p4⟩ := hy2 hl
          have hcj : c = j := by
            rcases Nat.lt_or_ge c j with h | h
            · exact absurd (p1 c z h hz) hzx
            · omega
          subst hcj
          rw [hj] at hz
          cases hz
          simp [hl] at e
          omega
        refine AW.r1 (by simp [r4_32]; exact ⟨by omega, rfl⟩) ?_
        refine ⟨(k + 1, c, e4 + 1), ⟨by simp only; omega, fun i z' y' hi hz' hy' => ?_⟩, by simp only; omega, .sp (by simp) (by simp) rfl⟩
        have h1 := hc2 i z' hi hz'
        have h2 := chain_mono cA (Nat.lt_succ_self k) hx hy'
        omega
    · refine .exit ?_
      refine .seq ?_
      refine (AW.srk [1, 3, 5, 248, 249, 250] [0, 1, 2, 3, 4] (by simp [r4_33]; exact ⟨rfl, rfl⟩) (by simp; rfl) (by simp; rfl) rfl ?_)
      refine .block ?_
      refine AW.lp (fun x : Nat × Nat × Nat => [(1, .slc 3 n fun i => (q i).cells), (3, .ptr 0 1 0), (5, .ptr 1 1 0), (248, .slc 3 B.length (bcells B)), (249, .int .i64 B.length), (250, .int .i64 x.1)])
        (fun x => [(0, .box 1 [.int .i64 w.r, .int .i64 w.h, .int .i64 w.d, .int .i64 w.m]), (1, .box 1 [.int .i64 g, .int .i64 tick, .int .i64 a, .int .i64 b, .int .i64 before, .int .i64 today]), (2, .gone 1), (3, .gone ep), (4, .gone e4), (5, .gone x.2.1), (6, .gone x.2.2)])
        (fun x => B.length - x.1) (fun x => x.1 ≤ B.length) (0, 0, 0) (Nat.zero_le _) (by simp) (by simp) rfl ?_
      rintro ⟨m, e5, e6⟩ hm
      simp only at hm
      refine (AW.srk [1, 3, 5, 248, 249, 250, 251] [0, 1, 2, 3, 4, 5, 6] (by simp [r4_34]; exact ⟨rfl, rfl⟩) (by simp; rfl) (by simp; rfl) rfl ?_)
      refine .seq ?_
      refine AW.ift _ rfl rfl (fun e => AW.skip ?_) (fun e => ?_)
      · have hmB : m < B.length := by simp at e; omega
        obtain ⟨y, hy⟩ : ∃ y, B[m]? = some y := ⟨_, List.getElem?_eq_getElem hmB⟩
        have hyc : bcells B m = y.cells := by simp [bcells, hy]
        obtain ⟨u, hu, -, -⟩ := chain_get (Int.le_refl _) cB m y hy
        refine .seq ?_
        refine .block ?_
        refine (AW.srk [1, 3, 5, 22, 248, 249, 250] [0, 1, 2, 3, 4, 5, 6] (by simp [r4_35, hmB, hyc, Bn.cells]; exact ⟨rfl, rfl⟩) (by simp; rfl) (by simp; rfl) rfl ?_)
        refine (AW.srk [1, 3, 5, 22, 23, 248, 249, 250] [0, 1, 2, 3, 4, 5, 6] (by simp [r4_36]; exact ⟨rfl, rfl⟩) (by simp; rfl) (by simp; rfl) rfl ?_)
        refine .block ?_
        refine AW.lp (fun c : Int × Nat => [(1, .slc 3 n fun i => (q i).cells), (3, .ptr 0 1 0), (5, .ptr 1 1 0), (22, .ptr 5 (e5 + 1) 0), (23, .int .i64 c.1), (248, .slc 3 B.length (bcells B)), (249, .int .i64 B.length), (250, .int .i64 m)])
          (fun c => [(0, .box 1 [.int .i64 w.r, .int .i64 w.h, .int .i64 w.d, .int .i64 w.m]), (1, .box 1 [.int .i64 g, .int .i64 tick, .int .i64 a, .int .i64 b, .int .i64 before, .int .i64 today]), (2, .gone 1), (3, .gone ep), (4, .gone e4), (5, .box (e5 + 1) [.int .i64 y.l, .int .i64 y.a, .int .i64 y.b]), (6, .gone c.2)])
          (fun c => (1402560 - c.1).toNat) (fun c => y.a ≤ c.1 ∧ a ≤ c.1) (max y.a a, e6) ⟨by omega, by omega⟩ (by simp) (by simp) rfl ?_
        rintro ⟨c, e6⟩ ⟨hc1, hc2⟩
        simp only at hc1 hc2
        refine .seq ?_
        refine (AW.srk [1, 3, 5, 22, 23, 248, 249, 250, 267] [0, 1, 2, 3, 4, 5, 6] (by simp [r4_37]; exact ⟨rfl, rfl⟩) (by simp; rfl) (by simp; rfl) rfl ?_)
        refine AW.ift _ rfl rfl (fun e => AW.skip ?_) (fun e => ?_)
        · have hcc : c < y.b ∧ c < b := by simp at e; omega
          obtain ⟨hc3, hc4⟩ := hcc
          have hbt := (binAt_tick S2 i0 i2 hu hc1 hc3).1
          have hlc : lvl w q n g c today = (y.l, 0) := by rw [hlv c (by omega) (by omega), hbt]
          have hlev := lvl_st w q n hn g c today
          simp only [Lw.cells, hlc] at hlev
          have hfc : ∀ k, k < n → (q k).g = g → (q k).a ≤ c → c < (q k).b → y.l = 0 := fun k h1 h2 h3 h4 => by rw [← hbt]; exact hfr c k (by omega) (by omega) h1 h2 h3 h4
          refine .seq ?_
          refine .block ?_
          refine (AW.srk [1, 3, 5, 22, 23, 24, 25, 248, 249, 250] [0, 1, 2, 3, 4, 5, 6] (by simp [r4_39]; refine hlev.call ?_; (try simp); exact ⟨rfl, rfl⟩) (by simp; rfl) (by simp; rfl) rfl ?_)
          refine .seq ?_
          refine (AW.srk [1, 3, 5, 22, 23, 24, 248, 249, 250, 288] [0, 1, 2, 3, 4, 5, 6] (by simp [r4_40]; exact ⟨rfl, rfl⟩) (by simp; rfl) (by simp; rfl) rfl ?_)
          refine AW.ift _ rfl rfl (fun e => ?_) (fun e => AW.skip ?_)
          · exfalso; simp at e
          refine (AW.srk [1, 3, 5, 22, 23, 24, 248, 249, 250, 289, 290, 291] [0, 1, 2, 3, 4, 5, 6] (by simp [r4_42]; exact ⟨rfl, rfl⟩) (by simp; rfl) (by simp; rfl) rfl ?_)
          refine .block ?_
          refine AW.lp (fun x : Nat × Nat => [(1, .slc 3 n fun i => (q i).cells), (3, .ptr 0 1 0), (5, .ptr 1 1 0), (22, .ptr 5 (e5 + 1) 0), (23, .int .i64 c), (24, .int .i64 y.l), (248, .slc 3 B.length (bcells B)), (249, .int .i64 B.length), (250, .int .i64 m), (289, .slc 3 n fun i => (q i).cells), (290, .int .i64 n), (291, .int .i64 x.1)])
            (fun x => [(0, .box 1 [.int .i64 w.r, .int .i64 w.h, .int .i64 w.d, .int .i64 w.m]), (1, .box 1 [.int .i64 g, .int .i64 tick, .int .i64 a, .int .i64 b, .int .i64 before, .int .i64 today]), (2, .gone 1), (3, .gone ep), (4, .gone e4), (5, .box (e5 + 1) [.int .i64 y.l, .int .i64 y.a, .int .i64 y.b]), (6, .gone x.2)])
            (fun x => n - x.1) (fun x => x.1 ≤ n) (0, e6) (Nat.zero_le _) (by simp) (by simp) rfl ?_
          rintro ⟨k, e6⟩ hk
          simp only at hk
          refine (AW.srk [1, 3, 5, 22, 23, 24, 248, 249, 250, 289, 290, 291, 292] [0, 1, 2, 3, 4, 5, 6] (by simp [r4_43]; exact ⟨rfl, rfl⟩) (by simp; rfl) (by simp; rfl) rfl ?_)
          refine .seq ?_
          refine AW.ift _ rfl rfl (fun e => AW.skip ?_) (fun e => ?_)
          · have hkn : k < n := by simp at e; omega
            have hfk := hfc k hkn
            refine .seq ?_
            refine .block ?_
            refine (AW.srk [1, 3, 5, 22, 23, 24, 27, 248, 249, 250, 289, 290, 291] [0, 1, 2, 3, 4, 5, 6] (by simp [r4_44, hkn, Fz.cells]; exact ⟨rfl, rfl⟩) (by simp; rfl) (by simp; rfl) rfl ?_)
            refine (AW.srk [1, 3, 5, 22, 23, 24, 248, 249, 250, 289, 290, 291, 315] [0, 1, 2, 3, 4, 5, 6] (by simp [r4_45]; exact ⟨rfl, rfl⟩) (by simp; rfl) (by simp; rfl) rfl ?_)
            refine AW.ift _ rfl rfl (fun e => ?_) (fun e => AW.skip ?_)
            · exfalso; simp at e; omega
            refine AW.r1 (by simp [r4_47]; exact ⟨by omega, rfl⟩) ?_
            refine ⟨(k + 1, e6 + 1), by simp only; omega, by simp only; omega, .sp (by simp [Fz.cells]) (by simp) rfl⟩
          · refine .exit ?_
            refine AW.r1 (by simp [r4_38]; exact ⟨by omega, rfl⟩) ?_
            refine ⟨(c + 1, e6), ⟨by simp only; omega, by simp only; omega⟩, by simp only; omega, .sp (by simp) (by simp) rfl⟩
        · refine .exit ?_
          refine AW.r1 (by simp [r4_48]; exact ⟨by omega, rfl⟩) ?_
          refine ⟨(m + 1, e5 + 1, e6), by simp only; omega, by simp only; omega, .sp (by simp) (by simp) rfl⟩
      · refine .exit ?_
        refine (AW.srk [6] [0, 1, 2, 3, 4, 5, 6] (by simp [r4_49]; refine hs.call ?_; (try simp); exact ⟨rfl, rfl⟩) (by simp; rfl) (by simp; rfl) rfl ?_)
        refine .retp (rs := rs4) rfl ?_ ?_ <;> simp [rs4]
end Go.Am
