/- Part C3 of the proof that the last part closes: contracts of functions and plain lemmas. No condition. -/
import Derived.Test.YtjmchgpbejldlaaDoorC2
set_option linter.unusedVariables false
set_option linter.unusedSimpArgs false
namespace Go.Am
open Go.Proofs
attribute [local simp] areg aop dreg dop AOp.req argv argU AOp.args uncAll AOp.unAll Req.val Req.when putT putH athen ablk reqBin reqInt gcond unc unv pickB ressOk ARes.ok retVal ARes.val cut inr AOp.quiet
attribute [local simp] noRef_int noRef_bool noRef_str noRef_nils noRef_agg noRef_tup noRef_slc noRef_fn
attribute [local simp] vsub_top VSub.refl TSub vsub_int
attribute [local simp] AObj.plain AObj.owned AObj.ep hset h0 reqLoad reqStore acells allOne AVal.one lay fills ldv fzv fzl fz1
attribute [local simp] rg2 rg3 rg4 rg7
noncomputable def dueL (w : Lw) (q : Nat → Fz) (n : Nat) (g a b today : Int) : List Bn × Int :=
  if beginE w q n g today ≠ 0 then ([], beginE w q n g today) else if ival a b = false then ([], 3)
  else let l := bsq (due w (qf q n g) (nf q n g) today) b ((b - a).toNat + 1) a a a
    if 4000 < l.length then ([], 2) else (l, 0)
def bcells (l : List Bn) (i : Nat) : List AVal := (l.getD i ⟨0, 0, 0⟩).cells
def sLB (l : List Bn) : AVal := if l.length = 0 then .nils else .slc 3 l.length (bcells l)
theorem Bn.nr (x : Bn) : ∀ y, y ∈ x.cells → NoRef y := by
  intro y hy
  simp only [Bn.cells, List.mem_cons, List.not_mem_nil, or_false] at hy
  rcases hy with rfl | rfl | rfl <;> exact .int _ _
theorem nr_sLB (l : List Bn) : NoRef (sLB l) := by
  unfold sLB; split
  · exact .nils
  · exact .slc _ _ _ fun i x _ hx => Bn.nr _ x hx
def outV (l : List Bn) : AVal := if l.length = 0 then .nils else .vec 8 l.length 0 l.length
structure HC8 (w : Lw) (s : AVal) (a b today : Int) (ts : List AVal) (ps : Array Tmp) (asg body : Code) (l : List Bn) (h : AHeap) : Prop where
  few : l.length ≤ 4000
  h2 : h 2 = .box 1 [.nils]
  h3 : h 3 = .box 1 [.int .i64 0]
  h5 : h 5 = .box 1 [outV l]
  h6 : (h 6).plain
  h7 : (h 7).plain
  h8 : (l.length = 0 → h 8 = .gone 0) ∧ (l.length ≠ 0 → ∃ f, h 8 = .vec l.length 3 l.length f ∧ ∀ k, k < l.length → f k = bcells l k)
  h9 : h 9 = .dfr 1
  h10 : h 10 = .loop 1 .ready none ts ps asg body 9 1
structure X8 (ts : List AVal) (ps : Array Tmp) (asg body : Code) (l : List Bn) (x : Bn) (h : AHeap) : Prop where
  full : l.length = 4000
  h2 : h 2 = .box 1 [.nils]
  h3 : h 3 = .box 1 [.int .i64 2]
  h9 : h 9 = .dfr 1
  h10 : h 10 = .loop 1 .done (some .ret) ts ps asg body 9 1
theorem HC8.loc {w : Lw} {s : AVal} {a b today : Int} {ts : List AVal} {ps : Array Tmp} {asg body : Code} (l : List Bn) (h h' : AHeap) (e : ∀ i, i < 11 → h' i = h i) (H : HC8 w s a b today ts ps asg body l h) : HC8 w s a b today ts ps asg body l h' :=
  ⟨H.few, (e 2 (by omega)).trans H.h2, (e 3 (by omega)).trans H.h3, (e 5 (by omega)).trans H.h5, by rw [e 6 (by omega)]; exact H.h6, by rw [e 7 (by omega)]; exact H.h7, by rw [e 8 (by omega)]; exact H.h8, (e 9 (by omega)).trans H.h9, (e 10 (by omega)).trans H.h10⟩
def T8 (F : AVal) : List AVal := List.replicate 10 .top ++ [.ptr 2 1 0, .ptr 3 1 0, .top, .top, .ptr 5 1 0] ++ List.replicate 20 .top ++ [F] ++ List.replicate 9 .top
set_option maxHeartbeats 4000000 in
theorem cons8 (w : Lw) (s : AVal) (a b today : Int) (F : AVal) (ps : Array Tmp) (asg body : Code) (hps : ps.toList = [36]) (hasg : checkCode Tryd.prog asg (.reg false (r8_8 0) []) = true) (hbody : checkCode Tryd.prog body (l8_0 0) = true) :
    Consumer 11 10 1 (HC8 w s a b today (T8 F) ps asg body) (X8 (T8 F) ps asg body) := by
  refine ⟨HC8.loc, fun l x h _ H => ?_⟩
  have h6 := H.h6
  have h10 := H.h10
  refine ⟨T8 F, ps, asg, body, 9, 1, H.h10, by rw [← Array.length_toList, hps]; rfl, fun ρ => ?_⟩
  rw [hps]
  refine (AW.reg (ρ := ρ) (pr := []) ?_ : AW EE ρ Tryd.prog (.reg false (r8_8 0) []) _ _) asg hasg
  simp [r8_8, T8, setPs, List.replicate, Bn.cells, h10, -AObj.ep, -AObj.plain]
  refine ⟨h6, ?_⟩
  have h2 := H.h2
  have h3 := H.h3
  have h5 := H.h5
  have h7 := H.h7
  have few := H.few
  refine (AW.block (id := 1) ?_ : AW EE ρ Tryd.prog (l8_0 0) _ _) body hbody
  by_cases hl : l.length = 0
  · have h8 := H.h8.1 hl
    refine .seq (.seq (.reg ?_))
    simp [r8_9, h5, outV, hl, -AObj.ep, -AObj.plain, -List.length_eq_zero_iff]
    refine .cond (t := false) (by simp) (fun e => by cases e) (fun _ => ?_)
    refine .skip ?_
    try simp only [athen]
    refine .reg ?_
    simp [r8_11, h5, h8, outV, hl, reqAppend, srcOf, elemsOf, -AObj.ep, -AObj.plain, -List.length_eq_zero_iff]
    have hll : (l ++ [x]).length = 1 := by simp [hl, -List.length_eq_zero_iff]
    have hnil : l = [] := List.length_eq_zero_iff.1 hl
    refine ⟨h7, trivial, ⟨none, by simp⟩, .inl ⟨rfl, ⟨by omega, by simp [h2], by simp [h3], by simp [outV, hll], by simp, by simp, ⟨fun e => by omega, fun _ => ⟨_, by simp [hll]; rfl, fun k hk => ?_⟩⟩, by simp [H.h9], by simp [T8, List.replicate]⟩, fun i hi => ?_⟩⟩
    · obtain rfl : k = 0 := by omega
      simp [hnil, bcells, Bn.cells]
    · simp [show ¬ (i = 10) by omega, show ¬ (i = 5) by omega, show ¬ (i = 8) by omega, show ¬ (i = 7) by omega, show ¬ (i = 6) by omega]
  · obtain ⟨f, h8, hf⟩ := H.h8.2 hl
    refine .seq (.seq (.reg ?_))
    simp [r8_9, h5, h8, outV, hl, -AObj.plain, -List.length_eq_zero_iff]
    refine .cond (t := decide (l.length = 4000)) (by simp; omega) (fun e => ?_) (fun e => ?_)
    · simp only [decide_eq_true_eq] at e
      refine .seq (.reg ?_)
      simp [r8_10, h2, h3, -AObj.plain]
      refine .ret ?_
      refine ⟨⟨none, by simp⟩, .inr ⟨rfl, ⟨e, by simp, by simp, by simp [H.h9], by simp [T8, List.replicate]⟩⟩⟩
    · simp only [decide_eq_false_iff_not] at e
      refine .skip ?_
      try simp only [athen]
      refine .reg ?_
      simp [r8_11, h5, h8, outV, hl, reqAppend, srcOf, elemsOf, -AObj.plain, -List.length_eq_zero_iff]
      have hll : (l ++ [x]).length = l.length + 1 := by simp
      refine ⟨h7, by omega, ⟨none, by simp⟩, .inl ⟨rfl, ⟨by omega, by simp [h2], by simp [h3], by simp [outV, hll], by simp, by simp, ⟨fun e => by omega, fun _ => ⟨_, by simp [hll]; rfl, fun k hk => ?_⟩⟩, by simp [H.h9], by simp [T8, List.replicate]⟩, fun i hi => ?_⟩⟩
      · by_cases hk' : k < l.length
        · simp [hk', hf k hk', bcells, List.getElem?_append]
        · obtain rfl : k = l.length := by omega
          simp [bcells, Bn.cells]
      · simp [show ¬ (i = 10) by omega, show ¬ (i = 5) by omega, show ¬ (i = 8) by omega, show ¬ (i = 7) by omega, show ¬ (i = 6) by omega]
set_option maxHeartbeats 4000000 in
theorem due8_st (w : Lw) (q : Nat → Fz) (n : Nat) (hn : n < 4611686018427387904) (g a b today : Int) :
    Still EE Tryd.prog 8 [.agg w.cells, .slc 3 n (fun i => (q i).cells), .int .i64 g, .agg [.int .i64 a, .int .i64 b], .int .i64 today] (.tup [sLB (dueL w q n g a b today).1, .int .i64 (dueL w q n g a b today).2]) := by
  refine Pure.still ?_ hEE (by simp [Lw.cells, nrF, -noRef_slc]) (by simp [nr_sLB])
  obtain ⟨c, hb, hc⟩ := ck8
  refine Pure.of (fn := Tryd.f8) rfl hb cr8 (hc 0) 40 rfl ?_
  refine .seq (.reg ?_)
  simp [r8_0, Lw.cells]
  refine .seq (.reg ?_)
  simp [r8_1]
  refine (begin_st w q n hn g today).call ?_
  by_cases hE : beginE w q n g today = 0
  · obtain ⟨hn1, ht0, ht1⟩ := begin_ok hE
    simp [hE, kcells]
    refine ⟨one_sLF _, ?_⟩
    refine .seq (.seq (.reg ?_))
    simp [r8_2]
    refine .cond (t := false) (by simp) (fun e => by cases e) (fun _ => ?_)
    refine .skip ?_
    try simp
    refine .seq (.seq (.reg ?_))
    simp [r8_4]
    refine (interval_st a b).call ?_
    simp
    refine .cond (t := !ival a b) (by simp) (fun e => ?_) (fun e => ?_)
    · refine .seq (.reg ?_)
      simp [r8_5]
      simp at e
      refine .retp (rs := rs8) rfl ?_ ?_ <;> simp [rs8, dueL, hE, e, sLB]
    · simp at e
      refine .skip ?_
      try simp
      refine .seq (.reg ?_)
      simp [r8_6]
      refine .seq (.seq (.reg ?_))
      simp [r8_7]
      refine (bins_st w (sLF (fl q g n)) (nr_sLF _) today a b).call ?_
      try simp
      have hi : 0 ≤ a ∧ a ≤ b ∧ b ≤ 1402560 := by simp [ival] at e; omega
      refine .block (.see (.of_sub (S' := ⟨T8 (.fn 48 [cI a b, cK w (sLF (fl q g n)) today]), _, []⟩) ⟨?_, fun i => .refl _, rfl, by simp⟩) (.rfunc (fi := 48) (caps := [cI a b, cK w (sLF (fl q g n)) today]) 9 10 (by omega) (by simp) (by simp) (by simp [T8, List.replicate]) (by kernel_rfl) ?_))
      · simp [T8, List.replicate]
      intro ps' asg body hps hasg hbody
      refine (bins1_ok w (qf q n g) (nf q n g) (sLF (fl q g n)) (sl_sLF q n g) (nf_lt hn1) today ht0 ht1 a b hi.1 hi.2.1 hi.2.2 11 10 1 _ _ (cons8 w (sLF (fl q g n)) a b today (.fn 48 [cI a b, cK w (sLF (fl q g n)) today]) ps' asg body hps hasg hbody) ((b - a).toNat + 1) (by omega) _ ?_ ?_).mono ?_
      · exact ⟨by simp, by simp, by simp, by simp [outV], by simp, by simp, ⟨fun _ => by simp, fun e => absurd rfl e⟩, by simp, by simp⟩
      · intro i hi
        simp [show ¬ (i = 0) by omega, show ¬ (i = 1) by omega, show ¬ (i = 2) by omega, show ¬ (i = 3) by omega, show ¬ (i = 4) by omega, show ¬ (i = 5) by omega, show ¬ (i = 9) by omega, show ¬ (i = 10) by omega]
      rintro r h' (H | ⟨l, x, rest, hbs, H⟩)
      · refine ⟨.ready, none, by simp, H.h10, H.h9, by simp, ?_⟩
        have h2 := H.h2
        have h3 := H.h3
        have h5 := H.h5
        have few := H.few
        have hd : dueL w q n g a b today = (bsq (due w (qf q n g) (nf q n g) today) b ((b - a).toNat + 1) a a a, 0) := by
          simp [dueL, hE, e, show ¬ (4000 < (bsq (due w (qf q n g) (nf q n g) today) b ((b - a).toNat + 1) a a a).length) by omega]
        rw [hd]
        generalize bsq (due w (qf q n g) (nf q n g) today) b ((b - a).toNat + 1) a a a = bs at *
        simp only [RDone, ablk, athen]
        by_cases hl : bs.length = 0
        · refine .seq (.reg ?_)
          simp [r8_12, T8, List.replicate, h2, h3, h5, outV, hl, -List.length_eq_zero_iff]
          refine .retp (rs := rs8) rfl ?_ ?_ <;> simp [rs8, sLB, hl, -List.length_eq_zero_iff]
        · obtain ⟨f, h8, hf⟩ := H.h8.2 hl
          refine .see (.of_sub (S' := ⟨T8 (.fn 48 [cI a b, cK w (sLF (fl q g n)) today]), hset (hset h' 10 (.gone 1)) 8 (.vec bs.length 3 bs.length (bcells bs)), [(9, 1)]⟩) ⟨TSub.refl _, fun i => ?_, rfl, by simp [H.h9]⟩) ?_
          · by_cases h : i = 8
            · subst h
              exact .inr (.inr ⟨bs.length, 3, bs.length, f, bcells bs, by simp [h8], by simp, fun k hk => (hf k hk).symm⟩)
            · exact .of_eq (by simp [h])
          refine .fzc 8 (by simp) (by simp) ?_
          simp [T8, List.replicate, cI, cK]
          refine .seq (.reg ?_)
          simp [r8_12, fzo, h2, h3, h5, outV, hl, -List.length_eq_zero_iff]
          refine .retp (rs := rs8) rfl ?_ ?_ <;> simp [rs8, sLB, hl, -List.length_eq_zero_iff]
      · refine ⟨.done, some .ret, by simp, H.h10, H.h9, by simp, ?_⟩
        have hlen := congrArg List.length hbs
        have full := H.full
        simp at hlen
        have hd : dueL w q n g a b today = ([], 2) := by
          simp [dueL, hE, e, show 4000 < (bsq (due w (qf q n g) (nf q n g) today) b ((b - a).toNat + 1) a a a).length by omega]
        rw [hd]
        simp only [RDone, ablk, athen]
        refine .pure ?_ ?_ <;> simp [rs8, T8, List.replicate, H.h2, H.h3, sLB]
  · simp [hE, kzero]
    refine .seq (.seq (.reg ?_))
    simp [r8_2, hE]
    refine .cond (t := true) (by simp) (fun _ => ?_) (fun e => by cases e)
    refine .seq (.reg ?_)
    simp [r8_3]
    refine .retp (rs := rs8) rfl ?_ ?_ <;> simp [rs8, dueL, hE, sLB]
end Go.Am
set_option linter.unusedVariables false
set_option linter.unusedSimpArgs false
namespace Go.Am
open Go.Proofs
attribute [local simp] areg aop dreg dop AOp.req argv argU AOp.args uncAll AOp.unAll Req.val Req.when putT putH athen ablk reqBin reqInt gcond unc unv pickB ressOk ARes.ok retVal ARes.val cut inr AOp.quiet
attribute [local simp] noRef_int noRef_bool noRef_str noRef_nils noRef_agg noRef_tup noRef_slc noRef_fn
attribute [local simp] vsub_top VSub.refl TSub vsub_int
attribute [local simp] AObj.plain AObj.owned AObj.ep hset h0 reqLoad reqStore acells allOne lay fills ldv fzv fzl fz1
attribute [local simp] rg2 rg3 rg4 rg7
attribute [local simp] one_sLF AVal.one_int AVal.one_bool AVal.one_str AVal.one_nils AVal.one_slc AVal.one_vec AVal.one_ptr AVal.one_eptr AVal.one_cptr AVal.one_nilp AVal.one_fn AVal.one_nilfn AVal.one_mp AVal.one_nilmp
noncomputable def isNew (o : Int → Bn) (x : Bn) : Bool := !decide (x.l = 0) && !(decide ((o x.a).l = x.l) && (decide ((o x.a).a = x.a) && decide ((o x.a).b = x.b)))
noncomputable def nwl (o : Int → Bn) (l : List Bn) : List Bn := l.filter (isNew o)
noncomputable def newL (w : Lw) (q : Nat → Fz) (n : Nat) (g a b before today : Int) : List Bn × Int :=
  if beginE w q n g before ≠ 0 then ([], beginE w q n g before) else if beginE w q n g today ≠ 0 then ([], beginE w q n g today) else if ival a b = false then ([], 3)
  else let l := nwl (due w (qf q n g) (nf q n g) before) (bsq (due w (qf q n g) (nf q n g) today) b ((b - a).toNat + 1) a a a)
    if 4000 < l.length then ([], 2) else (l, 0)
def outV9 (l : List Bn) : AVal := if l.length = 0 then .nils else .vec 9 l.length 0 l.length
structure HC9 (w : Lw) (s : AVal) (before : Int) (o : Int → Bn) (ts : List AVal) (ps : Array Tmp) (asg body : Code) (l0 : List Bn) (h : AHeap) : Prop where
  few : (nwl o l0).length ≤ 4000
  h2 : h 2 = .box 1 [.nils]
  h3 : h 3 = .box 1 [.int .i64 0]
  h4 : h 4 = .box 1 (kcells w s before)
  h6 : h 6 = .box 1 [outV9 (nwl o l0)]
  h7 : (h 7).plain
  h8 : (h 8).plain
  h9 : ((nwl o l0).length = 0 → h 9 = .gone 0) ∧ ((nwl o l0).length ≠ 0 → ∃ f, h 9 = .vec (nwl o l0).length 3 (nwl o l0).length f ∧ ∀ k, k < (nwl o l0).length → f k = bcells (nwl o l0) k)
  h10 : h 10 = .dfr 1
  h11 : h 11 = .loop 1 .ready none ts ps asg body 10 1
structure X9 (o : Int → Bn) (ts : List AVal) (ps : Array Tmp) (asg body : Code) (l : List Bn) (x : Bn) (h : AHeap) : Prop where
  full : (nwl o l).length = 4000
  new : isNew o x = true
  h2 : h 2 = .box 1 [.nils]
  h3 : h 3 = .box 1 [.int .i64 2]
  h10 : h 10 = .dfr 1
  h11 : h 11 = .loop 1 .done (some .ret) ts ps asg body 10 1
theorem HC9.loc {w : Lw} {s : AVal} {before : Int} {o : Int → Bn} {ts : List AVal} {ps : Array Tmp} {asg body : Code} (l : List Bn) (h h' : AHeap) (e : ∀ i, i < 12 → h' i = h i) (H : HC9 w s before o ts ps asg body l h) : HC9 w s before o ts ps asg body l h' :=
  ⟨H.few, (e 2 (by omega)).trans H.h2, (e 3 (by omega)).trans H.h3, (e 4 (by omega)).trans H.h4, (e 6 (by omega)).trans H.h6, by rw [e 7 (by omega)]; exact H.h7, by rw [e 8 (by omega)]; exact H.h8, by rw [e 9 (by omega)]; exact H.h9, (e 10 (by omega)).trans H.h10, (e 11 (by omega)).trans H.h11⟩
def T9 (F : AVal) : List AVal := List.replicate 12 .top ++ [.ptr 2 1 0, .ptr 3 1 0, .ptr 4 1 0, .top, .top, .ptr 6 1 0] ++ List.replicate 31 .top ++ [F] ++ List.replicate 20 .top
theorem nwl_snoc_new {o : Int → Bn} {l : List Bn} {x : Bn} (h : isNew o x = true) : nwl o (l ++ [x]) = nwl o l ++ [x] := by simp [nwl, h]
theorem nwl_snoc_old {o : Int → Bn} {l : List Bn} {x : Bn} (h : isNew o x = false) : nwl o (l ++ [x]) = nwl o l := by simp [nwl, h]
set_option maxHeartbeats 4000000 in
theorem cons9 (w : Lw) (s : AVal) (before : Int) (o : Int → Bn) (ho : ∀ t, 0 ≤ t → t < 1402560 → Still EE Tryd.prog 22 [.agg (kcells w s before), .int .i64 t] (.agg (o t).cells)) (F : AVal) (ps : Array Tmp) (asg body : Code) (hps : ps.toList = [50]) (hasg : checkCode Tryd.prog asg (.reg false (r9_11 0) []) = true) (hbody : checkCode Tryd.prog body (l9_0 0) = true) :
    Consumer 12 11 1 (HC9 w s before o (T9 F) ps asg body) (X9 o (T9 F) ps asg body) := by
  refine ⟨HC9.loc, fun l x h hG H => ?_⟩
  have h7 := H.h7
  have h11 := H.h11
  refine ⟨T9 F, ps, asg, body, 10, 1, H.h11, by rw [← Array.length_toList, hps]; rfl, fun ρ => ?_⟩
  rw [hps]
  refine (AW.reg (ρ := ρ) (pr := []) ?_ : AW EE ρ Tryd.prog (.reg false (r9_11 0) []) _ _) asg hasg
  simp [r9_11, T9, setPs, List.replicate, Bn.cells, h11, -AObj.ep, -AObj.plain]
  refine ⟨h7, ?_⟩
  have h2 := H.h2
  have h3 := H.h3
  have h4 := H.h4
  have h6 := H.h6
  have h8 := H.h8
  have few := H.few
  have h9 := H.h9
  refine (AW.block (id := 1) ?_ : AW EE ρ Tryd.prog (l9_0 0) _ _) body hbody
  by_cases hl : x.l = 0
  · have hnew : isNew o x = false := by simp [isNew, hl]
    refine .seq (.seq (.draw ?_))
    simp [r9_12, dgcall, hl, h4, -AObj.plain]
    refine ⟨.agg [.int .i64 0, .int .i64 0, .int .i64 0], ?_⟩
    simp [eqCells, AVal.kind]
    refine ⟨⟨[], by kernel_rfl⟩, ?_⟩
    refine .cond (t := true) (by simp) (fun _ => ?_) (fun e => by cases e)
    refine .exit ?_
    simp [-AObj.plain]
    refine ⟨⟨none, by simp⟩, .inl ⟨rfl, ⟨by rw [nwl_snoc_old hnew]; exact few, by simp [h2], by simp [h3], by simp [h4], by rw [nwl_snoc_old hnew]; simp [h6], by simp, by simp; exact h8, by rw [nwl_snoc_old hnew]; simpa using h9, by simp [H.h10], by simp [T9, List.replicate]⟩, fun i hi => ?_⟩⟩
    simp [show ¬ (i = 11) by omega, show ¬ (i = 7) by omega]
  · obtain ⟨ha0, ha1⟩ := hG hl
    have hdue := ho x.a ha0 ha1
    refine .seq (.seq (.draw ?_))
    simp [r9_12, dgcall, hl, h4, kcells, -AObj.plain]
    refine ⟨_, [], hdue.on _ _, ?_⟩
    have hnd : isNew o x = !(decide ((o x.a).l = x.l) && (decide ((o x.a).a = x.a) && decide ((o x.a).b = x.b))) := by simp [isNew, hl]
    simp [eqCells, AVal.kind, Bn.cells, -Bool.decide_and]
    refine ⟨by kernel_rfl, ?_⟩
    refine .cond (t := !isNew o x) (by rw [hnd]; simp [-Bool.decide_and]) (fun e => ?_) (fun e => ?_)
    · have hnew : isNew o x = false := by simpa using e
      refine .exit ?_
      simp [-AObj.plain]
      refine ⟨⟨none, by simp⟩, .inl ⟨rfl, ⟨by rw [nwl_snoc_old hnew]; exact few, by simp [h2], by simp [h3], by simp [h4, kcells], by rw [nwl_snoc_old hnew]; simp [h6], by simp, by simp; exact h8, by rw [nwl_snoc_old hnew]; simpa using h9, by simp [H.h10], by simp [T9, List.replicate]⟩, fun i hi => ?_⟩⟩
      simp [show ¬ (i = 11) by omega, show ¬ (i = 7) by omega]
    · have hnew : isNew o x = true := by simpa using e
      refine .skip ?_
      try simp only [athen]
      by_cases hk : (nwl o l).length = 0
      · have h9 := H.h9.1 hk
        refine .seq (.seq (.reg ?_))
        simp [r9_13, h6, outV9, hk, -AObj.ep, -AObj.plain, -List.length_eq_zero_iff]
        refine .cond (t := false) (by simp) (fun e => by cases e) (fun _ => ?_)
        refine .skip ?_
        try simp only [athen]
        refine .reg ?_
        simp [r9_15, h6, h9, outV9, hk, reqAppend, srcOf, elemsOf, -AObj.ep, -AObj.plain, -List.length_eq_zero_iff]
        have hll : (nwl o (l ++ [x])).length = 1 := by rw [nwl_snoc_new hnew]; simp [hk, -List.length_eq_zero_iff]
        have hnil : nwl o l = [] := List.length_eq_zero_iff.1 hk
        refine ⟨h8, trivial, ⟨none, by simp⟩, .inl ⟨rfl, ⟨by omega, by simp [h2], by simp [h3], by simp [h4, kcells], by simp [outV9, hll], by simp, by simp, ⟨fun e => by omega, fun _ => ⟨_, by simp [hll]; rfl, fun k hk' => ?_⟩⟩, by simp [H.h10], by simp [T9, List.replicate]⟩, fun i hi => ?_⟩⟩
        · obtain rfl : k = 0 := by omega
          rw [nwl_snoc_new hnew]
          simp [hnil, bcells, Bn.cells]
        · simp [show ¬ (i = 11) by omega, show ¬ (i = 6) by omega, show ¬ (i = 9) by omega, show ¬ (i = 8) by omega, show ¬ (i = 7) by omega]
      · obtain ⟨f, h9, hf⟩ := H.h9.2 hk
        refine .seq (.seq (.reg ?_))
        simp [r9_13, h6, h9, outV9, hk, -AObj.plain, -List.length_eq_zero_iff]
        refine .cond (t := decide ((nwl o l).length = 4000)) (by simp; omega) (fun e => ?_) (fun e => ?_)
        · simp only [decide_eq_true_eq] at e
          refine .seq (.reg ?_)
          simp [r9_14, h2, h3, -AObj.plain]
          refine .ret ?_
          refine ⟨⟨none, by simp⟩, .inr ⟨rfl, ⟨e, hnew, by simp, by simp, by simp [H.h10], by simp [T9, List.replicate]⟩⟩⟩
        · simp only [decide_eq_false_iff_not] at e
          refine .skip ?_
          try simp only [athen]
          refine .reg ?_
          simp [r9_15, h6, h9, outV9, hk, reqAppend, srcOf, elemsOf, -AObj.plain, -List.length_eq_zero_iff]
          have hll : (nwl o (l ++ [x])).length = (nwl o l).length + 1 := by rw [nwl_snoc_new hnew]; simp
          refine ⟨h8, by omega, ⟨none, by simp⟩, .inl ⟨rfl, ⟨by omega, by simp [h2], by simp [h3], by simp [h4, kcells], by simp [outV9, hll], by simp, by simp, ⟨fun e => by omega, fun _ => ⟨_, by simp [hll]; rfl, fun k hk' => ?_⟩⟩, by simp [H.h10], by simp [T9, List.replicate]⟩, fun i hi => ?_⟩⟩
          · rw [nwl_snoc_new hnew]
            by_cases hk2 : k < (nwl o l).length
            · simp [hk2, hf k hk2, bcells, List.getElem?_append]
            · obtain rfl : k = (nwl o l).length := by omega
              simp [bcells, Bn.cells]
          · simp [show ¬ (i = 11) by omega, show ¬ (i = 6) by omega, show ¬ (i = 9) by omega, show ¬ (i = 8) by omega, show ¬ (i = 7) by omega]
set_option maxHeartbeats 4000000 in
theorem new9_st (w : Lw) (q : Nat → Fz) (n : Nat) (hn : n < 4611686018427387904) (g a b before today : Int) :
    Still EE Tryd.prog 9 [.agg w.cells, .slc 3 n (fun i => (q i).cells), .int .i64 g, .agg [.int .i64 a, .int .i64 b], .int .i64 before, .int .i64 today] (.tup [sLB (newL w q n g a b before today).1, .int .i64 (newL w q n g a b before today).2]) := by
  refine Pure.still ?_ hEE (by simp [Lw.cells, nrF, -noRef_slc]) (by simp [nr_sLB])
  obtain ⟨c, hb, hc⟩ := ck9
  refine Pure.of (fn := Tryd.f9) rfl hb cr9 (hc 0) 64 rfl ?_
  refine .seq (.reg ?_)
  simp [r9_0, Lw.cells]
  refine .seq (.reg ?_)
  simp [r9_1]
  refine (begin_st w q n hn g before).call ?_
  by_cases hE : beginE w q n g before = 0
  · obtain ⟨hn1, hb0, hb1⟩ := begin_ok hE
    simp [hE, kcells]
    skip
    refine .seq (.seq (.reg ?_))
    simp [r9_2]
    refine .cond (t := false) (by simp) (fun e => by cases e) (fun _ => ?_)
    refine .skip ?_
    try simp
    refine .seq (.reg ?_)
    simp [r9_4]
    refine (begin_st w q n hn g today).call ?_
    by_cases hE2 : beginE w q n g today = 0
    · obtain ⟨_, ht0, ht1⟩ := begin_ok hE2
      simp [hE2, kcells]
      skip
      refine .seq (.seq (.reg ?_))
      simp [r9_5]
      refine .cond (t := false) (by simp) (fun e => by cases e) (fun _ => ?_)
      refine .skip ?_
      try simp
      refine .seq (.seq (.reg ?_))
      simp [r9_7]
      refine (interval_st a b).call ?_
      simp
      refine .cond (t := !ival a b) (by simp) (fun e => ?_) (fun e => ?_)
      · refine .seq (.reg ?_)
        simp [r9_8]
        simp at e
        refine .retp (rs := rs9) rfl ?_ ?_ <;> simp [rs9, newL, hE, hE2, e, sLB]
      · simp at e
        refine .skip ?_
        try simp
        refine .seq (.reg ?_)
        simp [r9_9]
        refine .seq (.seq (.reg ?_))
        simp [r9_10]
        refine (bins_st w (sLF (fl q g n)) (nr_sLF _) today a b).call ?_
        try simp
        have hi : 0 ≤ a ∧ a ≤ b ∧ b ≤ 1402560 := by simp [ival] at e; omega
        refine .block (.see (.of_sub (S' := ⟨T9 (.fn 48 [cI a b, cK w (sLF (fl q g n)) today]), _, []⟩) ⟨?_, fun i => .refl _, rfl, by simp⟩) (.rfunc (fi := 48) (caps := [cI a b, cK w (sLF (fl q g n)) today]) 10 11 (by omega) (by simp) (by simp) (by simp [T9, List.replicate]) (by kernel_rfl) ?_))
        · simp [T9, List.replicate]
        intro ps' asg body hps hasg hbody
        have ho : ∀ t, 0 ≤ t → t < 1402560 → Still EE Tryd.prog 22 [.agg (kcells w (sLF (fl q g n)) before), .int .i64 t] (.agg (due w (qf q n g) (nf q n g) before t).cells) := fun t h1 h2 => due_st w (qf q n g) (nf q n g) (sLF (fl q g n)) (sl_sLF q n g) (nf_lt hn1) before t hb0 hb1 h1 h2
        have hd0 : newL w q n g a b before today = (if 4000 < (nwl (due w (qf q n g) (nf q n g) before) (bsq (due w (qf q n g) (nf q n g) today) b ((b - a).toNat + 1) a a a)).length then ([], 2) else (nwl (due w (qf q n g) (nf q n g) before) (bsq (due w (qf q n g) (nf q n g) today) b ((b - a).toNat + 1) a a a), 0)) := by
          simp [newL, hE, hE2, e]
        rw [hd0]
        clear hd0
        generalize due w (qf q n g) (nf q n g) before = o at *
        refine (bins1_ok w (qf q n g) (nf q n g) (sLF (fl q g n)) (sl_sLF q n g) (nf_lt hn1) today ht0 ht1 a b hi.1 hi.2.1 hi.2.2 12 11 1 _ _ (cons9 w (sLF (fl q g n)) before o ho (.fn 48 [cI a b, cK w (sLF (fl q g n)) today]) ps' asg body hps hasg hbody) ((b - a).toNat + 1) (by omega) _ ?_ ?_).mono ?_
        · exact ⟨by simp [nwl], by simp, by simp, by simp [kcells], by simp [outV9, nwl], by simp, by simp, ⟨fun _ => by simp, fun e => absurd rfl e⟩, by simp, by simp⟩
        · intro i hi
          simp [show ¬ (i = 0) by omega, show ¬ (i = 1) by omega, show ¬ (i = 2) by omega, show ¬ (i = 3) by omega, show ¬ (i = 4) by omega, show ¬ (i = 5) by omega, show ¬ (i = 6) by omega, show ¬ (i = 10) by omega, show ¬ (i = 11) by omega]
        generalize bsq (due w (qf q n g) (nf q n g) today) b ((b - a).toNat + 1) a a a = bs0 at *
        rintro r h' (H | ⟨l, x, rest, hbs, H⟩)
        · refine ⟨.ready, none, by simp, H.h11, H.h10, by simp, ?_⟩
          have h2 := H.h2
          have h3 := H.h3
          have h6 := H.h6
          have few := H.few
          have h9 := H.h9
          rw [if_neg (show ¬ (4000 < (nwl o bs0).length) by omega)]
          generalize nwl o bs0 = bs at *
          simp only [RDone, ablk, athen]
          by_cases hl : bs.length = 0
          · refine .seq (.reg ?_)
            simp [r9_16, T9, List.replicate, h2, h3, h6, outV9, hl, -List.length_eq_zero_iff]
            refine .retp (rs := rs9) rfl ?_ ?_ <;> simp [rs9, sLB, hl, -List.length_eq_zero_iff]
          · obtain ⟨f, h9, hf⟩ := h9.2 hl
            refine .see (.of_sub (S' := ⟨T9 (.fn 48 [cI a b, cK w (sLF (fl q g n)) today]), hset (hset h' 11 (.gone 1)) 9 (.vec bs.length 3 bs.length (bcells bs)), [(10, 1)]⟩) ⟨TSub.refl _, fun i => ?_, rfl, by simp [H.h10]⟩) ?_
            · by_cases h : i = 9
              · subst h
                exact .inr (.inr ⟨bs.length, 3, bs.length, f, bcells bs, by simp [h9], by simp, fun k hk => (hf k hk).symm⟩)
              · exact .of_eq (by simp [h])
            refine .fzc 9 (by simp) (by simp) ?_
            simp [T9, List.replicate, cI, cK]
            refine .seq (.reg ?_)
            simp [r9_16, fzo, h2, h3, h6, outV9, hl, -List.length_eq_zero_iff]
            refine .retp (rs := rs9) rfl ?_ ?_ <;> simp [rs9, sLB, hl, -List.length_eq_zero_iff]
        · refine ⟨.done, some .ret, by simp, H.h11, H.h10, by simp, ?_⟩
          have full := H.full
          have hnw := H.new
          have hlen : 4000 < (nwl o bs0).length := by
            rw [hbs]
            simp only [nwl, List.filter_append, List.length_append, List.filter_cons, hnw, if_true, List.length_cons] at full ⊢
            omega
          rw [if_pos hlen]
          simp only [RDone, ablk, athen]
          refine .pure ?_ ?_ <;> simp [rs9, T9, List.replicate, H.h2, H.h3, sLB]
    · simp [hE2, kzero]
      refine .seq (.seq (.reg ?_))
      simp [r9_5, hE2]
      refine .cond (t := true) (by simp) (fun _ => ?_) (fun e => by cases e)
      refine .seq (.reg ?_)
      simp [r9_6]
      refine .retp (rs := rs9) rfl ?_ ?_ <;> simp [rs9, newL, hE, hE2, sLB]
  · simp [hE, kzero]
    refine .seq (.seq (.reg ?_))
    simp [r9_2, hE]
    refine .cond (t := true) (by simp) (fun _ => ?_) (fun e => by cases e)
    refine .seq (.reg ?_)
    simp [r9_3]
    refine .retp (rs := rs9) rfl ?_ ?_ <;> simp [rs9, newL, hE, sLB]
end Go.Am
