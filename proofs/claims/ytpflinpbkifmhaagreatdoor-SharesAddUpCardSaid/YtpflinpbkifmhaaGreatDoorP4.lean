/- Part P4 of the proof that the last part closes: contracts of the functions of this seat. No condition. -/
import Derived.Test.YtpflinpbkifmhaaGreatDoorF1
import Derived.Test.YtpflinpbkifmhaaGreatDoorG1
import Derived.Test.YtpflinpbkifmhaaGreatDoorX1
import Derived.Test.YtpflinpbkifmhaaGreatDoorP1
import Derived.Test.YtpflinpbkifmhaaGreatDoorP2
import Derived.Test.YtpflinpbkifmhaaGreatDoorP3
set_option linter.unusedVariables false
set_option linter.unusedSimpArgs false
set_option maxRecDepth 100000
namespace Go.Am
open Go.Proofs
attribute [local simp] areg aop dreg dop AOp.req argv argU AOp.args wze AOp.unAll Req.val Req.when putT putH qzdb ablk qzfc qzbd qzg6 vzl qzcj qzif qzid qzh7 qzh1 qzhy qzko qzhz qzji qzim qzgg qznh qzj2 qzkg qzjx IntKind.bits vz1 ARes.ok ARes.val vz5 cut AOp.quiet
attribute [local simp] qzc0 qzbz qzcz qze2 qzer qzep kzp qz1 qzh2 qzij
attribute [local simp] qzm6 qzj7 qzhq qzih qzm4 look qz8 zipA wm wh
attribute [local simp] qzm7 qzpn qzpz qzmg qzpx qzmf qzpo qzqa qzpi qzqk qzpm w_fn qznc qzjs qzjh qzhs qzj1 qzmh qzmi AObj.ep AObj.plain AObj.owned
attribute [local simp] wz9 qzbw qzeu qzdp qzey qzd2 qze5 qzfk qze7 qzdi qzdk qzd0 qzgy qzcq qzg5 qzc6 qzfa vz6 lay jzv ldv wzu qz5 kz1 qz9 qzgh wzd AVal.kind
attribute [local simp] AVal.one_int AVal.one_bool AVal.one_str AVal.one_nils AVal.one_slc AVal.one_vec AVal.one_ptr AVal.one_eptr AVal.one_cptr AVal.one_nilp AVal.one_fn AVal.one_nilfn AVal.one_mp AVal.one_nilmp
attribute [local simp] qzkh qzkv qzh8 qzh4 qzkt qzjr qzii qzik qzjn qzkm qzjf qzjw qzkl qzje qzh6 qzhx qzin qzig qzh5 qzio qzm9 qzna qzgf qzgr qzmt qzmr qzgn qzgz qzj6 qzj9 qzjv qzka qzju qzki qzkr qzku
attribute [local simp] qzh cI cB cS cL qzc3 qzdh qzdz qzb7 qzg1 qzh0 qzgc qziq fzm fzh fzv fzl fz1 qzjm qzhw qzjp qzjl qzjk List.range_succ qzd5 qze0 qzfg qzco qzdq qzdu qzag qzdw qzd4
attribute [local simp] qzj0
attribute [local simp] qza.cells
attribute [local simp] qzb.cells
attribute [local simp] qze.cells
attribute [local simp] kzi.cells
attribute [local simp] qz6.cells
attribute [local simp] qzf.cells
attribute [local simp] jzi.cells
attribute [local simp] vzs.cells
attribute [local simp] vzu.cells
attribute [local simp] kzj.cells
attribute [local simp] jzh.cells
attribute [local simp] jzk.cells
set_option maxHeartbeats 4000000
attribute [local simp] qzcs qzdm fnArgs
abbrev qzac (r1 : qza) (r10 : qza) (r11 : qza) (r12 : qza) (r13 : List qza) (r16 : qza) (r17 : qza) (r18 : qza) (r2 : qza) (r3 : qza) (r4 : qza) (r5 : qza) (r9 : List qza) (ep6 : Nat) (s : Int) (ex : Nat) : List (Nat × AVal) := match s, ex with | t77, ep9 => [(1, slcV 8 qzb.cells [(qzb.mk 0 1 r1 r2), (qzb.mk 1 2 (qza.mk false [] []) r3), (qzb.mk 2 1 r4 r5)]), (3, .vec 5 1 0 (List.length [r9, [r10, r11, r12], r13])), (8, .vec 7 1 0 (List.length [(qza.mk false [] []), r16, r17, r18])), (75, .vec 8 1 0 (List.length [3, 5, 10, 17])), (76, .int .i64 (List.length [3, 5, 10, 17] : Int)), (77, .int .i64 t77)]
abbrev yz2 (r1 : qza) (r10 : qza) (r11 : qza) (r12 : qza) (r13 : List qza) (r16 : qza) (r17 : qza) (r18 : qza) (r2 : qza) (r3 : qza) (r4 : qza) (r5 : qza) (r9 : List qza) (ep6 : Nat) (s : Int) (ex : Nat) : List (Nat × AObj) := match s, ex with | t77, ep9 => [(0, .gone 2), (1, .gone 1), (2, .gone 2), (3, .gone 2), (4, .gone 2), (5, .vec 1 1 (List.length [r9, [r10, r11, r12], r13]) (qzd (cL 3 qza.cells) [r9, [r10, r11, r12], r13])), (6, .gone ep6), (7, .vec 1 3 (List.length [(qza.mk false [] []), r16, r17, r18]) (qzd qza.cells [(qza.mk false [] []), r16, r17, r18])), (8, .vec 1 1 (List.length [3, 5, 10, 17]) (qzd (cI .i64) [3, 5, 10, 17])), (9, .gone ep9)]
abbrev qzfm (r1 : qza) (r10 : qza) (r11 : qza) (r12 : qza) (r13 : List qza) (r16 : qza) (r17 : qza) (r18 : qza) (r2 : qza) (r3 : qza) (r4 : qza) (r5 : qza) (r9 : List qza) (ep6 : Nat) : Unit ⊕ Bool → Exit → ASt → Prop := fun o ex S' => match o with | .inl () => ∃ ep9 : Nat, ex = .exit 2 ∧ See EE S' ⟨tl [(1, slcV 8 qzb.cells [(qzb.mk 0 1 r1 r2), (qzb.mk 1 2 (qza.mk false [] []) r3), (qzb.mk 2 1 r4 r5)]), (3, .vec 5 1 0 (List.length [r9, [r10, r11, r12], r13]))] 207, hl [(0, .gone 2), (1, .gone 1), (2, .gone 2), (3, .gone 2), (4, .gone 2), (5, .vec 1 1 (List.length [r9, [r10, r11, r12], r13]) (qzd (cL 3 qza.cells) [r9, [r10, r11, r12], r13])), (6, .gone ep6), (7, .vec 1 3 (List.length [(qza.mk false [] []), r16, r17, r18]) (qzd qza.cells [(qza.mk false [] []), r16, r17, r18])), (8, .vec 1 1 (List.length [3, 5, 10, 17]) (qzd (cI .i64) [3, 5, 10, 17])), (9, .gone ep9)], []⟩ | .inr o => ex = .ret ∧ Post EE rs9 (fun x _ => x = .bool o) .ret S'
theorem qzlj (r1 : qza) (r10 : qza) (r11 : qza) (r12 : qza) (r13 : List qza) (r16 : qza) (r17 : qza) (r18 : qza) (r2 : qza) (r3 : qza) (r4 : qza) (r5 : qza) (r9 : List qza) (ep6 : Nat) (t77 : Int) (ep9 : Nat) (QQ : Int ⊕ (Unit ⊕ Bool) → Prop) (h : Ok (qzdg r1 r16 r17 r18 r2 r3 r4 r5 t77) QQ) : AW EE none Tryz.prog (l9_1 0) (fun ex S' => (∃ s' e', ex = .normal ∧ QQ (.inl s') ∧ See EE S' ⟨tl ((qzac r1 r10 r11 r12 r13 r16 r17 r18 r2 r3 r4 r5 r9 ep6) s' e') 207, hl ((yz2 r1 r10 r11 r12 r13 r16 r17 r18 r2 r3 r4 r5 r9 ep6) s' e'), []⟩) ∨ (∃ o, QQ (.inr o) ∧ ex ≠ .normal ∧ (qzfm r1 r10 r11 r12 r13 r16 r17 r18 r2 r3 r4 r5 r9 ep6) o ex S')) ⟨tl [(1, slcV 8 qzb.cells [(qzb.mk 0 1 r1 r2), (qzb.mk 1 2 (qza.mk false [] []) r3), (qzb.mk 2 1 r4 r5)]), (3, .vec 5 1 0 (List.length [r9, [r10, r11, r12], r13])), (8, .vec 7 1 0 (List.length [(qza.mk false [] []), r16, r17, r18])), (75, .vec 8 1 0 (List.length [3, 5, 10, 17])), (76, .int .i64 (List.length [3, 5, 10, 17] : Int)), (77, .int .i64 t77)] 207, hl [(0, .gone 2), (1, .gone 1), (2, .gone 2), (3, .gone 2), (4, .gone 2), (5, .vec 1 1 (List.length [r9, [r10, r11, r12], r13]) (qzd (cL 3 qza.cells) [r9, [r10, r11, r12], r13])), (6, .gone ep6), (7, .vec 1 3 (List.length [(qza.mk false [] []), r16, r17, r18]) (qzd qza.cells [(qza.mk false [] []), r16, r17, r18])), (8, .vec 1 1 (List.length [3, 5, 10, 17]) (qzd (cI .i64) [3, 5, 10, 17])), (9, .gone ep9)], []⟩ := by
 unfold qzdg at h
 refine AW.rS [(1, slcV 8 qzb.cells [(qzb.mk 0 1 r1 r2), (qzb.mk 1 2 (qza.mk false [] []) r3), (qzb.mk 2 1 r4 r5)]), (3, .vec 5 1 0 (List.length [r9, [r10, r11, r12], r13])), (8, .vec 7 1 0 (List.length [(qza.mk false [] []), r16, r17, r18])), (75, .vec 8 1 0 (List.length [3, 5, 10, 17])), (76, .int .i64 (List.length [3, 5, 10, 17] : Int)), (77, .int .i64 t77), (78, .bool (decide (t77 < (List.length [3, 5, 10, 17] : Int))))] [(0, .gone 2), (1, .gone 1), (2, .gone 2), (3, .gone 2), (4, .gone 2), (5, .vec 1 1 (List.length [r9, [r10, r11, r12], r13]) (qzd (cL 3 qza.cells) [r9, [r10, r11, r12], r13])), (6, .gone ep6), (7, .vec 1 3 (List.length [(qza.mk false [] []), r16, r17, r18]) (qzd qza.cells [(qza.mk false [] []), r16, r17, r18])), (8, .vec 1 1 (List.length [3, 5, 10, 17]) (qzd (cI .i64) [3, 5, 10, 17])), (9, .gone ep9)] ?_ ?_
 ·simp [qz48, -Int.pred_toNat]
  all_goals exact zq1
 refine .seq ?_
 refine AW.ifF (decide (t77 < (List.length [3, 5, 10, 17] : Int))) rfl (by simp) (fun e => ?_) (fun e => ?_)
 ·replace h := h.pos e
  refine AW.skip ?_
  refine .seq ?_
  refine .block ?_
  obtain ⟨x3, h22, h⟩ := h.at
  refine AW.rS [(1, slcV 8 qzb.cells [(qzb.mk 0 1 r1 r2), (qzb.mk 1 2 (qza.mk false [] []) r3), (qzb.mk 2 1 r4 r5)]), (3, .vec 5 1 0 (List.length [r9, [r10, r11, r12], r13])), (8, .vec 7 1 0 (List.length [(qza.mk false [] []), r16, r17, r18])), (9, .int .i64 t77), (10, .int .i64 x3), (75, .vec 8 1 0 (List.length [3, 5, 10, 17])), (76, .int .i64 (List.length [3, 5, 10, 17] : Int)), (77, .int .i64 t77)] [(0, .gone 2), (1, .gone 1), (2, .gone 2), (3, .gone 2), (4, .gone 2), (5, .vec 1 1 (List.length [r9, [r10, r11, r12], r13]) (qzd (cL 3 qza.cells) [r9, [r10, r11, r12], r13])), (6, .gone ep6), (7, .vec 1 3 (List.length [(qza.mk false [] []), r16, r17, r18]) (qzd qza.cells [(qza.mk false [] []), r16, r17, r18])), (8, .vec 1 1 (List.length [3, 5, 10, 17]) (qzd (cI .i64) [3, 5, 10, 17])), (9, .gone ep9)] ?_ ?_
  ·obtain ⟨f4a, f4b, f4c⟩ := h22
   have f4d : qzd (cI .i64) [3, 5, 10, 17] (Int.toNat t77) = (cI .i64) x3 := qzo f4c
   have f4e : Int.toNat t77 < List.length [3, 5, 10, 17] := by omega
   simp [wzbz, -Int.pred_toNat, f4a, f4b, f4d, f4e]
   (repeat' apply And.intro) <;> first | omega | (simp at * <;> omega) | (intro _; intros; simp_all; done) | exact .mk (by simp [-Int.pred_toNat, f4a, f4b, f4d, f4e]) (by simp [-Int.pred_toNat, f4a, f4b, f4d, f4e]) rfl
  obtain ⟨r19, h23, h⟩ := h.ex
  obtain ⟨r20, h24, h⟩ := h.ex
  refine AW.rS [(1, slcV 8 qzb.cells [(qzb.mk 0 1 r1 r2), (qzb.mk 1 2 (qza.mk false [] []) r3), (qzb.mk 2 1 r4 r5)]), (3, .vec 5 1 0 (List.length [r9, [r10, r11, r12], r13])), (8, .vec 7 1 0 (List.length [(qza.mk false [] []), r16, r17, r18])), (9, .int .i64 t77), (11, .ptr 9 (ep9 + 1) 0), (12, .int .i64 r20.2), (75, .vec 8 1 0 (List.length [3, 5, 10, 17])), (76, .int .i64 (List.length [3, 5, 10, 17] : Int)), (77, .int .i64 t77)] [(0, .gone 2), (1, .gone 1), (2, .gone 2), (3, .gone 2), (4, .gone 2), (5, .vec 1 1 (List.length [r9, [r10, r11, r12], r13]) (qzd (cL 3 qza.cells) [r9, [r10, r11, r12], r13])), (6, .gone ep6), (7, .vec 1 3 (List.length [(qza.mk false [] []), r16, r17, r18]) (qzd qza.cells [(qza.mk false [] []), r16, r17, r18])), (8, .vec 1 1 (List.length [3, 5, 10, 17]) (qzd (cI .i64) [3, 5, 10, 17])), (9, .box (ep9 + 1) (qza.cells r20.1))] ?_ ?_
  ·simp [qz4u, -Int.pred_toNat]
   (repeat' apply And.intro) <;> try first | omega | (simp at * <;> omega)
   refine (qzv x3  _ h23).ca (by simp [-Int.pred_toNat]) ?_
   (try simp [-Int.pred_toNat])
   (repeat' apply And.intro) <;> try first | omega | (simp at * <;> omega)
   refine (qzbt [(qzb.mk 0 1 r1 r2), (qzb.mk 1 2 (qza.mk false [] []) r3), (qzb.mk 2 1 r4 r5)] r19  _ h24).ca (by simp [-Int.pred_toNat]) ?_
   (try simp [-Int.pred_toNat])
   all_goals exact zq1
  obtain ⟨x4, h25, h⟩ := h.ex
  refine AW.dS [(1, slcV 8 qzb.cells [(qzb.mk 0 1 r1 r2), (qzb.mk 1 2 (qza.mk false [] []) r3), (qzb.mk 2 1 r4 r5)]), (3, .vec 5 1 0 (List.length [r9, [r10, r11, r12], r13])), (8, .vec 7 1 0 (List.length [(qza.mk false [] []), r16, r17, r18])), (75, .vec 8 1 0 (List.length [3, 5, 10, 17])), (76, .int .i64 (List.length [3, 5, 10, 17] : Int)), (77, .int .i64 t77), (98, .bool (bif (!decide (r20.2 = 0)) then true else (!((r20.1.Neg == x4.Neg) && (decide (r20.1.Num = x4.Num) && (decide (r20.1.Den = x4.Den) && true))))))] [(0, .gone 2), (1, .gone 1), (2, .gone 2), (3, .gone 2), (4, .gone 2), (5, .vec 1 1 (List.length [r9, [r10, r11, r12], r13]) (qzd (cL 3 qza.cells) [r9, [r10, r11, r12], r13])), (6, .gone ep6), (7, .vec 1 3 (List.length [(qza.mk false [] []), r16, r17, r18]) (qzd qza.cells [(qza.mk false [] []), r16, r17, r18])), (8, .vec 1 1 (List.length [3, 5, 10, 17]) (qzd (cI .i64) [3, 5, 10, 17])), (9, .gone (ep9 + 1))] ?_ ?_
  ·rcases Bool.eq_false_or_eq_true (!(!decide (r20.2 = 0))) with e1 | e1
   ·have e1n := e1
    (try simp at e1n)
    obtain ⟨f5a, f5b, f5c⟩ := qzlv (gd_t e1 h25)
    have f5d : qzd qza.cells [(qza.mk false [] []), r16, r17, r18] (Int.toNat t77) = qza.cells x4 := qzo f5c
    have f5e : Int.toNat t77 < List.length [(qza.mk false [] []), r16, r17, r18] := by omega
    simp [qzwg, -Int.pred_toNat, e1, e1n, f5a, f5b, f5d, f5e]
    (repeat' apply And.intro) <;> first | omega | (simp at * <;> omega) | kernel_rfl | (intro _; intros; simp_all; done) | exact .mk (by simp [-Int.pred_toNat, e1, e1n, f5a, f5b, f5d, f5e]) (by simp [-Int.pred_toNat, e1, e1n, f5a, f5b, f5d, f5e]) rfl
   ·have e1n := e1
    (try simp at e1n)
    simp [qzwg, -Int.pred_toNat, e1, e1n]
    (repeat' apply And.intro) <;> first | omega | (simp at * <;> omega) | kernel_rfl | (intro _; intros; simp_all; done) | exact .mk (by simp [-Int.pred_toNat, e1, e1n]) (by simp [-Int.pred_toNat, e1, e1n]) rfl
  refine AW.ifF (bif (!decide (r20.2 = 0)) then true else (!((r20.1.Neg == x4.Neg) && (decide (r20.1.Num = x4.Num) && (decide (r20.1.Den = x4.Den) && true))))) rfl (by simp) (fun e => ?_) (fun e => ?_)
  ·replace h := h.pos e
   refine AW.rS [(0, .bool false)] [(0, .gone 2), (1, .gone 1), (2, .gone 2), (3, .gone 2), (4, .gone 2), (5, .gone 1), (6, .gone ep6), (7, .gone 1), (8, .gone 1), (9, .gone (ep9 + 1))] ?_ ?_
   ·simp [qz69, -Int.pred_toNat]
    all_goals exact zq1
   exact .ret (.inr ⟨.inr false, h.some, by simp, rfl, .wk (rs := rs9) [(0, .bool false)] [(0, .gone 2), (1, .gone 1), (2, .gone 2), (3, .gone 2), (4, .gone 2), (5, .gone 1), (6, .gone ep6), (7, .gone 1), (8, .gone 1), (9, .gone (ep9 + 1))] (by simp) (by simp) rfl (by simp [rs9]) (by simp [rs9]; try rfl)⟩)
  ·replace h := h.neg e
   refine AW.skip ?_
   obtain ⟨h26, h⟩ := h.ck
   refine AW.rE [(1, slcV 8 qzb.cells [(qzb.mk 0 1 r1 r2), (qzb.mk 1 2 (qza.mk false [] []) r3), (qzb.mk 2 1 r4 r5)]), (3, .vec 5 1 0 (List.length [r9, [r10, r11, r12], r13])), (8, .vec 7 1 0 (List.length [(qza.mk false [] []), r16, r17, r18])), (75, .vec 8 1 0 (List.length [3, 5, 10, 17])), (76, .int .i64 (List.length [3, 5, 10, 17] : Int)), (77, .int .i64 (t77 + 1))] [(0, .gone 2), (1, .gone 1), (2, .gone 2), (3, .gone 2), (4, .gone 2), (5, .vec 1 1 (List.length [r9, [r10, r11, r12], r13]) (qzd (cL 3 qza.cells) [r9, [r10, r11, r12], r13])), (6, .gone ep6), (7, .vec 1 3 (List.length [(qza.mk false [] []), r16, r17, r18]) (qzd qza.cells [(qza.mk false [] []), r16, r17, r18])), (8, .vec 1 1 (List.length [3, 5, 10, 17]) (qzd (cI .i64) [3, 5, 10, 17])), (9, .gone (ep9 + 1))] ?_ (fun S' hs2 => ?_)
   ·have f6 := qzr h26
    simp [qz7l, -Int.pred_toNat, f6]
    (repeat' apply And.intro) <;> first | omega | (simp at * <;> omega) | (intro _; intros; simp_all; done) | exact .mk (by simp [-Int.pred_toNat, f6]) (by simp [-Int.pred_toNat, f6]) rfl
   exact .inl ⟨(t77 + 1), (ep9 + 1), rfl, h.some, (hs2.trans (.wk (by simp [qzac]) (by simp [yz2]) rfl))⟩
 ·replace h := h.neg e
  refine .exit ?_
  exact .inr ⟨.inl (), h.some, by simp, ⟨ep9, rfl, (.wk (by simp) (by simp) rfl)⟩⟩
abbrev qzab (r1 : qza) (r10 : qza) (r11 : qza) (r12 : qza) (r13 : List qza) (r2 : qza) (r3 : qza) (r4 : qza) (r5 : qza) (r6 : qza) (r7 : qza) (r8 : qza) (r9 : List qza) (s : Int) (ex : Nat) : List (Nat × AVal) := match s, ex with | t47, ep6 => [(1, slcV 8 qzb.cells [(qzb.mk 0 1 r1 r2), (qzb.mk 1 2 (qza.mk false [] []) r3), (qzb.mk 2 1 r4 r5)]), (3, .vec 5 1 0 (List.length [r9, [r10, r11, r12], r13])), (45, .vec 1 1 0 (List.length [r6, r7, r8])), (46, .int .i64 (List.length [r6, r7, r8] : Int)), (47, .int .i64 t47)]
abbrev yz9 (r1 : qza) (r10 : qza) (r11 : qza) (r12 : qza) (r13 : List qza) (r2 : qza) (r3 : qza) (r4 : qza) (r5 : qza) (r6 : qza) (r7 : qza) (r8 : qza) (r9 : List qza) (s : Int) (ex : Nat) : List (Nat × AObj) := match s, ex with | t47, ep6 => [(0, .gone 2), (1, .vec 1 3 (List.length [r6, r7, r8]) (qzd qza.cells [r6, r7, r8])), (2, .gone 2), (3, .gone 2), (4, .gone 2), (5, .vec 1 1 (List.length [r9, [r10, r11, r12], r13]) (qzd (cL 3 qza.cells) [r9, [r10, r11, r12], r13])), (6, .gone ep6)]
abbrev qzfq (r1 : qza) (r10 : qza) (r11 : qza) (r12 : qza) (r13 : List qza) (r2 : qza) (r3 : qza) (r4 : qza) (r5 : qza) (r6 : qza) (r7 : qza) (r8 : qza) (r9 : List qza) : Unit ⊕ Bool → Exit → ASt → Prop := fun o ex S' => match o with | .inl () => ∃ ep6 : Nat, ex = .exit 0 ∧ See EE S' ⟨tl [(1, slcV 8 qzb.cells [(qzb.mk 0 1 r1 r2), (qzb.mk 1 2 (qza.mk false [] []) r3), (qzb.mk 2 1 r4 r5)]), (3, .vec 5 1 0 (List.length [r9, [r10, r11, r12], r13]))] 207, hl [(0, .gone 2), (1, .vec 1 3 (List.length [r6, r7, r8]) (qzd qza.cells [r6, r7, r8])), (2, .gone 2), (3, .gone 2), (4, .gone 2), (5, .vec 1 1 (List.length [r9, [r10, r11, r12], r13]) (qzd (cL 3 qza.cells) [r9, [r10, r11, r12], r13])), (6, .gone ep6)], []⟩ | .inr o => ex = .ret ∧ Post EE rs9 (fun x _ => x = .bool o) .ret S'
theorem qzlf (r1 : qza) (r10 : qza) (r11 : qza) (r12 : qza) (r13 : List qza) (r2 : qza) (r3 : qza) (r4 : qza) (r5 : qza) (r6 : qza) (r7 : qza) (r8 : qza) (r9 : List qza) (t47 : Int) (ep6 : Nat) (QQ : Int ⊕ (Unit ⊕ Bool) → Prop) (h : Ok (qzdf r1 r10 r11 r12 r13 r2 r3 r4 r5 r6 r7 r8 r9 t47) QQ) : AW EE none Tryz.prog (l9_0 0) (fun ex S' => (∃ s' e', ex = .normal ∧ QQ (.inl s') ∧ See EE S' ⟨tl ((qzab r1 r10 r11 r12 r13 r2 r3 r4 r5 r6 r7 r8 r9) s' e') 207, hl ((yz9 r1 r10 r11 r12 r13 r2 r3 r4 r5 r6 r7 r8 r9) s' e'), []⟩) ∨ (∃ o, QQ (.inr o) ∧ ex ≠ .normal ∧ (qzfq r1 r10 r11 r12 r13 r2 r3 r4 r5 r6 r7 r8 r9) o ex S')) ⟨tl [(1, slcV 8 qzb.cells [(qzb.mk 0 1 r1 r2), (qzb.mk 1 2 (qza.mk false [] []) r3), (qzb.mk 2 1 r4 r5)]), (3, .vec 5 1 0 (List.length [r9, [r10, r11, r12], r13])), (45, .vec 1 1 0 (List.length [r6, r7, r8])), (46, .int .i64 (List.length [r6, r7, r8] : Int)), (47, .int .i64 t47)] 207, hl [(0, .gone 2), (1, .vec 1 3 (List.length [r6, r7, r8]) (qzd qza.cells [r6, r7, r8])), (2, .gone 2), (3, .gone 2), (4, .gone 2), (5, .vec 1 1 (List.length [r9, [r10, r11, r12], r13]) (qzd (cL 3 qza.cells) [r9, [r10, r11, r12], r13])), (6, .gone ep6)], []⟩ := by
 unfold qzdf at h
 refine AW.rS [(1, slcV 8 qzb.cells [(qzb.mk 0 1 r1 r2), (qzb.mk 1 2 (qza.mk false [] []) r3), (qzb.mk 2 1 r4 r5)]), (3, .vec 5 1 0 (List.length [r9, [r10, r11, r12], r13])), (45, .vec 1 1 0 (List.length [r6, r7, r8])), (46, .int .i64 (List.length [r6, r7, r8] : Int)), (47, .int .i64 t47), (48, .bool (decide (t47 < (List.length [r6, r7, r8] : Int))))] [(0, .gone 2), (1, .vec 1 3 (List.length [r6, r7, r8]) (qzd qza.cells [r6, r7, r8])), (2, .gone 2), (3, .gone 2), (4, .gone 2), (5, .vec 1 1 (List.length [r9, [r10, r11, r12], r13]) (qzd (cL 3 qza.cells) [r9, [r10, r11, r12], r13])), (6, .gone ep6)] ?_ ?_
 ·simp [r9_5, -Int.pred_toNat]
  all_goals exact zq1
 refine .seq ?_
 refine AW.ifF (decide (t47 < (List.length [r6, r7, r8] : Int))) rfl (by simp) (fun e => ?_) (fun e => ?_)
 ·replace h := h.pos e
  refine AW.skip ?_
  refine .seq ?_
  refine .block ?_
  obtain ⟨x1, h14, h⟩ := h.at
  refine AW.rS [(1, slcV 8 qzb.cells [(qzb.mk 0 1 r1 r2), (qzb.mk 1 2 (qza.mk false [] []) r3), (qzb.mk 2 1 r4 r5)]), (3, .vec 5 1 0 (List.length [r9, [r10, r11, r12], r13])), (4, .int .i64 t47), (5, .ptr 6 (ep6 + 1) 0), (45, .vec 1 1 0 (List.length [r6, r7, r8])), (46, .int .i64 (List.length [r6, r7, r8] : Int)), (47, .int .i64 t47)] [(0, .gone 2), (1, .vec 1 3 (List.length [r6, r7, r8]) (qzd qza.cells [r6, r7, r8])), (2, .gone 2), (3, .gone 2), (4, .gone 2), (5, .vec 1 1 (List.length [r9, [r10, r11, r12], r13]) (qzd (cL 3 qza.cells) [r9, [r10, r11, r12], r13])), (6, .box (ep6 + 1) [.bool x1.Neg, .str x1.Num, .str x1.Den])] ?_ ?_
  ·obtain ⟨f1a, f1b, f1c⟩ := h14
   have f1d : qzd qza.cells [r6, r7, r8] (Int.toNat t47) = qza.cells x1 := qzo f1c
   have f1e : Int.toNat t47 < List.length [r6, r7, r8] := by omega
   simp [r9_6, -Int.pred_toNat, f1a, f1b, f1d, f1e]
   (repeat' apply And.intro) <;> first | omega | (simp at * <;> omega) | (intro _; intros; simp_all; done) | exact .mk (by simp [-Int.pred_toNat, f1a, f1b, f1d, f1e]) (by simp [-Int.pred_toNat, f1a, f1b, f1d, f1e]) rfl
  obtain ⟨r14, h15, h⟩ := h.ex
  refine AW.rS [(1, slcV 8 qzb.cells [(qzb.mk 0 1 r1 r2), (qzb.mk 1 2 (qza.mk false [] []) r3), (qzb.mk 2 1 r4 r5)]), (3, .vec 5 1 0 (List.length [r9, [r10, r11, r12], r13])), (4, .int .i64 t47), (6, slcV 3 qza.cells r14.1), (7, .int .i64 r14.2), (45, .vec 1 1 0 (List.length [r6, r7, r8])), (46, .int .i64 (List.length [r6, r7, r8] : Int)), (47, .int .i64 t47)] [(0, .gone 2), (1, .vec 1 3 (List.length [r6, r7, r8]) (qzd qza.cells [r6, r7, r8])), (2, .gone 2), (3, .gone 2), (4, .gone 2), (5, .vec 1 1 (List.length [r9, [r10, r11, r12], r13]) (qzd (cL 3 qza.cells) [r9, [r10, r11, r12], r13])), (6, .gone (ep6 + 1))] ?_ ?_
  ·simp [r9_7, -Int.pred_toNat]
   (repeat' apply And.intro) <;> try first | omega | (simp at * <;> omega)
   refine (qzr4 [(qzb.mk 0 1 r1 r2), (qzb.mk 1 2 (qza.mk false [] []) r3), (qzb.mk 2 1 r4 r5)] x1  _ h15).ca (by simp [-Int.pred_toNat]) ?_
   (try simp [-Int.pred_toNat])
   all_goals exact zq1
  obtain ⟨x2, h16, h⟩ := h.ex
  obtain ⟨r15, h17, h⟩ := h.ex
  refine AW.rS [(1, slcV 8 qzb.cells [(qzb.mk 0 1 r1 r2), (qzb.mk 1 2 (qza.mk false [] []) r3), (qzb.mk 2 1 r4 r5)]), (3, .vec 5 1 0 (List.length [r9, [r10, r11, r12], r13])), (45, .vec 1 1 0 (List.length [r6, r7, r8])), (46, .int .i64 (List.length [r6, r7, r8] : Int)), (47, .int .i64 t47), (68, .bool (bif (!decide (r14.2 = 0)) then true else (!r15)))] [(0, .gone 2), (1, .vec 1 3 (List.length [r6, r7, r8]) (qzd qza.cells [r6, r7, r8])), (2, .gone 2), (3, .gone 2), (4, .gone 2), (5, .vec 1 1 (List.length [r9, [r10, r11, r12], r13]) (qzd (cL 3 qza.cells) [r9, [r10, r11, r12], r13])), (6, .gone (ep6 + 1))] ?_ ?_
  ·rcases Bool.eq_false_or_eq_true (!(!decide (r14.2 = 0))) with e1 | e1
   ·have e1n := e1
    (try simp at e1n)
    obtain ⟨f2a, f2b, f2c⟩ := qzlv (gd_t e1 h16)
    have f2d : qzd (cL 3 qza.cells) [r9, [r10, r11, r12], r13] (Int.toNat t47) = (cL 3 qza.cells) x2 := qzo f2c
    have f2e : Int.toNat t47 < List.length [r9, [r10, r11, r12], r13] := by omega
    simp [r9_8, -Int.pred_toNat, e1, e1n, f2a, f2b, f2d, f2e]
    (repeat' apply And.intro) <;> try first | omega | (simp at * <;> omega)
    refine jzo.pure _ (by simp [-Int.pred_toNat, e1, e1n, f2a, f2b, f2d, f2e]) (fun e => (qzar r14.1 x2  _ (gd_t (by first | (exfalso; simp at e; done) | (simp; done) | simpa using e | simp_all) h17)).w (by first | (simp [-Int.pred_toNat, e1, e1n, f2a, f2b, f2d, f2e]; done) | (exfalso; simp at e; done) | (simp_all; done))) ?_
    (try simp [-Int.pred_toNat, e1, e1n, f2a, f2b, f2d, f2e])
    (repeat' apply And.intro) <;> first | omega | (simp at * <;> omega) | (intro _; intros; simp_all; done) | exact .mk (by simp [-Int.pred_toNat, e1, e1n, f2a, f2b, f2d, f2e]) (by simp [-Int.pred_toNat, e1, e1n, f2a, f2b, f2d, f2e]) rfl
   ·have e1n := e1
    (try simp at e1n)
    simp [r9_8, -Int.pred_toNat, e1, e1n]
    (repeat' apply And.intro) <;> try first | omega | (simp at * <;> omega)
    refine jzo.pure _ (by simp [-Int.pred_toNat, e1, e1n]) (fun e => (qzar r14.1 x2  _ (gd_t (by first | (exfalso; simp at e; done) | (simp; done) | simpa using e | simp_all) h17)).w (by first | (simp [-Int.pred_toNat, e1, e1n]; done) | (exfalso; simp at e; done) | (simp_all; done))) ?_
    (try simp [-Int.pred_toNat, e1, e1n])
    (repeat' apply And.intro) <;> first | omega | (simp at * <;> omega) | (intro _; intros; simp_all; done) | exact .mk (by simp [-Int.pred_toNat, e1, e1n]) (by simp [-Int.pred_toNat, e1, e1n]) rfl
  refine AW.ifF (bif (!decide (r14.2 = 0)) then true else (!r15)) rfl (by simp) (fun e => ?_) (fun e => ?_)
  ·replace h := h.pos e
   refine AW.rS [(0, .bool false)] [(0, .gone 2), (1, .gone 1), (2, .gone 2), (3, .gone 2), (4, .gone 2), (5, .gone 1), (6, .gone (ep6 + 1))] ?_ ?_
   ·simp [r9_9, -Int.pred_toNat]
    all_goals exact zq1
   exact .ret (.inr ⟨.inr false, h.some, by simp, rfl, .wk (rs := rs9) [(0, .bool false)] [(0, .gone 2), (1, .gone 1), (2, .gone 2), (3, .gone 2), (4, .gone 2), (5, .gone 1), (6, .gone (ep6 + 1))] (by simp) (by simp) rfl (by simp [rs9]) (by simp [rs9]; try rfl)⟩)
  ·replace h := h.neg e
   refine AW.skip ?_
   obtain ⟨h18, h⟩ := h.ck
   refine AW.rE [(1, slcV 8 qzb.cells [(qzb.mk 0 1 r1 r2), (qzb.mk 1 2 (qza.mk false [] []) r3), (qzb.mk 2 1 r4 r5)]), (3, .vec 5 1 0 (List.length [r9, [r10, r11, r12], r13])), (45, .vec 1 1 0 (List.length [r6, r7, r8])), (46, .int .i64 (List.length [r6, r7, r8] : Int)), (47, .int .i64 (t47 + 1))] [(0, .gone 2), (1, .vec 1 3 (List.length [r6, r7, r8]) (qzd qza.cells [r6, r7, r8])), (2, .gone 2), (3, .gone 2), (4, .gone 2), (5, .vec 1 1 (List.length [r9, [r10, r11, r12], r13]) (qzd (cL 3 qza.cells) [r9, [r10, r11, r12], r13])), (6, .gone (ep6 + 1))] ?_ (fun S' hs1 => ?_)
   ·have f3 := qzr h18
    simp [qz74, -Int.pred_toNat, f3]
    (repeat' apply And.intro) <;> first | omega | (simp at * <;> omega) | (intro _; intros; simp_all; done) | exact .mk (by simp [-Int.pred_toNat, f3]) (by simp [-Int.pred_toNat, f3]) rfl
   exact .inl ⟨(t47 + 1), (ep6 + 1), rfl, h.some, (hs1.trans (.wk (by simp [qzab]) (by simp [yz9]) rfl))⟩
 ·replace h := h.neg e
  refine .exit ?_
  exact .inr ⟨.inl (), h.some, by simp, ⟨ep6, rfl, (.wk (by simp) (by simp) rfl)⟩⟩
theorem qzhb   (r : Bool) (h : yzu  = some r) : qzq EE Tryz.prog 9 [] (.bool r) := by
 refine Pure.still ?_ hEE (by simp <;> assumption) (by simp)
 obtain ⟨c, hb, hc⟩ := ck9
 replace h := Ok.of h; unfold yzu at h
 refine Pure.ofs (fn := Tryz.f9) (n := 207) rfl hb cr9 (hc 0) rfl rfl (by simp) ?_
 refine AW.rS [] [] ?_ ?_
 ·simp [r9_0, -Int.pred_toNat]
  all_goals exact zq1
 obtain ⟨r1, h1, h⟩ := h.ex
 obtain rfl : r1 = (qza.mk false [2] [1]) := Option.some.inj (h1.symm.trans (by decide +kernel))
 obtain ⟨r2, h2, h⟩ := h.ex
 obtain rfl : r2 = (qza.mk false [4] [1]) := Option.some.inj (h2.symm.trans (by decide +kernel))
 obtain ⟨r3, h3, h⟩ := h.ex
 obtain rfl : r3 = (qza.mk false [10] [1]) := Option.some.inj (h3.symm.trans (by decide +kernel))
 obtain ⟨r4, h4, h⟩ := h.ex
 obtain rfl : r4 = (qza.mk false [1] [1]) := Option.some.inj (h4.symm.trans (by decide +kernel))
 obtain ⟨r5, h5, h⟩ := h.ex
 obtain rfl : r5 = (qza.mk false [3] [1]) := Option.some.inj (h5.symm.trans (by decide +kernel))
 refine AW.rS [(1, .vec 0 1 0 (List.length [(qzb.mk 0 1 (qza.mk false [2] [1]) (qza.mk false [4] [1])), (qzb.mk 1 2 (qza.mk false [] []) (qza.mk false [10] [1])), (qzb.mk 2 1 (qza.mk false [1] [1]) (qza.mk false [3] [1]))]))] [(0, .vec 1 8 (List.length [(qzb.mk 0 1 (qza.mk false [2] [1]) (qza.mk false [4] [1])), (qzb.mk 1 2 (qza.mk false [] []) (qza.mk false [10] [1])), (qzb.mk 2 1 (qza.mk false [1] [1]) (qza.mk false [3] [1]))]) (qzd qzb.cells [(qzb.mk 0 1 (qza.mk false [2] [1]) (qza.mk false [4] [1])), (qzb.mk 1 2 (qza.mk false [] []) (qza.mk false [10] [1])), (qzb.mk 2 1 (qza.mk false [1] [1]) (qza.mk false [3] [1]))]))] ?_ ?_
 ·simp [r9_1, -Int.pred_toNat]
  (repeat' apply And.intro) <;> try first | omega | (simp at * <;> omega)
  refine (qzv 2  _ h1).ca (by simp [-Int.pred_toNat]) ?_
  (try simp [-Int.pred_toNat])
  (repeat' apply And.intro) <;> try first | omega | (simp at * <;> omega)
  refine (qzv 4  _ h2).ca (by simp [-Int.pred_toNat]) ?_
  (try simp [-Int.pred_toNat])
  (repeat' apply And.intro) <;> try first | omega | (simp at * <;> omega)
  refine (qzv 10  _ h3).ca (by simp [-Int.pred_toNat]) ?_
  (try simp [-Int.pred_toNat])
  (repeat' apply And.intro) <;> try first | omega | (simp at * <;> omega)
  refine (qzv 1  _ h4).ca (by simp [-Int.pred_toNat]) ?_
  (try simp [-Int.pred_toNat])
  (repeat' apply And.intro) <;> try first | omega | (simp at * <;> omega)
  refine (qzv 3  _ h5).ca (by simp [-Int.pred_toNat]) ?_
  (try simp [-Int.pred_toNat])
  all_goals exact zq1
 obtain ⟨r6, h6, h⟩ := h.ex
 obtain rfl : r6 = (qza.mk false [1] [1]) := Option.some.inj (h6.symm.trans (by decide +kernel))
 obtain ⟨r7, h7, h⟩ := h.ex
 obtain rfl : r7 = (qza.mk false [5] [2]) := Option.some.inj (h7.symm.trans (by decide +kernel))
 obtain ⟨r8, h8, h⟩ := h.ex
 obtain rfl : r8 = (qza.mk false [9] [1]) := Option.some.inj (h8.symm.trans (by decide +kernel))
 refine AW.rS [(1, .vec 0 1 0 (List.length [(qzb.mk 0 1 (qza.mk false [2] [1]) (qza.mk false [4] [1])), (qzb.mk 1 2 (qza.mk false [] []) (qza.mk false [10] [1])), (qzb.mk 2 1 (qza.mk false [1] [1]) (qza.mk false [3] [1]))])), (2, .vec 1 1 0 (List.length [(qza.mk false [1] [1]), (qza.mk false [5] [2]), (qza.mk false [9] [1])]))] [(0, .vec 1 8 (List.length [(qzb.mk 0 1 (qza.mk false [2] [1]) (qza.mk false [4] [1])), (qzb.mk 1 2 (qza.mk false [] []) (qza.mk false [10] [1])), (qzb.mk 2 1 (qza.mk false [1] [1]) (qza.mk false [3] [1]))]) (qzd qzb.cells [(qzb.mk 0 1 (qza.mk false [2] [1]) (qza.mk false [4] [1])), (qzb.mk 1 2 (qza.mk false [] []) (qza.mk false [10] [1])), (qzb.mk 2 1 (qza.mk false [1] [1]) (qza.mk false [3] [1]))])), (1, .vec 1 3 (List.length [(qza.mk false [1] [1]), (qza.mk false [5] [2]), (qza.mk false [9] [1])]) (qzd qza.cells [(qza.mk false [1] [1]), (qza.mk false [5] [2]), (qza.mk false [9] [1])]))] ?_ ?_
 ·simp [r9_2, -Int.pred_toNat]
  (repeat' apply And.intro) <;> try first | omega | (simp at * <;> omega)
  refine (qzv 1  _ h6).ca (by simp [-Int.pred_toNat]) ?_
  (try simp [-Int.pred_toNat])
  (repeat' apply And.intro) <;> try first | omega | (simp at * <;> omega)
  refine (jzw 5 2  _ h7).ca (by simp [-Int.pred_toNat]) ?_
  (try simp [-Int.pred_toNat])
  (repeat' apply And.intro) <;> try first | omega | (simp at * <;> omega)
  refine (qzv 9  _ h8).ca (by simp [-Int.pred_toNat]) ?_
  (try simp [-Int.pred_toNat])
  all_goals exact zq1
 obtain ⟨r9, h9, h⟩ := h.ex
 obtain rfl : r9 = [(qza.mk false [2] [1]), (qza.mk false [2] [1]), (qza.mk false [1] [1])] := Option.some.inj (h9.symm.trans (by decide +kernel))
 obtain ⟨r10, h10, h⟩ := h.ex
 obtain rfl : r10 = (qza.mk false [5] [2]) := Option.some.inj (h10.symm.trans (by decide +kernel))
 obtain ⟨r11, h11, h⟩ := h.ex
 obtain rfl : r11 = (qza.mk false [5] [1]) := Option.some.inj (h11.symm.trans (by decide +kernel))
 obtain ⟨r12, h12, h⟩ := h.ex
 obtain rfl : r12 = (qza.mk false [5] [2]) := Option.some.inj (h12.symm.trans (by decide +kernel))
 obtain ⟨r13, h13, h⟩ := h.ex
 obtain rfl : r13 = [(qza.mk false [4] [1]), (qza.mk false [10] [1]), (qza.mk false [3] [1])] := Option.some.inj (h13.symm.trans (by decide +kernel))
 refine AW.rG [(1, .vec 0 1 0 (List.length [(qzb.mk 0 1 (qza.mk false [2] [1]) (qza.mk false [4] [1])), (qzb.mk 1 2 (qza.mk false [] []) (qza.mk false [10] [1])), (qzb.mk 2 1 (qza.mk false [1] [1]) (qza.mk false [3] [1]))])), (2, .vec 1 1 0 (List.length [(qza.mk false [1] [1]), (qza.mk false [5] [2]), (qza.mk false [9] [1])])), (3, .vec 5 1 0 (List.length [[(qza.mk false [2] [1]), (qza.mk false [2] [1]), (qza.mk false [1] [1])], [(qza.mk false [5] [2]), (qza.mk false [5] [1]), (qza.mk false [5] [2])], [(qza.mk false [4] [1]), (qza.mk false [10] [1]), (qza.mk false [3] [1])]]))] [(0, .vec 1 8 (List.length [(qzb.mk 0 1 (qza.mk false [2] [1]) (qza.mk false [4] [1])), (qzb.mk 1 2 (qza.mk false [] []) (qza.mk false [10] [1])), (qzb.mk 2 1 (qza.mk false [1] [1]) (qza.mk false [3] [1]))]) (qzd qzb.cells [(qzb.mk 0 1 (qza.mk false [2] [1]) (qza.mk false [4] [1])), (qzb.mk 1 2 (qza.mk false [] []) (qza.mk false [10] [1])), (qzb.mk 2 1 (qza.mk false [1] [1]) (qza.mk false [3] [1]))])), (1, .vec 1 3 (List.length [(qza.mk false [1] [1]), (qza.mk false [5] [2]), (qza.mk false [9] [1])]) (qzd qza.cells [(qza.mk false [1] [1]), (qza.mk false [5] [2]), (qza.mk false [9] [1])])), (2, .gone 2), (3, .gone 2), (4, .gone 2), (5, .vec 1 1 (List.length [[(qza.mk false [2] [1]), (qza.mk false [2] [1]), (qza.mk false [1] [1])], [(qza.mk false [5] [2]), (qza.mk false [5] [1]), (qza.mk false [5] [2])], [(qza.mk false [4] [1]), (qza.mk false [10] [1]), (qza.mk false [3] [1])]]) (qzd (cL 3 qza.cells) [[(qza.mk false [2] [1]), (qza.mk false [2] [1]), (qza.mk false [1] [1])], [(qza.mk false [5] [2]), (qza.mk false [5] [1]), (qza.mk false [5] [2])], [(qza.mk false [4] [1]), (qza.mk false [10] [1]), (qza.mk false [3] [1])]]))] ?_ ?_
 ·refine SReg.cut 1 [(1, .vec 0 1 0 (List.length [(qzb.mk 0 1 (qza.mk false [2] [1]) (qza.mk false [4] [1])), (qzb.mk 1 2 (qza.mk false [] []) (qza.mk false [10] [1])), (qzb.mk 2 1 (qza.mk false [1] [1]) (qza.mk false [3] [1]))])), (2, .vec 1 1 0 (List.length [(qza.mk false [1] [1]), (qza.mk false [5] [2]), (qza.mk false [9] [1])])), (36, .vec 2 1 0 (List.length [2, 2, 1]))] [(0, .vec 1 8 (List.length [(qzb.mk 0 1 (qza.mk false [2] [1]) (qza.mk false [4] [1])), (qzb.mk 1 2 (qza.mk false [] []) (qza.mk false [10] [1])), (qzb.mk 2 1 (qza.mk false [1] [1]) (qza.mk false [3] [1]))]) (qzd qzb.cells [(qzb.mk 0 1 (qza.mk false [2] [1]) (qza.mk false [4] [1])), (qzb.mk 1 2 (qza.mk false [] []) (qza.mk false [10] [1])), (qzb.mk 2 1 (qza.mk false [1] [1]) (qza.mk false [3] [1]))])), (1, .vec 1 3 (List.length [(qza.mk false [1] [1]), (qza.mk false [5] [2]), (qza.mk false [9] [1])]) (qzd qza.cells [(qza.mk false [1] [1]), (qza.mk false [5] [2]), (qza.mk false [9] [1])])), (2, .vec 1 1 (List.length [2, 2, 1]) (qzd (cI .i64) [2, 2, 1]))] ?_ ?_
  ·simp [r9_3, -Int.pred_toNat]
   all_goals exact zq1
  refine SReg.frz 2 [(1, .vec 0 1 0 (List.length [(qzb.mk 0 1 (qza.mk false [2] [1]) (qza.mk false [4] [1])), (qzb.mk 1 2 (qza.mk false [] []) (qza.mk false [10] [1])), (qzb.mk 2 1 (qza.mk false [1] [1]) (qza.mk false [3] [1]))])), (2, .vec 1 1 0 (List.length [(qza.mk false [1] [1]), (qza.mk false [5] [2]), (qza.mk false [9] [1])])), (36, slcV 1 (cI .i64) [2, 2, 1])] [(0, .vec 1 8 (List.length [(qzb.mk 0 1 (qza.mk false [2] [1]) (qza.mk false [4] [1])), (qzb.mk 1 2 (qza.mk false [] []) (qza.mk false [10] [1])), (qzb.mk 2 1 (qza.mk false [1] [1]) (qza.mk false [3] [1]))]) (qzd qzb.cells [(qzb.mk 0 1 (qza.mk false [2] [1]) (qza.mk false [4] [1])), (qzb.mk 1 2 (qza.mk false [] []) (qza.mk false [10] [1])), (qzb.mk 2 1 (qza.mk false [1] [1]) (qza.mk false [3] [1]))])), (1, .vec 1 3 (List.length [(qza.mk false [1] [1]), (qza.mk false [5] [2]), (qza.mk false [9] [1])]) (qzd qza.cells [(qza.mk false [1] [1]), (qza.mk false [5] [2]), (qza.mk false [9] [1])])), (2, .gone 2)] rfl rfl trivial (by simp) (by simp) rfl ?_
  refine SReg.cut 6 [(1, .vec 0 1 0 (List.length [(qzb.mk 0 1 (qza.mk false [2] [1]) (qza.mk false [4] [1])), (qzb.mk 1 2 (qza.mk false [] []) (qza.mk false [10] [1])), (qzb.mk 2 1 (qza.mk false [1] [1]) (qza.mk false [3] [1]))])), (2, .vec 1 1 0 (List.length [(qza.mk false [1] [1]), (qza.mk false [5] [2]), (qza.mk false [9] [1])])), (37, slcV 3 qza.cells [(qza.mk false [2] [1]), (qza.mk false [2] [1]), (qza.mk false [1] [1])]), (41, .vec 3 1 0 (List.length [(qza.mk false [5] [2]), (qza.mk false [5] [1]), (qza.mk false [5] [2])])), (42, .vec 4 1 0 (List.length [4, 10, 3]))] [(0, .vec 1 8 (List.length [(qzb.mk 0 1 (qza.mk false [2] [1]) (qza.mk false [4] [1])), (qzb.mk 1 2 (qza.mk false [] []) (qza.mk false [10] [1])), (qzb.mk 2 1 (qza.mk false [1] [1]) (qza.mk false [3] [1]))]) (qzd qzb.cells [(qzb.mk 0 1 (qza.mk false [2] [1]) (qza.mk false [4] [1])), (qzb.mk 1 2 (qza.mk false [] []) (qza.mk false [10] [1])), (qzb.mk 2 1 (qza.mk false [1] [1]) (qza.mk false [3] [1]))])), (1, .vec 1 3 (List.length [(qza.mk false [1] [1]), (qza.mk false [5] [2]), (qza.mk false [9] [1])]) (qzd qza.cells [(qza.mk false [1] [1]), (qza.mk false [5] [2]), (qza.mk false [9] [1])])), (2, .gone 2), (3, .vec 1 3 (List.length [(qza.mk false [5] [2]), (qza.mk false [5] [1]), (qza.mk false [5] [2])]) (qzd qza.cells [(qza.mk false [5] [2]), (qza.mk false [5] [1]), (qza.mk false [5] [2])])), (4, .vec 1 1 (List.length [4, 10, 3]) (qzd (cI .i64) [4, 10, 3]))] ?_ ?_
  ·simp [r9_3, -Int.pred_toNat]
   (repeat' apply And.intro) <;> try first | omega | (simp at * <;> omega)
   refine (qzed [2, 2, 1]  _ h9).ca (by simp [-Int.pred_toNat]) ?_
   (try simp [-Int.pred_toNat])
   (repeat' apply And.intro) <;> try first | omega | (simp at * <;> omega)
   refine (jzw 5 2  _ h10).ca (by simp [-Int.pred_toNat]) ?_
   (try simp [-Int.pred_toNat])
   (repeat' apply And.intro) <;> try first | omega | (simp at * <;> omega)
   refine (qzv 5  _ h11).ca (by simp [-Int.pred_toNat]) ?_
   (try simp [-Int.pred_toNat])
   (repeat' apply And.intro) <;> try first | omega | (simp at * <;> omega)
   refine (jzw 5 2  _ h12).ca (by simp [-Int.pred_toNat]) ?_
   (try simp [-Int.pred_toNat])
   all_goals exact zq1
  refine SReg.frz 4 [(1, .vec 0 1 0 (List.length [(qzb.mk 0 1 (qza.mk false [2] [1]) (qza.mk false [4] [1])), (qzb.mk 1 2 (qza.mk false [] []) (qza.mk false [10] [1])), (qzb.mk 2 1 (qza.mk false [1] [1]) (qza.mk false [3] [1]))])), (2, .vec 1 1 0 (List.length [(qza.mk false [1] [1]), (qza.mk false [5] [2]), (qza.mk false [9] [1])])), (37, slcV 3 qza.cells [(qza.mk false [2] [1]), (qza.mk false [2] [1]), (qza.mk false [1] [1])]), (41, .vec 3 1 0 (List.length [(qza.mk false [5] [2]), (qza.mk false [5] [1]), (qza.mk false [5] [2])])), (42, slcV 1 (cI .i64) [4, 10, 3])] [(0, .vec 1 8 (List.length [(qzb.mk 0 1 (qza.mk false [2] [1]) (qza.mk false [4] [1])), (qzb.mk 1 2 (qza.mk false [] []) (qza.mk false [10] [1])), (qzb.mk 2 1 (qza.mk false [1] [1]) (qza.mk false [3] [1]))]) (qzd qzb.cells [(qzb.mk 0 1 (qza.mk false [2] [1]) (qza.mk false [4] [1])), (qzb.mk 1 2 (qza.mk false [] []) (qza.mk false [10] [1])), (qzb.mk 2 1 (qza.mk false [1] [1]) (qza.mk false [3] [1]))])), (1, .vec 1 3 (List.length [(qza.mk false [1] [1]), (qza.mk false [5] [2]), (qza.mk false [9] [1])]) (qzd qza.cells [(qza.mk false [1] [1]), (qza.mk false [5] [2]), (qza.mk false [9] [1])])), (2, .gone 2), (3, .vec 1 3 (List.length [(qza.mk false [5] [2]), (qza.mk false [5] [1]), (qza.mk false [5] [2])]) (qzd qza.cells [(qza.mk false [5] [2]), (qza.mk false [5] [1]), (qza.mk false [5] [2])])), (4, .gone 2)] rfl rfl trivial (by simp) (by simp) rfl ?_
  refine SReg.cut 1 [(1, .vec 0 1 0 (List.length [(qzb.mk 0 1 (qza.mk false [2] [1]) (qza.mk false [4] [1])), (qzb.mk 1 2 (qza.mk false [] []) (qza.mk false [10] [1])), (qzb.mk 2 1 (qza.mk false [1] [1]) (qza.mk false [3] [1]))])), (2, .vec 1 1 0 (List.length [(qza.mk false [1] [1]), (qza.mk false [5] [2]), (qza.mk false [9] [1])])), (37, slcV 3 qza.cells [(qza.mk false [2] [1]), (qza.mk false [2] [1]), (qza.mk false [1] [1])]), (41, .vec 3 1 0 (List.length [(qza.mk false [5] [2]), (qza.mk false [5] [1]), (qza.mk false [5] [2])])), (43, slcV 3 qza.cells [(qza.mk false [4] [1]), (qza.mk false [10] [1]), (qza.mk false [3] [1])])] [(0, .vec 1 8 (List.length [(qzb.mk 0 1 (qza.mk false [2] [1]) (qza.mk false [4] [1])), (qzb.mk 1 2 (qza.mk false [] []) (qza.mk false [10] [1])), (qzb.mk 2 1 (qza.mk false [1] [1]) (qza.mk false [3] [1]))]) (qzd qzb.cells [(qzb.mk 0 1 (qza.mk false [2] [1]) (qza.mk false [4] [1])), (qzb.mk 1 2 (qza.mk false [] []) (qza.mk false [10] [1])), (qzb.mk 2 1 (qza.mk false [1] [1]) (qza.mk false [3] [1]))])), (1, .vec 1 3 (List.length [(qza.mk false [1] [1]), (qza.mk false [5] [2]), (qza.mk false [9] [1])]) (qzd qza.cells [(qza.mk false [1] [1]), (qza.mk false [5] [2]), (qza.mk false [9] [1])])), (2, .gone 2), (3, .vec 1 3 (List.length [(qza.mk false [5] [2]), (qza.mk false [5] [1]), (qza.mk false [5] [2])]) (qzd qza.cells [(qza.mk false [5] [2]), (qza.mk false [5] [1]), (qza.mk false [5] [2])])), (4, .gone 2)] ?_ ?_
  ·simp [r9_3, -Int.pred_toNat]
   (repeat' apply And.intro) <;> try first | omega | (simp at * <;> omega)
   refine (qzed [4, 10, 3]  _ h13).ca (by simp [-Int.pred_toNat]) ?_
   (try simp [-Int.pred_toNat])
   all_goals exact zq1
  refine SReg.frz 3 [(1, .vec 0 1 0 (List.length [(qzb.mk 0 1 (qza.mk false [2] [1]) (qza.mk false [4] [1])), (qzb.mk 1 2 (qza.mk false [] []) (qza.mk false [10] [1])), (qzb.mk 2 1 (qza.mk false [1] [1]) (qza.mk false [3] [1]))])), (2, .vec 1 1 0 (List.length [(qza.mk false [1] [1]), (qza.mk false [5] [2]), (qza.mk false [9] [1])])), (37, slcV 3 qza.cells [(qza.mk false [2] [1]), (qza.mk false [2] [1]), (qza.mk false [1] [1])]), (41, slcV 3 qza.cells [(qza.mk false [5] [2]), (qza.mk false [5] [1]), (qza.mk false [5] [2])]), (43, slcV 3 qza.cells [(qza.mk false [4] [1]), (qza.mk false [10] [1]), (qza.mk false [3] [1])])] [(0, .vec 1 8 (List.length [(qzb.mk 0 1 (qza.mk false [2] [1]) (qza.mk false [4] [1])), (qzb.mk 1 2 (qza.mk false [] []) (qza.mk false [10] [1])), (qzb.mk 2 1 (qza.mk false [1] [1]) (qza.mk false [3] [1]))]) (qzd qzb.cells [(qzb.mk 0 1 (qza.mk false [2] [1]) (qza.mk false [4] [1])), (qzb.mk 1 2 (qza.mk false [] []) (qza.mk false [10] [1])), (qzb.mk 2 1 (qza.mk false [1] [1]) (qza.mk false [3] [1]))])), (1, .vec 1 3 (List.length [(qza.mk false [1] [1]), (qza.mk false [5] [2]), (qza.mk false [9] [1])]) (qzd qza.cells [(qza.mk false [1] [1]), (qza.mk false [5] [2]), (qza.mk false [9] [1])])), (2, .gone 2), (3, .gone 2), (4, .gone 2)] rfl rfl trivial (by simp) (by simp) rfl ?_
  refine SReg.fin ?_
  simp [r9_3, -Int.pred_toNat]
  all_goals exact zq1
 refine .seq ?_
 refine AW.rS [(1, .vec 0 1 0 (List.length [(qzb.mk 0 1 (qza.mk false [2] [1]) (qza.mk false [4] [1])), (qzb.mk 1 2 (qza.mk false [] []) (qza.mk false [10] [1])), (qzb.mk 2 1 (qza.mk false [1] [1]) (qza.mk false [3] [1]))])), (3, .vec 5 1 0 (List.length [[(qza.mk false [2] [1]), (qza.mk false [2] [1]), (qza.mk false [1] [1])], [(qza.mk false [5] [2]), (qza.mk false [5] [1]), (qza.mk false [5] [2])], [(qza.mk false [4] [1]), (qza.mk false [10] [1]), (qza.mk false [3] [1])]])), (45, .vec 1 1 0 (List.length [(qza.mk false [1] [1]), (qza.mk false [5] [2]), (qza.mk false [9] [1])])), (46, .int .i64 (List.length [(qza.mk false [1] [1]), (qza.mk false [5] [2]), (qza.mk false [9] [1])] : Int)), (47, .int .i64 0)] [(0, .vec 1 8 (List.length [(qzb.mk 0 1 (qza.mk false [2] [1]) (qza.mk false [4] [1])), (qzb.mk 1 2 (qza.mk false [] []) (qza.mk false [10] [1])), (qzb.mk 2 1 (qza.mk false [1] [1]) (qza.mk false [3] [1]))]) (qzd qzb.cells [(qzb.mk 0 1 (qza.mk false [2] [1]) (qza.mk false [4] [1])), (qzb.mk 1 2 (qza.mk false [] []) (qza.mk false [10] [1])), (qzb.mk 2 1 (qza.mk false [1] [1]) (qza.mk false [3] [1]))])), (1, .vec 1 3 (List.length [(qza.mk false [1] [1]), (qza.mk false [5] [2]), (qza.mk false [9] [1])]) (qzd qza.cells [(qza.mk false [1] [1]), (qza.mk false [5] [2]), (qza.mk false [9] [1])])), (2, .gone 2), (3, .gone 2), (4, .gone 2), (5, .vec 1 1 (List.length [[(qza.mk false [2] [1]), (qza.mk false [2] [1]), (qza.mk false [1] [1])], [(qza.mk false [5] [2]), (qza.mk false [5] [1]), (qza.mk false [5] [2])], [(qza.mk false [4] [1]), (qza.mk false [10] [1]), (qza.mk false [3] [1])]]) (qzd (cL 3 qza.cells) [[(qza.mk false [2] [1]), (qza.mk false [2] [1]), (qza.mk false [1] [1])], [(qza.mk false [5] [2]), (qza.mk false [5] [1]), (qza.mk false [5] [2])], [(qza.mk false [4] [1]), (qza.mk false [10] [1]), (qza.mk false [3] [1])]]))] ?_ ?_
 ·simp [r9_4, -Int.pred_toNat]
  all_goals exact zq1
 refine .block ?_
 refine AW.frz 0 [(1, slcV 8 qzb.cells [(qzb.mk 0 1 (qza.mk false [2] [1]) (qza.mk false [4] [1])), (qzb.mk 1 2 (qza.mk false [] []) (qza.mk false [10] [1])), (qzb.mk 2 1 (qza.mk false [1] [1]) (qza.mk false [3] [1]))]), (3, .vec 5 1 0 (List.length [[(qza.mk false [2] [1]), (qza.mk false [2] [1]), (qza.mk false [1] [1])], [(qza.mk false [5] [2]), (qza.mk false [5] [1]), (qza.mk false [5] [2])], [(qza.mk false [4] [1]), (qza.mk false [10] [1]), (qza.mk false [3] [1])]])), (45, .vec 1 1 0 (List.length [(qza.mk false [1] [1]), (qza.mk false [5] [2]), (qza.mk false [9] [1])])), (46, .int .i64 (List.length [(qza.mk false [1] [1]), (qza.mk false [5] [2]), (qza.mk false [9] [1])] : Int)), (47, .int .i64 0)] [(0, .gone 2), (1, .vec 1 3 (List.length [(qza.mk false [1] [1]), (qza.mk false [5] [2]), (qza.mk false [9] [1])]) (qzd qza.cells [(qza.mk false [1] [1]), (qza.mk false [5] [2]), (qza.mk false [9] [1])])), (2, .gone 2), (3, .gone 2), (4, .gone 2), (5, .vec 1 1 (List.length [[(qza.mk false [2] [1]), (qza.mk false [2] [1]), (qza.mk false [1] [1])], [(qza.mk false [5] [2]), (qza.mk false [5] [1]), (qza.mk false [5] [2])], [(qza.mk false [4] [1]), (qza.mk false [10] [1]), (qza.mk false [3] [1])]]) (qzd (cL 3 qza.cells) [[(qza.mk false [2] [1]), (qza.mk false [2] [1]), (qza.mk false [1] [1])], [(qza.mk false [5] [2]), (qza.mk false [5] [1]), (qza.mk false [5] [2])], [(qza.mk false [4] [1]), (qza.mk false [10] [1]), (qza.mk false [3] [1])]]))] rfl rfl trivial (by simp) (by simp) rfl ?_
 refine AW.lpF (ε := Nat) 0 h.bd (qzab (qza.mk false [2] [1]) (qza.mk false [5] [2]) (qza.mk false [5] [1]) (qza.mk false [5] [2]) [(qza.mk false [4] [1]), (qza.mk false [10] [1]), (qza.mk false [3] [1])] (qza.mk false [4] [1]) (qza.mk false [10] [1]) (qza.mk false [1] [1]) (qza.mk false [3] [1]) (qza.mk false [1] [1]) (qza.mk false [5] [2]) (qza.mk false [9] [1]) [(qza.mk false [2] [1]), (qza.mk false [2] [1]), (qza.mk false [1] [1])]) (yz9 (qza.mk false [2] [1]) (qza.mk false [5] [2]) (qza.mk false [5] [1]) (qza.mk false [5] [2]) [(qza.mk false [4] [1]), (qza.mk false [10] [1]), (qza.mk false [3] [1])] (qza.mk false [4] [1]) (qza.mk false [10] [1]) (qza.mk false [1] [1]) (qza.mk false [3] [1]) (qza.mk false [1] [1]) (qza.mk false [5] [2]) (qza.mk false [9] [1]) [(qza.mk false [2] [1]), (qza.mk false [2] [1]), (qza.mk false [1] [1])]) (qzfq (qza.mk false [2] [1]) (qza.mk false [5] [2]) (qza.mk false [5] [1]) (qza.mk false [5] [2]) [(qza.mk false [4] [1]), (qza.mk false [10] [1]), (qza.mk false [3] [1])] (qza.mk false [4] [1]) (qza.mk false [10] [1]) (qza.mk false [1] [1]) (qza.mk false [3] [1]) (qza.mk false [1] [1]) (qza.mk false [5] [2]) (qza.mk false [9] [1]) [(qza.mk false [2] [1]), (qza.mk false [2] [1]), (qza.mk false [1] [1])]) (by simp [qzab]) (by simp [yz9]) rfl ?_ ?_
 ·rintro t47 ep6 QQ h
  exact qzlf (qza.mk false [2] [1]) (qza.mk false [5] [2]) (qza.mk false [5] [1]) (qza.mk false [5] [2]) [(qza.mk false [4] [1]), (qza.mk false [10] [1]), (qza.mk false [3] [1])] (qza.mk false [4] [1]) (qza.mk false [10] [1]) (qza.mk false [1] [1]) (qza.mk false [3] [1]) (qza.mk false [1] [1]) (qza.mk false [5] [2]) (qza.mk false [9] [1]) [(qza.mk false [2] [1]), (qza.mk false [2] [1]), (qza.mk false [1] [1])] t47 ep6 QQ h
 ·intro o h ex S' hs
  rcases o with ⟨⟩ | o
  ·obtain ⟨ep6, rfl, hs⟩ := hs
   refine .see hs ?_
   obtain ⟨r16, h19, h⟩ := h.ex
   obtain rfl : r16 = (qza.mk false [1] [1]) := Option.some.inj (h19.symm.trans (by decide +kernel))
   obtain ⟨r17, h20, h⟩ := h.ex
   obtain rfl : r17 = (qza.mk false [5] [2]) := Option.some.inj (h20.symm.trans (by decide +kernel))
   obtain ⟨r18, h21, h⟩ := h.ex
   obtain rfl : r18 = (qza.mk false [5] [1]) := Option.some.inj (h21.symm.trans (by decide +kernel))
   refine AW.rS [(1, slcV 8 qzb.cells [(qzb.mk 0 1 (qza.mk false [2] [1]) (qza.mk false [4] [1])), (qzb.mk 1 2 (qza.mk false [] []) (qza.mk false [10] [1])), (qzb.mk 2 1 (qza.mk false [1] [1]) (qza.mk false [3] [1]))]), (3, .vec 5 1 0 (List.length [[(qza.mk false [2] [1]), (qza.mk false [2] [1]), (qza.mk false [1] [1])], [(qza.mk false [5] [2]), (qza.mk false [5] [1]), (qza.mk false [5] [2])], [(qza.mk false [4] [1]), (qza.mk false [10] [1]), (qza.mk false [3] [1])]])), (8, .vec 7 1 0 (List.length [(qza.mk false [] []), (qza.mk false [1] [1]), (qza.mk false [5] [2]), (qza.mk false [5] [1])]))] [(0, .gone 2), (1, .gone 1), (2, .gone 2), (3, .gone 2), (4, .gone 2), (5, .vec 1 1 (List.length [[(qza.mk false [2] [1]), (qza.mk false [2] [1]), (qza.mk false [1] [1])], [(qza.mk false [5] [2]), (qza.mk false [5] [1]), (qza.mk false [5] [2])], [(qza.mk false [4] [1]), (qza.mk false [10] [1]), (qza.mk false [3] [1])]]) (qzd (cL 3 qza.cells) [[(qza.mk false [2] [1]), (qza.mk false [2] [1]), (qza.mk false [1] [1])], [(qza.mk false [5] [2]), (qza.mk false [5] [1]), (qza.mk false [5] [2])], [(qza.mk false [4] [1]), (qza.mk false [10] [1]), (qza.mk false [3] [1])]])), (6, .gone ep6), (7, .vec 1 3 (List.length [(qza.mk false [] []), (qza.mk false [1] [1]), (qza.mk false [5] [2]), (qza.mk false [5] [1])]) (qzd qza.cells [(qza.mk false [] []), (qza.mk false [1] [1]), (qza.mk false [5] [2]), (qza.mk false [5] [1])]))] ?_ ?_
   ·simp [qz6p, -Int.pred_toNat]
    (repeat' apply And.intro) <;> try first | omega | (simp at * <;> omega)
    refine (qzv 1  _ h19).ca (by simp [-Int.pred_toNat]) ?_
    (try simp [-Int.pred_toNat])
    (repeat' apply And.intro) <;> try first | omega | (simp at * <;> omega)
    refine (jzw 5 2  _ h20).ca (by simp [-Int.pred_toNat]) ?_
    (try simp [-Int.pred_toNat])
    (repeat' apply And.intro) <;> try first | omega | (simp at * <;> omega)
    refine (qzv 5  _ h21).ca (by simp [-Int.pred_toNat]) ?_
    (try simp [-Int.pred_toNat])
    all_goals exact zq1
   refine .seq ?_
   refine AW.rS [(1, slcV 8 qzb.cells [(qzb.mk 0 1 (qza.mk false [2] [1]) (qza.mk false [4] [1])), (qzb.mk 1 2 (qza.mk false [] []) (qza.mk false [10] [1])), (qzb.mk 2 1 (qza.mk false [1] [1]) (qza.mk false [3] [1]))]), (3, .vec 5 1 0 (List.length [[(qza.mk false [2] [1]), (qza.mk false [2] [1]), (qza.mk false [1] [1])], [(qza.mk false [5] [2]), (qza.mk false [5] [1]), (qza.mk false [5] [2])], [(qza.mk false [4] [1]), (qza.mk false [10] [1]), (qza.mk false [3] [1])]])), (8, .vec 7 1 0 (List.length [(qza.mk false [] []), (qza.mk false [1] [1]), (qza.mk false [5] [2]), (qza.mk false [5] [1])])), (75, .vec 8 1 0 (List.length [3, 5, 10, 17])), (76, .int .i64 (List.length [3, 5, 10, 17] : Int)), (77, .int .i64 0)] [(0, .gone 2), (1, .gone 1), (2, .gone 2), (3, .gone 2), (4, .gone 2), (5, .vec 1 1 (List.length [[(qza.mk false [2] [1]), (qza.mk false [2] [1]), (qza.mk false [1] [1])], [(qza.mk false [5] [2]), (qza.mk false [5] [1]), (qza.mk false [5] [2])], [(qza.mk false [4] [1]), (qza.mk false [10] [1]), (qza.mk false [3] [1])]]) (qzd (cL 3 qza.cells) [[(qza.mk false [2] [1]), (qza.mk false [2] [1]), (qza.mk false [1] [1])], [(qza.mk false [5] [2]), (qza.mk false [5] [1]), (qza.mk false [5] [2])], [(qza.mk false [4] [1]), (qza.mk false [10] [1]), (qza.mk false [3] [1])]])), (6, .gone ep6), (7, .vec 1 3 (List.length [(qza.mk false [] []), (qza.mk false [1] [1]), (qza.mk false [5] [2]), (qza.mk false [5] [1])]) (qzd qza.cells [(qza.mk false [] []), (qza.mk false [1] [1]), (qza.mk false [5] [2]), (qza.mk false [5] [1])])), (8, .vec 1 1 (List.length [3, 5, 10, 17]) (qzd (cI .i64) [3, 5, 10, 17]))] ?_ ?_
   ·simp [qz4d, -Int.pred_toNat]
    all_goals exact zq1
   refine .block ?_
   refine AW.lpF (ε := Nat) 0 h.bd (qzac (qza.mk false [2] [1]) (qza.mk false [5] [2]) (qza.mk false [5] [1]) (qza.mk false [5] [2]) [(qza.mk false [4] [1]), (qza.mk false [10] [1]), (qza.mk false [3] [1])] (qza.mk false [1] [1]) (qza.mk false [5] [2]) (qza.mk false [5] [1]) (qza.mk false [4] [1]) (qza.mk false [10] [1]) (qza.mk false [1] [1]) (qza.mk false [3] [1]) [(qza.mk false [2] [1]), (qza.mk false [2] [1]), (qza.mk false [1] [1])] ep6) (yz2 (qza.mk false [2] [1]) (qza.mk false [5] [2]) (qza.mk false [5] [1]) (qza.mk false [5] [2]) [(qza.mk false [4] [1]), (qza.mk false [10] [1]), (qza.mk false [3] [1])] (qza.mk false [1] [1]) (qza.mk false [5] [2]) (qza.mk false [5] [1]) (qza.mk false [4] [1]) (qza.mk false [10] [1]) (qza.mk false [1] [1]) (qza.mk false [3] [1]) [(qza.mk false [2] [1]), (qza.mk false [2] [1]), (qza.mk false [1] [1])] ep6) (qzfm (qza.mk false [2] [1]) (qza.mk false [5] [2]) (qza.mk false [5] [1]) (qza.mk false [5] [2]) [(qza.mk false [4] [1]), (qza.mk false [10] [1]), (qza.mk false [3] [1])] (qza.mk false [1] [1]) (qza.mk false [5] [2]) (qza.mk false [5] [1]) (qza.mk false [4] [1]) (qza.mk false [10] [1]) (qza.mk false [1] [1]) (qza.mk false [3] [1]) [(qza.mk false [2] [1]), (qza.mk false [2] [1]), (qza.mk false [1] [1])] ep6) (by simp [qzac]) (by simp [yz2]) rfl ?_ ?_
   ·rintro t77 ep9 QQ h
    exact qzlj (qza.mk false [2] [1]) (qza.mk false [5] [2]) (qza.mk false [5] [1]) (qza.mk false [5] [2]) [(qza.mk false [4] [1]), (qza.mk false [10] [1]), (qza.mk false [3] [1])] (qza.mk false [1] [1]) (qza.mk false [5] [2]) (qza.mk false [5] [1]) (qza.mk false [4] [1]) (qza.mk false [10] [1]) (qza.mk false [1] [1]) (qza.mk false [3] [1]) [(qza.mk false [2] [1]), (qza.mk false [2] [1]), (qza.mk false [1] [1])] ep6 t77 ep9 QQ h
   ·intro o h ex S' hs
    rcases o with ⟨⟩ | o
    ·obtain ⟨ep9, rfl, hs⟩ := hs
     refine .see hs ?_
     obtain ⟨r21, h27, h⟩ := h.ex
     obtain rfl : r21 = (qza.mk false [18] [1]) := Option.some.inj (h27.symm.trans (by decide +kernel))
     obtain ⟨r22, h28, h⟩ := h.ex
     obtain rfl : r22 = ((qza.mk false [] []), (8 : Int)) := Option.some.inj (h28.symm.trans (by decide +kernel))
     refine AW.rS [(1, slcV 8 qzb.cells [(qzb.mk 0 1 (qza.mk false [2] [1]) (qza.mk false [4] [1])), (qzb.mk 1 2 (qza.mk false [] []) (qza.mk false [10] [1])), (qzb.mk 2 1 (qza.mk false [1] [1]) (qza.mk false [3] [1]))]), (3, .vec 5 1 0 (List.length [[(qza.mk false [2] [1]), (qza.mk false [2] [1]), (qza.mk false [1] [1])], [(qza.mk false [5] [2]), (qza.mk false [5] [1]), (qza.mk false [5] [2])], [(qza.mk false [4] [1]), (qza.mk false [10] [1]), (qza.mk false [3] [1])]])), (14, .int .i64 ((qza.mk false [] []), (8 : Int)).2)] [(0, .gone 2), (1, .gone 1), (2, .gone 2), (3, .gone 2), (4, .gone 2), (5, .vec 1 1 (List.length [[(qza.mk false [2] [1]), (qza.mk false [2] [1]), (qza.mk false [1] [1])], [(qza.mk false [5] [2]), (qza.mk false [5] [1]), (qza.mk false [5] [2])], [(qza.mk false [4] [1]), (qza.mk false [10] [1]), (qza.mk false [3] [1])]]) (qzd (cL 3 qza.cells) [[(qza.mk false [2] [1]), (qza.mk false [2] [1]), (qza.mk false [1] [1])], [(qza.mk false [5] [2]), (qza.mk false [5] [1]), (qza.mk false [5] [2])], [(qza.mk false [4] [1]), (qza.mk false [10] [1]), (qza.mk false [3] [1])]])), (6, .gone ep6), (7, .gone 1), (8, .gone 1), (9, .gone ep9), (10, .gone 1)] ?_ ?_
     ·simp [qz5g, -Int.pred_toNat]
      (repeat' apply And.intro) <;> try first | omega | (simp at * <;> omega)
      refine (qzv 18  _ h27).ca (by simp [-Int.pred_toNat]) ?_
      (try simp [-Int.pred_toNat])
      (repeat' apply And.intro) <;> try first | omega | (simp at * <;> omega)
      refine (qzbt [(qzb.mk 0 1 (qza.mk false [2] [1]) (qza.mk false [4] [1])), (qzb.mk 1 2 (qza.mk false [] []) (qza.mk false [10] [1])), (qzb.mk 2 1 (qza.mk false [1] [1]) (qza.mk false [3] [1]))] (qza.mk false [18] [1])  _ h28).ca (by simp [-Int.pred_toNat]) ?_
      (try simp [-Int.pred_toNat])
      all_goals exact zq1
     obtain ⟨r23, h29, h⟩ := h.ex
     obtain rfl : r23 = (qza.mk false [10] [1]) := Option.some.inj (h29.symm.trans (by decide +kernel))
     obtain ⟨r24, h30, h⟩ := h.ex
     obtain rfl : r24 = ((qze.mk [(qza.mk false [5] [2]), (qza.mk false [5] [1]), (qza.mk false [5] [2])] (qza.mk false [] [])), (0 : Int)) := Option.some.inj (h30.symm.trans (by decide +kernel))
     refine AW.rS [(1, slcV 8 qzb.cells [(qzb.mk 0 1 (qza.mk false [2] [1]) (qza.mk false [4] [1])), (qzb.mk 1 2 (qza.mk false [] []) (qza.mk false [10] [1])), (qzb.mk 2 1 (qza.mk false [1] [1]) (qza.mk false [3] [1]))]), (3, .vec 5 1 0 (List.length [[(qza.mk false [2] [1]), (qza.mk false [2] [1]), (qza.mk false [1] [1])], [(qza.mk false [5] [2]), (qza.mk false [5] [1]), (qza.mk false [5] [2])], [(qza.mk false [4] [1]), (qza.mk false [10] [1]), (qza.mk false [3] [1])]])), (14, .int .i64 ((qza.mk false [] []), (8 : Int)).2), (15, .ptr 11 1 0), (16, .int .i64 ((qze.mk [(qza.mk false [5] [2]), (qza.mk false [5] [1]), (qza.mk false [5] [2])] (qza.mk false [] [])), (0 : Int)).2)] [(0, .gone 2), (1, .gone 1), (2, .gone 2), (3, .gone 2), (4, .gone 2), (5, .vec 1 1 (List.length [[(qza.mk false [2] [1]), (qza.mk false [2] [1]), (qza.mk false [1] [1])], [(qza.mk false [5] [2]), (qza.mk false [5] [1]), (qza.mk false [5] [2])], [(qza.mk false [4] [1]), (qza.mk false [10] [1]), (qza.mk false [3] [1])]]) (qzd (cL 3 qza.cells) [[(qza.mk false [2] [1]), (qza.mk false [2] [1]), (qza.mk false [1] [1])], [(qza.mk false [5] [2]), (qza.mk false [5] [1]), (qza.mk false [5] [2])], [(qza.mk false [4] [1]), (qza.mk false [10] [1]), (qza.mk false [3] [1])]])), (6, .gone ep6), (7, .gone 1), (8, .gone 1), (9, .gone ep9), (10, .gone 1), (11, .box 1 (qze.cells ((qze.mk [(qza.mk false [5] [2]), (qza.mk false [5] [1]), (qza.mk false [5] [2])] (qza.mk false [] [])), (0 : Int)).1))] ?_ ?_
     ·simp [wzci, -Int.pred_toNat]
      (repeat' apply And.intro) <;> try first | omega | (simp at * <;> omega)
      refine (qzv 10  _ h29).ca (by simp [-Int.pred_toNat]) ?_
      (try simp [-Int.pred_toNat])
      (repeat' apply And.intro) <;> try first | omega | (simp at * <;> omega)
      refine (kz0 [(qzb.mk 0 1 (qza.mk false [2] [1]) (qza.mk false [4] [1])), (qzb.mk 1 2 (qza.mk false [] []) (qza.mk false [10] [1])), (qzb.mk 2 1 (qza.mk false [1] [1]) (qza.mk false [3] [1]))] (qza.mk false [10] [1])  _ h30).ca (by simp [-Int.pred_toNat]) ?_
      (try simp [-Int.pred_toNat])
      all_goals exact zq1
     obtain ⟨r25, h31, h⟩ := h.ex
     obtain rfl : r25 = (qza.mk false [2] [1]) := Option.some.inj (h31.symm.trans (by decide +kernel))
     obtain ⟨r26, h32, h⟩ := h.ex
     obtain rfl : r26 = ((qze.mk [(qza.mk false [4] [3]), (qza.mk false [] []), (qza.mk false [2] [3])] (qza.mk false [] [])), (0 : Int)) := Option.some.inj (h32.symm.trans (by decide +kernel))
     refine AW.rS [(1, slcV 8 qzb.cells [(qzb.mk 0 1 (qza.mk false [2] [1]) (qza.mk false [4] [1])), (qzb.mk 1 2 (qza.mk false [] []) (qza.mk false [10] [1])), (qzb.mk 2 1 (qza.mk false [1] [1]) (qza.mk false [3] [1]))]), (3, .vec 5 1 0 (List.length [[(qza.mk false [2] [1]), (qza.mk false [2] [1]), (qza.mk false [1] [1])], [(qza.mk false [5] [2]), (qza.mk false [5] [1]), (qza.mk false [5] [2])], [(qza.mk false [4] [1]), (qza.mk false [10] [1]), (qza.mk false [3] [1])]])), (14, .int .i64 ((qza.mk false [] []), (8 : Int)).2), (15, .ptr 11 1 0), (16, .int .i64 ((qze.mk [(qza.mk false [5] [2]), (qza.mk false [5] [1]), (qza.mk false [5] [2])] (qza.mk false [] [])), (0 : Int)).2), (17, .ptr 12 1 0), (18, .int .i64 ((qze.mk [(qza.mk false [4] [3]), (qza.mk false [] []), (qza.mk false [2] [3])] (qza.mk false [] [])), (0 : Int)).2)] [(0, .gone 2), (1, .gone 1), (2, .gone 2), (3, .gone 2), (4, .gone 2), (5, .vec 1 1 (List.length [[(qza.mk false [2] [1]), (qza.mk false [2] [1]), (qza.mk false [1] [1])], [(qza.mk false [5] [2]), (qza.mk false [5] [1]), (qza.mk false [5] [2])], [(qza.mk false [4] [1]), (qza.mk false [10] [1]), (qza.mk false [3] [1])]]) (qzd (cL 3 qza.cells) [[(qza.mk false [2] [1]), (qza.mk false [2] [1]), (qza.mk false [1] [1])], [(qza.mk false [5] [2]), (qza.mk false [5] [1]), (qza.mk false [5] [2])], [(qza.mk false [4] [1]), (qza.mk false [10] [1]), (qza.mk false [3] [1])]])), (6, .gone ep6), (7, .gone 1), (8, .gone 1), (9, .gone ep9), (10, .gone 1), (11, .box 1 (qze.cells ((qze.mk [(qza.mk false [5] [2]), (qza.mk false [5] [1]), (qza.mk false [5] [2])] (qza.mk false [] [])), (0 : Int)).1)), (12, .box 1 (qze.cells ((qze.mk [(qza.mk false [4] [3]), (qza.mk false [] []), (qza.mk false [2] [3])] (qza.mk false [] [])), (0 : Int)).1))] ?_ ?_
     ·simp [qz5e, -Int.pred_toNat]
      (repeat' apply And.intro) <;> try first | omega | (simp at * <;> omega)
      refine (qzv 2  _ h31).ca (by simp [-Int.pred_toNat]) ?_
      (try simp [-Int.pred_toNat])
      (repeat' apply And.intro) <;> try first | omega | (simp at * <;> omega)
      refine (kz0 [(qzb.mk 0 1 (qza.mk false [2] [1]) (qza.mk false [4] [1])), (qzb.mk 1 2 (qza.mk false [] []) (qza.mk false [10] [1])), (qzb.mk 2 1 (qza.mk false [1] [1]) (qza.mk false [3] [1]))] (qza.mk false [2] [1])  _ h32).ca (by simp [-Int.pred_toNat]) ?_
      (try simp [-Int.pred_toNat])
      all_goals exact zq1
     obtain ⟨r27, h33, h⟩ := h.ex
     obtain rfl : r27 = (qza.mk false [20] [1]) := Option.some.inj (h33.symm.trans (by decide +kernel))
     obtain ⟨r28, h34, h⟩ := h.ex
     obtain rfl : r28 = ((qze.mk [(qza.mk false [4] [1]), (qza.mk false [10] [1]), (qza.mk false [3] [1])] (qza.mk false [3] [1])), (0 : Int)) := Option.some.inj (h34.symm.trans (by decide +kernel))
     refine AW.rS [(1, slcV 8 qzb.cells [(qzb.mk 0 1 (qza.mk false [2] [1]) (qza.mk false [4] [1])), (qzb.mk 1 2 (qza.mk false [] []) (qza.mk false [10] [1])), (qzb.mk 2 1 (qza.mk false [1] [1]) (qza.mk false [3] [1]))]), (3, .vec 5 1 0 (List.length [[(qza.mk false [2] [1]), (qza.mk false [2] [1]), (qza.mk false [1] [1])], [(qza.mk false [5] [2]), (qza.mk false [5] [1]), (qza.mk false [5] [2])], [(qza.mk false [4] [1]), (qza.mk false [10] [1]), (qza.mk false [3] [1])]])), (14, .int .i64 ((qza.mk false [] []), (8 : Int)).2), (15, .ptr 11 1 0), (16, .int .i64 ((qze.mk [(qza.mk false [5] [2]), (qza.mk false [5] [1]), (qza.mk false [5] [2])] (qza.mk false [] [])), (0 : Int)).2), (17, .ptr 12 1 0), (18, .int .i64 ((qze.mk [(qza.mk false [4] [3]), (qza.mk false [] []), (qza.mk false [2] [3])] (qza.mk false [] [])), (0 : Int)).2), (19, .ptr 13 1 0), (20, .int .i64 ((qze.mk [(qza.mk false [4] [1]), (qza.mk false [10] [1]), (qza.mk false [3] [1])] (qza.mk false [3] [1])), (0 : Int)).2)] [(0, .gone 2), (1, .gone 1), (2, .gone 2), (3, .gone 2), (4, .gone 2), (5, .vec 1 1 (List.length [[(qza.mk false [2] [1]), (qza.mk false [2] [1]), (qza.mk false [1] [1])], [(qza.mk false [5] [2]), (qza.mk false [5] [1]), (qza.mk false [5] [2])], [(qza.mk false [4] [1]), (qza.mk false [10] [1]), (qza.mk false [3] [1])]]) (qzd (cL 3 qza.cells) [[(qza.mk false [2] [1]), (qza.mk false [2] [1]), (qza.mk false [1] [1])], [(qza.mk false [5] [2]), (qza.mk false [5] [1]), (qza.mk false [5] [2])], [(qza.mk false [4] [1]), (qza.mk false [10] [1]), (qza.mk false [3] [1])]])), (6, .gone ep6), (7, .gone 1), (8, .gone 1), (9, .gone ep9), (10, .gone 1), (11, .box 1 (qze.cells ((qze.mk [(qza.mk false [5] [2]), (qza.mk false [5] [1]), (qza.mk false [5] [2])] (qza.mk false [] [])), (0 : Int)).1)), (12, .box 1 (qze.cells ((qze.mk [(qza.mk false [4] [3]), (qza.mk false [] []), (qza.mk false [2] [3])] (qza.mk false [] [])), (0 : Int)).1)), (13, .box 1 (qze.cells ((qze.mk [(qza.mk false [4] [1]), (qza.mk false [10] [1]), (qza.mk false [3] [1])] (qza.mk false [3] [1])), (0 : Int)).1))] ?_ ?_
     ·simp [qz61, -Int.pred_toNat]
      (repeat' apply And.intro) <;> try first | omega | (simp at * <;> omega)
      refine (qzv 20  _ h33).ca (by simp [-Int.pred_toNat]) ?_
      (try simp [-Int.pred_toNat])
      (repeat' apply And.intro) <;> try first | omega | (simp at * <;> omega)
      refine (kz0 [(qzb.mk 0 1 (qza.mk false [2] [1]) (qza.mk false [4] [1])), (qzb.mk 1 2 (qza.mk false [] []) (qza.mk false [10] [1])), (qzb.mk 2 1 (qza.mk false [1] [1]) (qza.mk false [3] [1]))] (qza.mk false [20] [1])  _ h34).ca (by simp [-Int.pred_toNat]) ?_
      (try simp [-Int.pred_toNat])
      all_goals exact zq1
     obtain ⟨r29, h35, h⟩ := h.ex
     obtain rfl : r29 = (0 : Int) := Option.some.inj (h35.symm.trans (by decide +kernel))
     obtain ⟨r30, h36, h⟩ := h.ex
     obtain rfl : r30 = (2 : Int) := Option.some.inj (h36.symm.trans (by decide +kernel))
     refine AW.rS [(1, slcV 8 qzb.cells [(qzb.mk 0 1 (qza.mk false [2] [1]) (qza.mk false [4] [1])), (qzb.mk 1 2 (qza.mk false [] []) (qza.mk false [10] [1])), (qzb.mk 2 1 (qza.mk false [1] [1]) (qza.mk false [3] [1]))]), (3, .vec 5 1 0 (List.length [[(qza.mk false [2] [1]), (qza.mk false [2] [1]), (qza.mk false [1] [1])], [(qza.mk false [5] [2]), (qza.mk false [5] [1]), (qza.mk false [5] [2])], [(qza.mk false [4] [1]), (qza.mk false [10] [1]), (qza.mk false [3] [1])]])), (15, .ptr 11 1 0), (17, .ptr 12 1 0), (19, .ptr 13 1 0), (21, .bool (bif (bif (bif (bif (bif (decide (((qza.mk false [] []), (8 : Int)).2 = 8)) then (decide (((qze.mk [(qza.mk false [5] [2]), (qza.mk false [5] [1]), (qza.mk false [5] [2])] (qza.mk false [] [])), (0 : Int)).2 = 0)) else false) then (decide (((qze.mk [(qza.mk false [4] [3]), (qza.mk false [] []), (qza.mk false [2] [3])] (qza.mk false [] [])), (0 : Int)).2 = 0)) else false) then (decide (((qze.mk [(qza.mk false [4] [1]), (qza.mk false [10] [1]), (qza.mk false [3] [1])] (qza.mk false [3] [1])), (0 : Int)).2 = 0)) else false) then (decide ((0 : Int) = 0)) else false) then (decide ((2 : Int) = 2)) else false))] [(0, .gone 2), (1, .gone 1), (2, .gone 2), (3, .gone 2), (4, .gone 2), (5, .vec 1 1 (List.length [[(qza.mk false [2] [1]), (qza.mk false [2] [1]), (qza.mk false [1] [1])], [(qza.mk false [5] [2]), (qza.mk false [5] [1]), (qza.mk false [5] [2])], [(qza.mk false [4] [1]), (qza.mk false [10] [1]), (qza.mk false [3] [1])]]) (qzd (cL 3 qza.cells) [[(qza.mk false [2] [1]), (qza.mk false [2] [1]), (qza.mk false [1] [1])], [(qza.mk false [5] [2]), (qza.mk false [5] [1]), (qza.mk false [5] [2])], [(qza.mk false [4] [1]), (qza.mk false [10] [1]), (qza.mk false [3] [1])]])), (6, .gone ep6), (7, .gone 1), (8, .gone 1), (9, .gone ep9), (10, .gone 1), (11, .box 1 (qze.cells ((qze.mk [(qza.mk false [5] [2]), (qza.mk false [5] [1]), (qza.mk false [5] [2])] (qza.mk false [] [])), (0 : Int)).1)), (12, .box 1 (qze.cells ((qze.mk [(qza.mk false [4] [3]), (qza.mk false [] []), (qza.mk false [2] [3])] (qza.mk false [] [])), (0 : Int)).1)), (13, .box 1 (qze.cells ((qze.mk [(qza.mk false [4] [1]), (qza.mk false [10] [1]), (qza.mk false [3] [1])] (qza.mk false [3] [1])), (0 : Int)).1))] ?_ ?_
     ·simp [wzay, -Int.pred_toNat]
      (repeat' apply And.intro) <;> try first | omega | (simp at * <;> omega)
      refine jzo.pure _ (by simp [-Int.pred_toNat]) (fun e => (qzbp [(qzb.mk 0 1 (qza.mk false [2] [1]) (qza.mk false [4] [1])), (qzb.mk 1 2 (qza.mk false [] []) (qza.mk false [10] [1])), (qzb.mk 2 1 (qza.mk false [1] [1]) (qza.mk false [3] [1]))]  _ (gd_t (by first | (exfalso; simp at e; done) | (simp; done) | simpa using e | simp_all) h35)).w (by first | (simp [-Int.pred_toNat]; done) | (exfalso; simp at e; done) | (simp_all; done))) ?_
      (try simp [-Int.pred_toNat])
      (repeat' apply And.intro) <;> try first | omega | (simp at * <;> omega)
      refine jzo.pure _ (by simp [-Int.pred_toNat]) (fun e => (qzbp []  _ (gd_t (by first | (exfalso; simp at e; done) | (simp; done) | simpa using e | simp_all) h36)).w (by first | (simp [-Int.pred_toNat]; done) | (exfalso; simp at e; done) | (simp_all; done))) ?_
      (try simp [-Int.pred_toNat])
      all_goals exact zq1
     obtain ⟨x5, h37, h⟩ := h.at
     obtain rfl : x5 = [(qza.mk false [5] [2]), (qza.mk false [5] [1]), (qza.mk false [5] [2])] := Option.some.inj (h37.2.2.symm.trans (by decide +kernel))
     obtain ⟨r31, h38, h⟩ := h.ex
     obtain rfl : r31 = true := Option.some.inj (h38.symm.trans (by decide +kernel))
     obtain ⟨r32, h39, h⟩ := h.ex
     obtain rfl : r32 = (qza.mk false [4] [3]) := Option.some.inj (h39.symm.trans (by decide +kernel))
     obtain ⟨r33, h40, h⟩ := h.ex
     obtain rfl : r33 = (qza.mk false [2] [3]) := Option.some.inj (h40.symm.trans (by decide +kernel))
     obtain ⟨r34, h41, h⟩ := h.ex
     obtain rfl : r34 = true := Option.some.inj (h41.symm.trans (by decide +kernel))
     obtain ⟨x6, h42, h⟩ := h.ex
     obtain rfl : x6 = [(qza.mk false [4] [1]), (qza.mk false [10] [1]), (qza.mk false [3] [1])] := Option.some.inj (h42.symm.trans (by decide +kernel))
     obtain ⟨r35, h43, h⟩ := h.ex
     obtain rfl : r35 = true := Option.some.inj (h43.symm.trans (by decide +kernel))
     obtain ⟨r36, h44, h⟩ := h.ex
     obtain rfl : r36 = (qza.mk false [3] [1]) := Option.some.inj (h44.symm.trans (by decide +kernel))
     refine AW.dS [(1, slcV 8 qzb.cells [(qzb.mk 0 1 (qza.mk false [2] [1]) (qza.mk false [4] [1])), (qzb.mk 1 2 (qza.mk false [] []) (qza.mk false [10] [1])), (qzb.mk 2 1 (qza.mk false [1] [1]) (qza.mk false [3] [1]))]), (15, .ptr 11 1 0), (21, .bool (bif (bif (bif (bif (bif (decide (((qza.mk false [] []), (8 : Int)).2 = 8)) then (decide (((qze.mk [(qza.mk false [5] [2]), (qza.mk false [5] [1]), (qza.mk false [5] [2])] (qza.mk false [] [])), (0 : Int)).2 = 0)) else false) then (decide (((qze.mk [(qza.mk false [4] [3]), (qza.mk false [] []), (qza.mk false [2] [3])] (qza.mk false [] [])), (0 : Int)).2 = 0)) else false) then (decide (((qze.mk [(qza.mk false [4] [1]), (qza.mk false [10] [1]), (qza.mk false [3] [1])] (qza.mk false [3] [1])), (0 : Int)).2 = 0)) else false) then (decide ((0 : Int) = 0)) else false) then (decide ((2 : Int) = 2)) else false)), (22, .bool (bif (bif (bif (bif (bif true then ((((qze.mk [(qza.mk false [5] [2]), (qza.mk false [5] [1]), (qza.mk false [5] [2])] (qza.mk false [] [])), (0 : Int)).1.Rest.Neg == false) && (decide (((qze.mk [(qza.mk false [5] [2]), (qza.mk false [5] [1]), (qza.mk false [5] [2])] (qza.mk false [] [])), (0 : Int)).1.Rest.Num = []) && (decide (((qze.mk [(qza.mk false [5] [2]), (qza.mk false [5] [1]), (qza.mk false [5] [2])] (qza.mk false [] [])), (0 : Int)).1.Rest.Den = []) && true))) else false) then true else false) then ((((qze.mk [(qza.mk false [4] [3]), (qza.mk false [] []), (qza.mk false [2] [3])] (qza.mk false [] [])), (0 : Int)).1.Rest.Neg == false) && (decide (((qze.mk [(qza.mk false [4] [3]), (qza.mk false [] []), (qza.mk false [2] [3])] (qza.mk false [] [])), (0 : Int)).1.Rest.Num = []) && (decide (((qze.mk [(qza.mk false [4] [3]), (qza.mk false [] []), (qza.mk false [2] [3])] (qza.mk false [] [])), (0 : Int)).1.Rest.Den = []) && true))) else false) then true else false) then ((((qze.mk [(qza.mk false [4] [1]), (qza.mk false [10] [1]), (qza.mk false [3] [1])] (qza.mk false [3] [1])), (0 : Int)).1.Rest.Neg == (qza.mk false [3] [1]).Neg) && (decide (((qze.mk [(qza.mk false [4] [1]), (qza.mk false [10] [1]), (qza.mk false [3] [1])] (qza.mk false [3] [1])), (0 : Int)).1.Rest.Num = (qza.mk false [3] [1]).Num) && (decide (((qze.mk [(qza.mk false [4] [1]), (qza.mk false [10] [1]), (qza.mk false [3] [1])] (qza.mk false [3] [1])), (0 : Int)).1.Rest.Den = (qza.mk false [3] [1]).Den) && true))) else false))] [(0, .gone 2), (1, .gone 1), (2, .gone 2), (3, .gone 2), (4, .gone 2), (5, .gone 1), (6, .gone ep6), (7, .gone 1), (8, .gone 1), (9, .gone ep9), (10, .gone 1), (11, .box 1 (qze.cells ((qze.mk [(qza.mk false [5] [2]), (qza.mk false [5] [1]), (qza.mk false [5] [2])] (qza.mk false [] [])), (0 : Int)).1)), (12, .gone 1), (13, .gone 1)] ?_ ?_
     ·rcases Bool.eq_false_or_eq_true (bif (bif (bif true then ((((qze.mk [(qza.mk false [5] [2]), (qza.mk false [5] [1]), (qza.mk false [5] [2])] (qza.mk false [] [])), (0 : Int)).1.Rest.Neg == false) && (decide (((qze.mk [(qza.mk false [5] [2]), (qza.mk false [5] [1]), (qza.mk false [5] [2])] (qza.mk false [] [])), (0 : Int)).1.Rest.Num = []) && (decide (((qze.mk [(qza.mk false [5] [2]), (qza.mk false [5] [1]), (qza.mk false [5] [2])] (qza.mk false [] [])), (0 : Int)).1.Rest.Den = []) && true))) else false) then true else false) then ((((qze.mk [(qza.mk false [4] [3]), (qza.mk false [] []), (qza.mk false [2] [3])] (qza.mk false [] [])), (0 : Int)).1.Rest.Neg == false) && (decide (((qze.mk [(qza.mk false [4] [3]), (qza.mk false [] []), (qza.mk false [2] [3])] (qza.mk false [] [])), (0 : Int)).1.Rest.Num = []) && (decide (((qze.mk [(qza.mk false [4] [3]), (qza.mk false [] []), (qza.mk false [2] [3])] (qza.mk false [] [])), (0 : Int)).1.Rest.Den = []) && true))) else false) with e1 | e1
      ·have e1n := e1
       (try simp at e1n)
       obtain ⟨f7a, f7b, f7c⟩ := h37
       have f7d : qzd (cL 3 qza.cells) [[(qza.mk false [2] [1]), (qza.mk false [2] [1]), (qza.mk false [1] [1])], [(qza.mk false [5] [2]), (qza.mk false [5] [1]), (qza.mk false [5] [2])], [(qza.mk false [4] [1]), (qza.mk false [10] [1]), (qza.mk false [3] [1])]] (1) = (cL 3 qza.cells) [(qza.mk false [5] [2]), (qza.mk false [5] [1]), (qza.mk false [5] [2])] := qzo f7c
       have f7e : 1 < List.length [[(qza.mk false [2] [1]), (qza.mk false [2] [1]), (qza.mk false [1] [1])], [(qza.mk false [5] [2]), (qza.mk false [5] [1]), (qza.mk false [5] [2])], [(qza.mk false [4] [1]), (qza.mk false [10] [1]), (qza.mk false [3] [1])]] := by omega
       obtain ⟨f8a, f8b, f8c⟩ := qzlv (gd_t e1 h42)
       have f8d : qzd (cL 3 qza.cells) [[(qza.mk false [2] [1]), (qza.mk false [2] [1]), (qza.mk false [1] [1])], [(qza.mk false [5] [2]), (qza.mk false [5] [1]), (qza.mk false [5] [2])], [(qza.mk false [4] [1]), (qza.mk false [10] [1]), (qza.mk false [3] [1])]] (2) = (cL 3 qza.cells) [(qza.mk false [4] [1]), (qza.mk false [10] [1]), (qza.mk false [3] [1])] := qzo f8c
       have f8e : 2 < List.length [[(qza.mk false [2] [1]), (qza.mk false [2] [1]), (qza.mk false [1] [1])], [(qza.mk false [5] [2]), (qza.mk false [5] [1]), (qza.mk false [5] [2])], [(qza.mk false [4] [1]), (qza.mk false [10] [1]), (qza.mk false [3] [1])]] := by omega
       simp [wzbh, -Int.pred_toNat, e1, e1n, f7a, f7b, f7d, f7e, f8a, f8b, f8d, f8e]
       (repeat' apply And.intro) <;> try first | omega | (simp at * <;> omega)
       refine (qzar ((qze.mk [(qza.mk false [5] [2]), (qza.mk false [5] [1]), (qza.mk false [5] [2])] (qza.mk false [] [])), (0 : Int)).1.Parts [(qza.mk false [5] [2]), (qza.mk false [5] [1]), (qza.mk false [5] [2])]  _ h38).cd (by simp [-Int.pred_toNat, e1, e1n, f7a, f7b, f7d, f7e, f8a, f8b, f8d, f8e]) ?_
       (try simp [-Int.pred_toNat, e1, e1n, f7a, f7b, f7d, f7e, f8a, f8b, f8d, f8e])
       (repeat' apply And.intro) <;> try first | omega | (simp at * <;> omega)
       refine kzb.pure _ (by simp [-Int.pred_toNat, e1, e1n, f7a, f7b, f7d, f7e, f8a, f8b, f8d, f8e]) (fun e => (jzw 4 3  _ (gd_t (by first | (exfalso; simp at e; done) | (simp; done) | simpa using e | simp_all) h39)).w (by first | (simp [-Int.pred_toNat, e1, e1n, f7a, f7b, f7d, f7e, f8a, f8b, f8d, f8e]; done) | (exfalso; simp at e; done) | (simp_all; done))) ?_
       (try simp [-Int.pred_toNat, e1, e1n, f7a, f7b, f7d, f7e, f8a, f8b, f8d, f8e])
       (repeat' apply And.intro) <;> try first | omega | (simp at * <;> omega)
       refine kzb.pure _ (by simp [-Int.pred_toNat, e1, e1n, f7a, f7b, f7d, f7e, f8a, f8b, f8d, f8e]) (fun e => (jzw 2 3  _ (gd_t (by first | (exfalso; simp at e; done) | (simp; done) | simpa using e | simp_all) h40)).w (by first | (simp [-Int.pred_toNat, e1, e1n, f7a, f7b, f7d, f7e, f8a, f8b, f8d, f8e]; done) | (exfalso; simp at e; done) | (simp_all; done))) ?_
       (try simp [-Int.pred_toNat, e1, e1n, f7a, f7b, f7d, f7e, f8a, f8b, f8d, f8e])
       (repeat' apply And.intro) <;> try first | omega | (simp at * <;> omega)
       refine kzb.pure _ (by simp [-Int.pred_toNat, e1, e1n, f7a, f7b, f7d, f7e, f8a, f8b, f8d, f8e]) (fun e => (qzar ((qze.mk [(qza.mk false [4] [3]), (qza.mk false [] []), (qza.mk false [2] [3])] (qza.mk false [] [])), (0 : Int)).1.Parts [(qza.mk false [4] [3]), (qza.mk false [] []), (qza.mk false [2] [3])]  _ (gd_t (by first | (exfalso; simp at e; done) | (simp; done) | simpa using e | simp_all) h41)).w (by first | (simp [-Int.pred_toNat, e1, e1n, f7a, f7b, f7d, f7e, f8a, f8b, f8d, f8e]; done) | (exfalso; simp at e; done) | (simp_all; done))) ?_
       (try simp [-Int.pred_toNat, e1, e1n, f7a, f7b, f7d, f7e, f8a, f8b, f8d, f8e])
       (repeat' apply And.intro) <;> try first | omega | (simp at * <;> omega)
       refine kzb.pure _ (by simp [-Int.pred_toNat, e1, e1n, f7a, f7b, f7d, f7e, f8a, f8b, f8d, f8e]) (fun e => (qzar ((qze.mk [(qza.mk false [4] [1]), (qza.mk false [10] [1]), (qza.mk false [3] [1])] (qza.mk false [3] [1])), (0 : Int)).1.Parts [(qza.mk false [4] [1]), (qza.mk false [10] [1]), (qza.mk false [3] [1])]  _ (gd_t (by first | (exfalso; simp at e; done) | (simp; done) | simpa using e | simp_all) h43)).w (by first | (simp [-Int.pred_toNat, e1, e1n, f7a, f7b, f7d, f7e, f8a, f8b, f8d, f8e]; done) | (exfalso; simp at e; done) | (simp_all; done))) ?_
       (try simp [-Int.pred_toNat, e1, e1n, f7a, f7b, f7d, f7e, f8a, f8b, f8d, f8e])
       (repeat' apply And.intro) <;> try first | omega | (simp at * <;> omega)
       refine kzb.pure _ (by simp [-Int.pred_toNat, e1, e1n, f7a, f7b, f7d, f7e, f8a, f8b, f8d, f8e]) (fun e => (qzv 3  _ (gd_t (by first | (exfalso; simp at e; done) | (simp; done) | simpa using e | simp_all) h44)).w (by first | (simp [-Int.pred_toNat, e1, e1n, f7a, f7b, f7d, f7e, f8a, f8b, f8d, f8e]; done) | (exfalso; simp at e; done) | (simp_all; done))) ?_
       (try simp [-Int.pred_toNat, e1, e1n, f7a, f7b, f7d, f7e, f8a, f8b, f8d, f8e])
       (repeat' apply And.intro) <;> first | omega | (simp at * <;> omega) | kernel_rfl | (intro _; intros; simp_all; done) | exact .mk (by simp [-Int.pred_toNat, e1, e1n, f7a, f7b, f7d, f7e, f8a, f8b, f8d, f8e]) (by simp [-Int.pred_toNat, e1, e1n, f7a, f7b, f7d, f7e, f8a, f8b, f8d, f8e]) rfl
      ·exact absurd e1 (by decide +kernel)
     obtain ⟨r37, h45, h⟩ := h.ex
     obtain rfl : r37 = (qza.mk false [10] [1]) := Option.some.inj (h45.symm.trans (by decide +kernel))
     obtain ⟨r38, h46, h⟩ := h.ex
     obtain rfl : r38 = true := Option.some.inj (h46.symm.trans (by decide +kernel))
     obtain ⟨r39, h47, h⟩ := h.ex
     obtain rfl : r39 = (qza.mk false [10] [1]) := Option.some.inj (h47.symm.trans (by decide +kernel))
     obtain ⟨r40, h48, h⟩ := h.ex
     obtain rfl : r40 = [(qza.mk false [3] [1]), (qza.mk false [5] [1]), (qza.mk false [2] [1])] := Option.some.inj (h48.symm.trans (by decide +kernel))
     obtain ⟨r41, h49, h⟩ := h.ex
     obtain rfl : r41 = false := Option.some.inj (h49.symm.trans (by decide +kernel))
     refine AW.dS [(0, .bool (bif (bif (bif (bif (bif (bif (bif (bif (decide (((qza.mk false [] []), (8 : Int)).2 = 8)) then (decide (((qze.mk [(qza.mk false [5] [2]), (qza.mk false [5] [1]), (qza.mk false [5] [2])] (qza.mk false [] [])), (0 : Int)).2 = 0)) else false) then (decide (((qze.mk [(qza.mk false [4] [3]), (qza.mk false [] []), (qza.mk false [2] [3])] (qza.mk false [] [])), (0 : Int)).2 = 0)) else false) then (decide (((qze.mk [(qza.mk false [4] [1]), (qza.mk false [10] [1]), (qza.mk false [3] [1])] (qza.mk false [3] [1])), (0 : Int)).2 = 0)) else false) then (decide ((0 : Int) = 0)) else false) then (decide ((2 : Int) = 2)) else false) then (bif (bif (bif (bif (bif true then ((((qze.mk [(qza.mk false [5] [2]), (qza.mk false [5] [1]), (qza.mk false [5] [2])] (qza.mk false [] [])), (0 : Int)).1.Rest.Neg == false) && (decide (((qze.mk [(qza.mk false [5] [2]), (qza.mk false [5] [1]), (qza.mk false [5] [2])] (qza.mk false [] [])), (0 : Int)).1.Rest.Num = []) && (decide (((qze.mk [(qza.mk false [5] [2]), (qza.mk false [5] [1]), (qza.mk false [5] [2])] (qza.mk false [] [])), (0 : Int)).1.Rest.Den = []) && true))) else false) then true else false) then ((((qze.mk [(qza.mk false [4] [3]), (qza.mk false [] []), (qza.mk false [2] [3])] (qza.mk false [] [])), (0 : Int)).1.Rest.Neg == false) && (decide (((qze.mk [(qza.mk false [4] [3]), (qza.mk false [] []), (qza.mk false [2] [3])] (qza.mk false [] [])), (0 : Int)).1.Rest.Num = []) && (decide (((qze.mk [(qza.mk false [4] [3]), (qza.mk false [] []), (qza.mk false [2] [3])] (qza.mk false [] [])), (0 : Int)).1.Rest.Den = []) && true))) else false) then true else false) then ((((qze.mk [(qza.mk false [4] [1]), (qza.mk false [10] [1]), (qza.mk false [3] [1])] (qza.mk false [3] [1])), (0 : Int)).1.Rest.Neg == (qza.mk false [3] [1]).Neg) && (decide (((qze.mk [(qza.mk false [4] [1]), (qza.mk false [10] [1]), (qza.mk false [3] [1])] (qza.mk false [3] [1])), (0 : Int)).1.Rest.Num = (qza.mk false [3] [1]).Num) && (decide (((qze.mk [(qza.mk false [4] [1]), (qza.mk false [10] [1]), (qza.mk false [3] [1])] (qza.mk false [3] [1])), (0 : Int)).1.Rest.Den = (qza.mk false [3] [1]).Den) && true))) else false) else false) then true else false) then (!false) else false))] [(0, .gone 2), (1, .gone 1), (2, .gone 2), (3, .gone 2), (4, .gone 2), (5, .gone 1), (6, .gone ep6), (7, .gone 1), (8, .gone 1), (9, .gone ep9), (10, .gone 1), (11, .gone 1), (12, .gone 1), (13, .gone 1)] ?_ ?_
     ·simp [qz87, -Int.pred_toNat]
      (repeat' apply And.intro) <;> try first | omega | (simp at * <;> omega)
      refine kzb.pure _ (by simp [-Int.pred_toNat]) (fun e => (qzv 10  _ (gd_t (by first | (exfalso; simp at e; done) | (simp; done) | simpa using e | simp_all) h45)).w (by first | (simp [-Int.pred_toNat]; done) | (exfalso; simp at e; done) | (simp_all; done))) ?_
      (try simp [-Int.pred_toNat])
      (repeat' apply And.intro) <;> try first | omega | (simp at * <;> omega)
      refine kzb.pure _ (by simp [-Int.pred_toNat]) (fun e => (qza2 [(qzb.mk 0 1 (qza.mk false [2] [1]) (qza.mk false [4] [1])), (qzb.mk 1 2 (qza.mk false [] []) (qza.mk false [10] [1])), (qzb.mk 2 1 (qza.mk false [1] [1]) (qza.mk false [3] [1]))] (qza.mk false [10] [1]) ((qze.mk [(qza.mk false [5] [2]), (qza.mk false [5] [1]), (qza.mk false [5] [2])] (qza.mk false [] [])), (0 : Int)).1  _ (gd_t (by first | (exfalso; simp at e; done) | (simp; done) | simpa using e | simp_all) h46)).w (by first | (simp [-Int.pred_toNat]; done) | (exfalso; simp at e; done) | (simp_all; done))) ?_
      (try simp [-Int.pred_toNat])
      (repeat' apply And.intro) <;> try first | omega | (simp at * <;> omega)
      refine kzb.pure _ (by simp [-Int.pred_toNat]) (fun e => (qzv 10  _ (gd_t (by first | (exfalso; simp at e; done) | (simp; done) | simpa using e | simp_all) h47)).w (by first | (simp [-Int.pred_toNat]; done) | (exfalso; simp at e; done) | (simp_all; done))) ?_
      (try simp [-Int.pred_toNat])
      (repeat' apply And.intro) <;> try first | omega | (simp at * <;> omega)
      refine kzb.pure _ (by simp [-Int.pred_toNat]) (fun e => (qzed [3, 5, 2]  _ (gd_t (by first | (exfalso; simp at e; done) | (simp; done) | simpa using e | simp_all) h48)).w (by first | (simp [-Int.pred_toNat]; done) | (exfalso; simp at e; done) | (simp_all; done))) ?_
      (try simp [-Int.pred_toNat])
      (repeat' apply And.intro) <;> try first | omega | (simp at * <;> omega)
      refine kzb.pure _ (by simp [-Int.pred_toNat]) (fun e => (qza2 [(qzb.mk 0 1 (qza.mk false [2] [1]) (qza.mk false [4] [1])), (qzb.mk 1 2 (qza.mk false [] []) (qza.mk false [10] [1])), (qzb.mk 2 1 (qza.mk false [1] [1]) (qza.mk false [3] [1]))] (qza.mk false [10] [1]) (qze.mk [(qza.mk false [3] [1]), (qza.mk false [5] [1]), (qza.mk false [2] [1])] (qza.mk false [] []))  _ (gd_t (by first | (exfalso; simp at e; done) | (simp; done) | simpa using e | simp_all) h49)).w (by first | (simp [-Int.pred_toNat]; done) | (exfalso; simp at e; done) | (simp_all; done))) ?_
      (try simp [-Int.pred_toNat])
      all_goals exact zq2
     have hr := h.some
     subst hr
     refine AW.rt (rs := rs9) [(0, .bool (bif (bif (bif (bif (bif (bif (bif (bif (decide (((qza.mk false [] []), (8 : Int)).2 = 8)) then (decide (((qze.mk [(qza.mk false [5] [2]), (qza.mk false [5] [1]), (qza.mk false [5] [2])] (qza.mk false [] [])), (0 : Int)).2 = 0)) else false) then (decide (((qze.mk [(qza.mk false [4] [3]), (qza.mk false [] []), (qza.mk false [2] [3])] (qza.mk false [] [])), (0 : Int)).2 = 0)) else false) then (decide (((qze.mk [(qza.mk false [4] [1]), (qza.mk false [10] [1]), (qza.mk false [3] [1])] (qza.mk false [3] [1])), (0 : Int)).2 = 0)) else false) then (decide ((0 : Int) = 0)) else false) then (decide ((2 : Int) = 2)) else false) then (bif (bif (bif (bif (bif true then ((((qze.mk [(qza.mk false [5] [2]), (qza.mk false [5] [1]), (qza.mk false [5] [2])] (qza.mk false [] [])), (0 : Int)).1.Rest.Neg == false) && (decide (((qze.mk [(qza.mk false [5] [2]), (qza.mk false [5] [1]), (qza.mk false [5] [2])] (qza.mk false [] [])), (0 : Int)).1.Rest.Num = []) && (decide (((qze.mk [(qza.mk false [5] [2]), (qza.mk false [5] [1]), (qza.mk false [5] [2])] (qza.mk false [] [])), (0 : Int)).1.Rest.Den = []) && true))) else false) then true else false) then ((((qze.mk [(qza.mk false [4] [3]), (qza.mk false [] []), (qza.mk false [2] [3])] (qza.mk false [] [])), (0 : Int)).1.Rest.Neg == false) && (decide (((qze.mk [(qza.mk false [4] [3]), (qza.mk false [] []), (qza.mk false [2] [3])] (qza.mk false [] [])), (0 : Int)).1.Rest.Num = []) && (decide (((qze.mk [(qza.mk false [4] [3]), (qza.mk false [] []), (qza.mk false [2] [3])] (qza.mk false [] [])), (0 : Int)).1.Rest.Den = []) && true))) else false) then true else false) then ((((qze.mk [(qza.mk false [4] [1]), (qza.mk false [10] [1]), (qza.mk false [3] [1])] (qza.mk false [3] [1])), (0 : Int)).1.Rest.Neg == (qza.mk false [3] [1]).Neg) && (decide (((qze.mk [(qza.mk false [4] [1]), (qza.mk false [10] [1]), (qza.mk false [3] [1])] (qza.mk false [3] [1])), (0 : Int)).1.Rest.Num = (qza.mk false [3] [1]).Num) && (decide (((qze.mk [(qza.mk false [4] [1]), (qza.mk false [10] [1]), (qza.mk false [3] [1])] (qza.mk false [3] [1])), (0 : Int)).1.Rest.Den = (qza.mk false [3] [1]).Den) && true))) else false) else false) then true else false) then (!false) else false))] [(0, .gone 2), (1, .gone 1), (2, .gone 2), (3, .gone 2), (4, .gone 2), (5, .gone 1), (6, .gone ep6), (7, .gone 1), (8, .gone 1), (9, .gone ep9), (10, .gone 1), (11, .gone 1), (12, .gone 1), (13, .gone 1)] (by simp) (by simp) rfl rfl (by simp [rs9]) (by simp [rs9]; try rfl)
    ·obtain ⟨rfl, hs⟩ := hs
     cases h.some
     exact hs
  ·obtain ⟨rfl, hs⟩ := hs
   cases h.some
   exact hs
end Go.Am

