/- Part P5 of the proof that the last part closes: contracts of the functions of this seat. No condition. -/
import Derived.Test.YtpflinpbkifmhaaGreatDoorF1
import Derived.Test.YtpflinpbkifmhaaGreatDoorG1
import Derived.Test.YtpflinpbkifmhaaGreatDoorX1
import Derived.Test.YtpflinpbkifmhaaGreatDoorP1
import Derived.Test.YtpflinpbkifmhaaGreatDoorP2
import Derived.Test.YtpflinpbkifmhaaGreatDoorP3
import Derived.Test.YtpflinpbkifmhaaGreatDoorP4
set_option linter.unusedVariables false
set_option linter.unusedSimpArgs false
set_option maxRecDepth 100000
namespace Go.Am
open Go.Proofs
attribute [local simp] areg aop dreg dop AOp.req argv argU AOp.args wze AOp.unAll Req.val Req.when putT putH qzdb ablk qzfc qzbd qzg6 vzl qzcj qzif qzid qzh7 qzh1 qzhy qzko qzhz qzji qzim qzgg qznh qzj2 qzkg qzjx IntKind.bits vz1 ARes.ok ARes.val vz5 cut AOp.quiet
attribute [local simp] qzc0 qzbz qzcz qze2 qzer qzep kzp qz1 qzh2 qzij
attribute [local simp] qzm6 qzj7 qzhq qzih qzm4 look qz8 zipA wm wh
attribute [local simp] qzm7 qzpn qzpz qzmg qzpx qzmf qzpo qzqa qzpi qzqk qzpm w_fn qznc qzjs qzjh qzhs qzj1 qzmh qzmi AObj.ep AObj.plain AObj.owned
attribute [local simp] wz9 qzbw qzeu qzdp qzey qzd2 qze5 qzfk qze7 qzdi qzdk qzd0 qzgy qzcq qzg5 qzc6 qzfa vz6 lay jzv ldv wzu qz5 kz1 qz9 qzgh wzd AVal.kind
attribute [local simp] AVal.one_int AVal.one_bool AVal.one_str AVal.one_nils AVal.one_slc AVal.one_vec AVal.one_ptr AVal.one_eptr AVal.one_cptr AVal.one_nilp AVal.one_fn AVal.one_nilfn AVal.one_mp AVal.one_nilmp
attribute [local simp] qzkh qzkv qzh8 qzh4 qzkt qzjr qzii qzik qzjn qzkm qzjf qzjw qzkl qzje qzh6 qzhx qzin qzig qzh5 qzio qzm9 qzna qzgf qzgr qzmt qzmr qzgn qzgz qzj6 qzj9 qzjv qzka qzju qzki qzkr qzku
attribute [local simp] qzh cI cB cS cL qzc3 qzdh qzdz qzb7 qzg1 qzh0 qzgc qziq fzm fzh fzv fzl fz1 qzjm qzhw qzjp qzjl qzjk List.range_succ qzd5 qze0 qzfg qzco qzdq qzdu qzag qzdw qzd4
attribute [local simp] qzj0
attribute [local simp] qza.cells
attribute [local simp] qzb.cells
attribute [local simp] qze.cells
attribute [local simp] kzi.cells
attribute [local simp] qz6.cells
attribute [local simp] qzf.cells
attribute [local simp] jzi.cells
attribute [local simp] vzs.cells
attribute [local simp] vzu.cells
attribute [local simp] kzj.cells
attribute [local simp] jzh.cells
attribute [local simp] jzk.cells
set_option maxHeartbeats 4000000
attribute [local simp] qzcs qzdm fnArgs
abbrev kzr (l0 : List qzb) (r10 : qze × Int) (r7 : qza) (r8 : qza) (r9 : qze × Int) (s : Int) (ex : Unit) : List (Nat × AVal) := match s, ex with | t134, () => [(0, slcV 8 qzb.cells l0), (7, .ptr 2 1 0), (8, .ptr 3 1 0), (9, .ptr 4 1 0), (11, .ptr 5 1 0), (133, .int .i64 (List.length l0 : Int)), (134, .int .i64 t134)]
abbrev kzn (l0 : List qzb) (r10 : qze × Int) (r7 : qza) (r8 : qza) (r9 : qze × Int) (s : Int) (ex : Unit) : List (Nat × AObj) := match s, ex with | t134, () => [(0, .gone 1), (1, .gone 1), (2, .box 1 (qza.cells r7)), (3, .box 1 (qza.cells r8)), (4, .box 1 (qze.cells r9.1)), (5, .box 1 (qze.cells r10.1))]
abbrev qzc2 (l0 : List qzb) (r10 : qze × Int) (r7 : qza) (r8 : qza) (r9 : qze × Int) : Unit ⊕ Bool → Exit → ASt → Prop := fun o ex S' => match o with | .inl () => ex = .exit 0 ∧ See EE S' ⟨tl [(0, slcV 8 qzb.cells l0), (7, .ptr 2 1 0), (8, .ptr 3 1 0)] 181, hl [(0, .gone 1), (1, .gone 1), (2, .box 1 (qza.cells r7)), (3, .box 1 (qza.cells r8)), (4, .box 1 (qze.cells r9.1)), (5, .box 1 (qze.cells r10.1))], []⟩ | .inr o => ex = .ret ∧ Post EE rs4 (fun x _ => x = .bool o) .ret S'
theorem qzhm (l0 : List qzb) (r10 : qze × Int) (r7 : qza) (r8 : qza) (r9 : qze × Int) (t134 : Int) (QQ : Int ⊕ (Unit ⊕ Bool) → Prop) (h : Ok (jz0 l0 r10 r9 t134) QQ) : AW EE none Tryz.prog (l4_0 0) (fun ex S' => (∃ s' e', ex = .normal ∧ QQ (.inl s') ∧ See EE S' ⟨tl ((kzr l0 r10 r7 r8 r9) s' e') 181, hl ((kzn l0 r10 r7 r8 r9) s' e'), []⟩) ∨ (∃ o, QQ (.inr o) ∧ ex ≠ .normal ∧ (qzc2 l0 r10 r7 r8 r9) o ex S')) ⟨tl [(0, slcV 8 qzb.cells l0), (7, .ptr 2 1 0), (8, .ptr 3 1 0), (9, .ptr 4 1 0), (11, .ptr 5 1 0), (133, .int .i64 (List.length l0 : Int)), (134, .int .i64 t134)] 181, hl [(0, .gone 1), (1, .gone 1), (2, .box 1 (qza.cells r7)), (3, .box 1 (qza.cells r8)), (4, .box 1 (qze.cells r9.1)), (5, .box 1 (qze.cells r10.1))], []⟩ := by
 unfold jz0 at h
 refine AW.rS [(0, slcV 8 qzb.cells l0), (7, .ptr 2 1 0), (8, .ptr 3 1 0), (9, .ptr 4 1 0), (11, .ptr 5 1 0), (133, .int .i64 (List.length l0 : Int)), (134, .int .i64 t134), (135, .bool (decide (t134 < (List.length l0 : Int))))] [(0, .gone 1), (1, .gone 1), (2, .box 1 (qza.cells r7)), (3, .box 1 (qza.cells r8)), (4, .box 1 (qze.cells r9.1)), (5, .box 1 (qze.cells r10.1))] ?_ ?_
 ·simp [qz4r, -Int.pred_toNat]
  all_goals exact zq1
 refine .seq ?_
 refine AW.ifF (decide (t134 < (List.length l0 : Int))) rfl (by simp) (fun e => ?_) (fun e => ?_)
 ·replace h := h.pos e
  refine AW.skip ?_
  refine .seq ?_
  refine .block ?_
  refine AW.rS [(0, slcV 8 qzb.cells l0), (7, .ptr 2 1 0), (8, .ptr 3 1 0), (9, .ptr 4 1 0), (11, .ptr 5 1 0), (13, .int .i64 t134), (133, .int .i64 (List.length l0 : Int)), (134, .int .i64 t134)] [(0, .gone 1), (1, .gone 1), (2, .box 1 (qza.cells r7)), (3, .box 1 (qza.cells r8)), (4, .box 1 (qze.cells r9.1)), (5, .box 1 (qze.cells r10.1))] ?_ ?_
  ·simp [qz5p, -Int.pred_toNat]
   all_goals exact zq1
  obtain ⟨x1, h18, h⟩ := h.at
  obtain ⟨x2, h19, h⟩ := h.at
  obtain ⟨r18, h20, h⟩ := h.ex
  refine AW.dS [(0, slcV 8 qzb.cells l0), (7, .ptr 2 1 0), (8, .ptr 3 1 0), (9, .ptr 4 1 0), (11, .ptr 5 1 0), (133, .int .i64 (List.length l0 : Int)), (134, .int .i64 t134), (148, .bool (decide (0 < r18)))] [(0, .gone 1), (1, .gone 1), (2, .box 1 (qza.cells r7)), (3, .box 1 (qza.cells r8)), (4, .box 1 (qze.cells r9.1)), (5, .box 1 (qze.cells r10.1))] ?_ ?_
  ·obtain ⟨f1a, f1b, f1c⟩ := h18
   have f1d : qzd qza.cells r9.1.Parts (Int.toNat t134) = qza.cells x1 := qzo f1c
   have f1e : Int.toNat t134 < List.length r9.1.Parts := by omega
   obtain ⟨f2a, f2b, f2c⟩ := h19
   have f2d : qzd qza.cells r10.1.Parts (Int.toNat t134) = qza.cells x2 := qzo f2c
   have f2e : Int.toNat t134 < List.length r10.1.Parts := by omega
   simp [qz8f, -Int.pred_toNat, f1a, f1b, f1d, f1e, f2a, f2b, f2d, f2e]
   (repeat' apply And.intro) <;> try first | omega | (simp at * <;> omega)
   refine (jze x1 x2  _ h20).cd (by simp [-Int.pred_toNat, f1a, f1b, f1d, f1e, f2a, f2b, f2d, f2e]) ?_
   (try simp [-Int.pred_toNat, f1a, f1b, f1d, f1e, f2a, f2b, f2d, f2e])
   (repeat' apply And.intro) <;> first | omega | (simp at * <;> omega) | kernel_rfl | (intro _; intros; simp_all; done) | exact .mk (by simp [-Int.pred_toNat, f1a, f1b, f1d, f1e, f2a, f2b, f2d, f2e]) (by simp [-Int.pred_toNat, f1a, f1b, f1d, f1e, f2a, f2b, f2d, f2e]) rfl
  refine AW.ifF (decide (0 < r18)) rfl (by simp) (fun e => ?_) (fun e => ?_)
  ·replace h := h.pos e
   refine AW.rS [(6, .bool false)] [(0, .gone 1), (1, .gone 1), (2, .gone 1), (3, .gone 1), (4, .gone 1), (5, .gone 1)] ?_ ?_
   ·simp [qz7y, -Int.pred_toNat]
    all_goals exact zq1
   exact .ret (.inr ⟨.inr false, h.some, by simp, rfl, .wk (rs := rs4) [(6, .bool false)] [(0, .gone 1), (1, .gone 1), (2, .gone 1), (3, .gone 1), (4, .gone 1), (5, .gone 1)] (by simp) (by simp) rfl (by simp [rs4]) (by simp [rs4]; try rfl)⟩)
  ·replace h := h.neg e
   refine AW.skip ?_
   obtain ⟨h21, h⟩ := h.ck
   refine AW.rE [(0, slcV 8 qzb.cells l0), (7, .ptr 2 1 0), (8, .ptr 3 1 0), (9, .ptr 4 1 0), (11, .ptr 5 1 0), (133, .int .i64 (List.length l0 : Int)), (134, .int .i64 (t134 + 1))] [(0, .gone 1), (1, .gone 1), (2, .box 1 (qza.cells r7)), (3, .box 1 (qza.cells r8)), (4, .box 1 (qze.cells r9.1)), (5, .box 1 (qze.cells r10.1))] ?_ (fun S' hs1 => ?_)
   ·have f3 := qzr h21
    simp [wzbq, -Int.pred_toNat, f3]
    (repeat' apply And.intro) <;> first | omega | (simp at * <;> omega) | (intro _; intros; simp_all; done) | exact .mk (by simp [-Int.pred_toNat, f3]) (by simp [-Int.pred_toNat, f3]) rfl
   exact .inl ⟨(t134 + 1), (), rfl, h.some, (hs1.trans (.wk (by simp [kzr]) (by simp [kzn]) rfl))⟩
 ·replace h := h.neg e
  refine .exit ?_
  exact .inr ⟨.inl (), h.some, by simp, ⟨rfl, (.wk (by simp) (by simp) rfl)⟩⟩
theorem qzjb (l0 : List qzb) (a1 : qza) (b2 : qza)  (r : Bool) (h : yz5 l0 a1 b2 = some r) : qzq EE Tryz.prog 4 [slcV 8 qzb.cells l0, .agg (qza.cells a1), .agg (qza.cells b2)] (.bool r) := by
 refine Pure.still ?_ hEE (by simp [-qzh, (fun l => qzj (st := 8) (c := qzb.cells) (l := l) qzb.noref), qza.cells] <;> assumption) (by simp [-qzh, (fun l => qzj (st := 8) (c := qzb.cells) (l := l) qzb.noref), qza.cells])
 obtain ⟨c, hb, hc⟩ := ck4
 replace h := Ok.of h; unfold yz5 at h
 refine Pure.ofs (fn := Tryz.f4) (n := 181) rfl hb cr4 (hc 0) rfl rfl (by simp) ?_
 refine AW.rS [(0, slcV 8 qzb.cells l0), (4, .ptr 0 1 0), (5, .ptr 1 1 0)] [(0, .box 1 [.bool a1.Neg, .str a1.Num, .str a1.Den]), (1, .box 1 [.bool b2.Neg, .str b2.Num, .str b2.Den])] ?_ ?_
 ·simp [r4_0, -Int.pred_toNat]
  all_goals exact zq1
 refine .seq ?_
 obtain ⟨r1, h1, h⟩ := h.ex
 obtain ⟨r2, h2, h⟩ := h.ex
 obtain ⟨r3, h3, h⟩ := h.ex
 obtain ⟨r4, h4, h⟩ := h.ex
 obtain ⟨r5, h5, h⟩ := h.ex
 refine AW.rS [(0, slcV 8 qzb.cells l0), (4, .ptr 0 1 0), (5, .ptr 1 1 0), (50, .bool (bif (bif (bif (bif (bif (bif (!r1) then true else (!r2)) then true else (!decide (r3 = 0))) then true else (!r4)) then true else (!r5)) then true else a1.Neg) then true else b2.Neg))] [(0, .box 1 [.bool a1.Neg, .str a1.Num, .str a1.Den]), (1, .box 1 [.bool b2.Neg, .str b2.Num, .str b2.Den])] ?_ ?_
 ·simp [r4_1, -Int.pred_toNat]
  (repeat' apply And.intro) <;> try first | omega | (simp at * <;> omega)
  refine (qzkj l0 a1  _ h1).ca (by simp [-Int.pred_toNat]) ?_
  (try simp [-Int.pred_toNat])
  (repeat' apply And.intro) <;> try first | omega | (simp at * <;> omega)
  refine jzo.pure _ (by simp [-Int.pred_toNat]) (fun e => (qzkj l0 b2  _ (gd_t (by first | (exfalso; simp at e; done) | simpa using e | simp_all) h2)).w (by first | (simp [-Int.pred_toNat]; done) | (exfalso; simp at e; done) | (simp_all; done))) ?_
  (try simp [-Int.pred_toNat])
  (repeat' apply And.intro) <;> try first | omega | (simp at * <;> omega)
  refine jzo.pure _ (by simp [-Int.pred_toNat]) (fun e => (qzbp l0  _ (gd_t (by first | (exfalso; simp at e; done) | simpa using e | simp_all) h3)).w (by first | (simp [-Int.pred_toNat]; done) | (exfalso; simp at e; done) | (simp_all; done))) ?_
  (try simp [-Int.pred_toNat])
  (repeat' apply And.intro) <;> try first | omega | (simp at * <;> omega)
  refine jzo.pure _ (by simp [-Int.pred_toNat]) (fun e => (qzc8 a1  _ (gd_t (by first | (exfalso; simp at e; done) | simpa using e | simp_all) h4)).w (by first | (simp [-Int.pred_toNat]; done) | (exfalso; simp at e; done) | (simp_all; done))) ?_
  (try simp [-Int.pred_toNat])
  (repeat' apply And.intro) <;> try first | omega | (simp at * <;> omega)
  refine jzo.pure _ (by simp [-Int.pred_toNat]) (fun e => (qzc8 b2  _ (gd_t (by first | (exfalso; simp at e; done) | simpa using e | simp_all) h5)).w (by first | (simp [-Int.pred_toNat]; done) | (exfalso; simp at e; done) | (simp_all; done))) ?_
  (try simp [-Int.pred_toNat])
  all_goals exact zq1
 refine AW.ifF (bif (bif (bif (bif (bif (bif (!r1) then true else (!r2)) then true else (!decide (r3 = 0))) then true else (!r4)) then true else (!r5)) then true else a1.Neg) then true else b2.Neg) rfl (by simp) (fun e => ?_) (fun e => ?_)
 ·replace h := h.pos e
  obtain ⟨r6, h6, h⟩ := h.ex
  refine AW.rS [(6, .bool r6)] [(0, .gone 1), (1, .gone 1)] ?_ ?_
  ·simp [r4_2, -Int.pred_toNat]
   (repeat' apply And.intro) <;> try first | omega | (simp at * <;> omega)
   refine (qzhb   _ h6).ca (by simp [-Int.pred_toNat]) ?_
   (try simp [-Int.pred_toNat])
   all_goals exact zq1
  have hr := h.some
  subst hr
  refine AW.rt (rs := rs4) [(6, .bool r6)] [(0, .gone 1), (1, .gone 1)] (by simp) (by simp) rfl rfl (by simp [rs4]) (by simp [rs4]; try rfl)
 ·replace h := h.neg e
  refine AW.skip ?_
  obtain ⟨r7, h7, h⟩ := h.ex
  obtain ⟨r8, h8, h⟩ := h.ex
  refine AW.dS [(0, slcV 8 qzb.cells l0), (7, .ptr 2 1 0), (8, .ptr 3 1 0)] [(0, .gone 1), (1, .gone 1), (2, .box 1 (qza.cells r7)), (3, .box 1 (qza.cells r8))] ?_ ?_
  ·simp [r4_3, -Int.pred_toNat]
   (repeat' apply And.intro) <;> try first | omega | (simp at * <;> omega)
   refine (qzmw a1 b2  _ h7).cd (by simp [-Int.pred_toNat]) ?_
   (try simp [-Int.pred_toNat])
   (repeat' apply And.intro) <;> try first | omega | (simp at * <;> omega)
   refine (qzmn a1 b2  _ h8).cd (by simp [-Int.pred_toNat]) ?_
   (try simp [-Int.pred_toNat])
   all_goals exact zq2
  obtain ⟨r9, h9, h⟩ := h.ex
  refine AW.rS [(0, slcV 8 qzb.cells l0), (7, .ptr 2 1 0), (8, .ptr 3 1 0), (9, .ptr 4 1 0), (10, .int .i64 r9.2)] [(0, .gone 1), (1, .gone 1), (2, .box 1 (qza.cells r7)), (3, .box 1 (qza.cells r8)), (4, .box 1 (qze.cells r9.1))] ?_ ?_
  ·simp [r4_4, -Int.pred_toNat]
   (repeat' apply And.intro) <;> try first | omega | (simp at * <;> omega)
   refine (kz0 l0 r7  _ h9).ca (by simp [-Int.pred_toNat]) ?_
   (try simp [-Int.pred_toNat])
   all_goals exact zq1
  obtain ⟨r10, h10, h⟩ := h.ex
  refine AW.rS [(0, slcV 8 qzb.cells l0), (7, .ptr 2 1 0), (8, .ptr 3 1 0), (9, .ptr 4 1 0), (10, .int .i64 r9.2), (11, .ptr 5 1 0), (12, .int .i64 r10.2)] [(0, .gone 1), (1, .gone 1), (2, .box 1 (qza.cells r7)), (3, .box 1 (qza.cells r8)), (4, .box 1 (qze.cells r9.1)), (5, .box 1 (qze.cells r10.1))] ?_ ?_
  ·simp [r4_5, -Int.pred_toNat]
   (repeat' apply And.intro) <;> try first | omega | (simp at * <;> omega)
   refine (kz0 l0 r8  _ h10).ca (by simp [-Int.pred_toNat]) ?_
   (try simp [-Int.pred_toNat])
   all_goals exact zq1
  refine .seq ?_
  refine AW.rS [(0, slcV 8 qzb.cells l0), (7, .ptr 2 1 0), (8, .ptr 3 1 0), (9, .ptr 4 1 0), (11, .ptr 5 1 0), (91, .bool (bif (bif (bif (!decide (r9.2 = 0)) then true else (!decide (r10.2 = 0))) then true else (!decide ((List.length r9.1.Parts : Int) = (List.length l0 : Int)))) then true else (!decide ((List.length r10.1.Parts : Int) = (List.length l0 : Int)))))] [(0, .gone 1), (1, .gone 1), (2, .box 1 (qza.cells r7)), (3, .box 1 (qza.cells r8)), (4, .box 1 (qze.cells r9.1)), (5, .box 1 (qze.cells r10.1))] ?_ ?_
  ·simp [r4_6, -Int.pred_toNat]
   all_goals exact zq1
  refine AW.ifF (bif (bif (bif (!decide (r9.2 = 0)) then true else (!decide (r10.2 = 0))) then true else (!decide ((List.length r9.1.Parts : Int) = (List.length l0 : Int)))) then true else (!decide ((List.length r10.1.Parts : Int) = (List.length l0 : Int)))) rfl (by simp) (fun e => ?_) (fun e => ?_)
  ·replace h := h.pos e
   refine AW.rS [(6, .bool false)] [(0, .gone 1), (1, .gone 1), (2, .gone 1), (3, .gone 1), (4, .gone 1), (5, .gone 1)] ?_ ?_
   ·simp [r4_7, -Int.pred_toNat]
    all_goals exact zq1
   have hr := h.some
   subst hr
   refine AW.rt (rs := rs4) [(6, .bool false)] [(0, .gone 1), (1, .gone 1), (2, .gone 1), (3, .gone 1), (4, .gone 1), (5, .gone 1)] (by simp) (by simp) rfl rfl (by simp [rs4]) (by simp [rs4]; try rfl)
  ·replace h := h.neg e
   refine AW.skip ?_
   refine .seq ?_
   obtain ⟨r11, h11, h⟩ := h.ex
   obtain ⟨r12, h12, h⟩ := h.ex
   obtain ⟨r13, h13, h⟩ := h.ex
   obtain ⟨r14, h14, h⟩ := h.ex
   obtain ⟨r15, h15, h⟩ := h.ex
   obtain ⟨r16, h16, h⟩ := h.ex
   obtain ⟨r17, h17, h⟩ := h.ex
   refine AW.dS [(0, slcV 8 qzb.cells l0), (7, .ptr 2 1 0), (8, .ptr 3 1 0), (9, .ptr 4 1 0), (11, .ptr 5 1 0), (131, .bool (bif (bif (bif (bif (!((r12.Neg == r7.Neg) && (decide (r12.Num = r7.Num) && (decide (r12.Den = r7.Den) && true)))) then true else (!((r14.Neg == r8.Neg) && (decide (r14.Num = r8.Num) && (decide (r14.Den = r8.Den) && true))))) then true else (!r15)) then true else (!r16)) then true else (decide (0 < r17))))] [(0, .gone 1), (1, .gone 1), (2, .box 1 (qza.cells r7)), (3, .box 1 (qza.cells r8)), (4, .box 1 (qze.cells r9.1)), (5, .box 1 (qze.cells r10.1))] ?_ ?_
   ·simp [r4_8, -Int.pred_toNat]
    (repeat' apply And.intro) <;> try first | omega | (simp at * <;> omega)
    refine (qzbg r9.1.Parts  _ h11).cd (by simp [-Int.pred_toNat]) ?_
    (try simp [-Int.pred_toNat])
    (repeat' apply And.intro) <;> try first | omega | (simp at * <;> omega)
    refine (qzev r11 r9.1.Rest  _ h12).cd (by simp [-Int.pred_toNat]) ?_
    (try simp [-Int.pred_toNat])
    (repeat' apply And.intro) <;> try first | omega | (simp at * <;> omega)
    refine kzb.pure _ (by simp [-Int.pred_toNat]) (fun e => (qzbg r10.1.Parts  _ (gd_t (by first | (exfalso; simp at e; done) | simpa using e | simp_all) h13)).w (by first | (simp [-Int.pred_toNat]; done) | (exfalso; simp at e; done) | (simp_all; done))) ?_
    (try simp [-Int.pred_toNat])
    (repeat' apply And.intro) <;> try first | omega | (simp at * <;> omega)
    refine kzb.pure _ (by simp [-Int.pred_toNat]) (fun e => (qzev r13 r10.1.Rest  _ (gd_t (by first | (exfalso; simp at e; done) | simpa using e | simp_all) h14)).w (by first | (simp [-Int.pred_toNat]; done) | (exfalso; simp at e; done) | (simp_all; done))) ?_
    (try simp [-Int.pred_toNat])
    (repeat' apply And.intro) <;> try first | omega | (simp at * <;> omega)
    refine kzb.pure _ (by simp [-Int.pred_toNat]) (fun e => (qza2 l0 r7 r9.1  _ (gd_t (by first | (exfalso; simp at e; done) | simpa using e | simp_all) h15)).w (by first | (simp [-Int.pred_toNat]; done) | (exfalso; simp at e; done) | (simp_all; done))) ?_
    (try simp [-Int.pred_toNat])
    (repeat' apply And.intro) <;> try first | omega | (simp at * <;> omega)
    refine kzb.pure _ (by simp [-Int.pred_toNat]) (fun e => (qza2 l0 r8 r10.1  _ (gd_t (by first | (exfalso; simp at e; done) | simpa using e | simp_all) h16)).w (by first | (simp [-Int.pred_toNat]; done) | (exfalso; simp at e; done) | (simp_all; done))) ?_
    (try simp [-Int.pred_toNat])
    (repeat' apply And.intro) <;> try first | omega | (simp at * <;> omega)
    refine kzb.pure _ (by simp [-Int.pred_toNat]) (fun e => (jze r9.1.Rest r10.1.Rest  _ (gd_t (by first | (exfalso; simp at e; done) | simpa using e | simp_all) h17)).w (by first | (simp [-Int.pred_toNat]; done) | (exfalso; simp at e; done) | (simp_all; done))) ?_
    (try simp [-Int.pred_toNat])
    all_goals exact zq2
   refine AW.ifF (bif (bif (bif (bif (!((r12.Neg == r7.Neg) && (decide (r12.Num = r7.Num) && (decide (r12.Den = r7.Den) && true)))) then true else (!((r14.Neg == r8.Neg) && (decide (r14.Num = r8.Num) && (decide (r14.Den = r8.Den) && true))))) then true else (!r15)) then true else (!r16)) then true else (decide (0 < r17))) rfl (by simp) (fun e => ?_) (fun e => ?_)
   ·replace h := h.pos e
    refine AW.rS [(6, .bool false)] [(0, .gone 1), (1, .gone 1), (2, .gone 1), (3, .gone 1), (4, .gone 1), (5, .gone 1)] ?_ ?_
    ·simp [r4_9, -Int.pred_toNat]
     all_goals exact zq1
    have hr := h.some
    subst hr
    refine AW.rt (rs := rs4) [(6, .bool false)] [(0, .gone 1), (1, .gone 1), (2, .gone 1), (3, .gone 1), (4, .gone 1), (5, .gone 1)] (by simp) (by simp) rfl rfl (by simp [rs4]) (by simp [rs4]; try rfl)
   ·replace h := h.neg e
    refine AW.skip ?_
    refine .seq ?_
    refine AW.rS [(0, slcV 8 qzb.cells l0), (7, .ptr 2 1 0), (8, .ptr 3 1 0), (9, .ptr 4 1 0), (11, .ptr 5 1 0), (133, .int .i64 (List.length l0 : Int)), (134, .int .i64 0)] [(0, .gone 1), (1, .gone 1), (2, .box 1 (qza.cells r7)), (3, .box 1 (qza.cells r8)), (4, .box 1 (qze.cells r9.1)), (5, .box 1 (qze.cells r10.1))] ?_ ?_
    ·simp [qz9u, -Int.pred_toNat]
     all_goals exact zq1
    refine .block ?_
    refine AW.lpF (ε := Unit) () h.bd (kzr l0 r10 r7 r8 r9) (kzn l0 r10 r7 r8 r9) (qzc2 l0 r10 r7 r8 r9) (by simp [kzr]) (by simp [kzn]) rfl ?_ ?_
    ·rintro t134 ⟨⟩ QQ h
     exact qzhm l0 r10 r7 r8 r9 t134 QQ h
    ·intro o h ex S' hs
     rcases o with ⟨⟩ | o
     ·obtain ⟨rfl, hs⟩ := hs
      refine .see hs ?_
      obtain ⟨r19, h22, h⟩ := h.ex
      refine AW.rS [(0, slcV 8 qzb.cells l0), (8, .ptr 3 1 0), (14, .ptr 6 1 0), (15, .int .i64 r19.2)] [(0, .gone 1), (1, .gone 1), (2, .gone 1), (3, .box 1 (qza.cells r8)), (4, .gone 1), (5, .gone 1), (6, .box 1 (qza.cells r19.1))] ?_ ?_
      ·simp [wzbo, -Int.pred_toNat]
       (repeat' apply And.intro) <;> try first | omega | (simp at * <;> omega)
       refine (qzbt l0 r7  _ h22).ca (by simp [-Int.pred_toNat]) ?_
       (try simp [-Int.pred_toNat])
       all_goals exact zq1
      obtain ⟨r20, h23, h⟩ := h.ex
      refine AW.rS [(14, .ptr 6 1 0), (15, .int .i64 r19.2), (16, .ptr 7 1 0), (17, .int .i64 r20.2)] [(0, .gone 1), (1, .gone 1), (2, .gone 1), (3, .gone 1), (4, .gone 1), (5, .gone 1), (6, .box 1 (qza.cells r19.1)), (7, .box 1 (qza.cells r20.1))] ?_ ?_
      ·simp [qz45, -Int.pred_toNat]
       (repeat' apply And.intro) <;> try first | omega | (simp at * <;> omega)
       refine (qzbt l0 r8  _ h23).ca (by simp [-Int.pred_toNat]) ?_
       (try simp [-Int.pred_toNat])
       all_goals exact zq1
      obtain ⟨r21, h24, h⟩ := h.ex
      obtain ⟨r22, h25, h⟩ := h.ex
      refine AW.rS [(6, .bool (bif (bif r21 then (bif (decide (r19.2 = 0)) then true else (!decide (r20.2 = 0))) else false) then (bif (!decide (r20.2 = 0)) then true else (decide (r22 ≤ 0))) else false))] [(0, .gone 1), (1, .gone 1), (2, .gone 1), (3, .gone 1), (4, .gone 1), (5, .gone 1), (6, .gone 1), (7, .gone 1)] ?_ ?_
      ·simp [qz41, -Int.pred_toNat]
       (repeat' apply And.intro) <;> try first | omega | (simp at * <;> omega)
       refine (qzhb   _ h24).ca (by simp [-Int.pred_toNat]) ?_
       (try simp [-Int.pred_toNat])
       (repeat' apply And.intro) <;> try first | omega | (simp at * <;> omega)
       refine jzo.pure _ (by simp [-Int.pred_toNat]) (fun e => (jze r19.1 r20.1  _ (gd_t (by first | (exfalso; simp at e; done) | simpa using e | simp_all) h25)).w (by first | (simp [-Int.pred_toNat]; done) | (exfalso; simp at e; done) | (simp_all; done))) ?_
       (try simp [-Int.pred_toNat])
       all_goals exact zq1
      have hr := h.some
      subst hr
      refine AW.rt (rs := rs4) [(6, .bool (bif (bif r21 then (bif (decide (r19.2 = 0)) then true else (!decide (r20.2 = 0))) else false) then (bif (!decide (r20.2 = 0)) then true else (decide (r22 ≤ 0))) else false))] [(0, .gone 1), (1, .gone 1), (2, .gone 1), (3, .gone 1), (4, .gone 1), (5, .gone 1), (6, .gone 1), (7, .gone 1)] (by simp) (by simp) rfl rfl (by simp [rs4]) (by simp [rs4]; try rfl)
     ·obtain ⟨rfl, hs⟩ := hs
      cases h.some
      exact hs
end Go.Am

