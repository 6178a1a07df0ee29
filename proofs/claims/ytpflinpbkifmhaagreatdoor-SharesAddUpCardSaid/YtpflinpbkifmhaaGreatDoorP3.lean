/- Part P3 of the proof that the last part closes: contracts of the functions of this seat. No condition. -/
import Derived.Test.YtpflinpbkifmhaaGreatDoorF1
import Derived.Test.YtpflinpbkifmhaaGreatDoorG1
import Derived.Test.YtpflinpbkifmhaaGreatDoorX1
import Derived.Test.YtpflinpbkifmhaaGreatDoorP1
import Derived.Test.YtpflinpbkifmhaaGreatDoorP2
set_option linter.unusedVariables false
set_option linter.unusedSimpArgs false
set_option maxRecDepth 100000
namespace Go.Am
open Go.Proofs
attribute [local simp] areg aop dreg dop AOp.req argv argU AOp.args wze AOp.unAll Req.val Req.when putT putH qzdb ablk qzfc qzbd qzg6 vzl qzcj qzif qzid qzh7 qzh1 qzhy qzko qzhz qzji qzim qzgg qznh qzj2 qzkg qzjx IntKind.bits vz1 ARes.ok ARes.val vz5 cut AOp.quiet
attribute [local simp] qzc0 qzbz qzcz qze2 qzer qzep kzp qz1 qzh2 qzij
attribute [local simp] qzm6 qzj7 qzhq qzih qzm4 look qz8 zipA wm wh
attribute [local simp] qzm7 qzpn qzpz qzmg qzpx qzmf qzpo qzqa qzpi qzqk qzpm w_fn qznc qzjs qzjh qzhs qzj1 qzmh qzmi AObj.ep AObj.plain AObj.owned
attribute [local simp] wz9 qzbw qzeu qzdp qzey qzd2 qze5 qzfk qze7 qzdi qzdk qzd0 qzgy qzcq qzg5 qzc6 qzfa vz6 lay jzv ldv wzu qz5 kz1 qz9 qzgh wzd AVal.kind
attribute [local simp] AVal.one_int AVal.one_bool AVal.one_str AVal.one_nils AVal.one_slc AVal.one_vec AVal.one_ptr AVal.one_eptr AVal.one_cptr AVal.one_nilp AVal.one_fn AVal.one_nilfn AVal.one_mp AVal.one_nilmp
attribute [local simp] qzkh qzkv qzh8 qzh4 qzkt qzjr qzii qzik qzjn qzkm qzjf qzjw qzkl qzje qzh6 qzhx qzin qzig qzh5 qzio qzm9 qzna qzgf qzgr qzmt qzmr qzgn qzgz qzj6 qzj9 qzjv qzka qzju qzki qzkr qzku
attribute [local simp] qzh cI cB cS cL qzc3 qzdh qzdz qzb7 qzg1 qzh0 qzgc qziq fzm fzh fzv fzl fz1 qzjm qzhw qzjp qzjl qzjk List.range_succ qzd5 qze0 qzfg qzco qzdq qzdu qzag qzdw qzd4
attribute [local simp] qzj0
attribute [local simp] qza.cells
attribute [local simp] qzb.cells
attribute [local simp] qze.cells
attribute [local simp] kzi.cells
attribute [local simp] qz6.cells
attribute [local simp] qzf.cells
attribute [local simp] jzi.cells
attribute [local simp] vzs.cells
attribute [local simp] vzu.cells
attribute [local simp] kzj.cells
attribute [local simp] jzh.cells
attribute [local simp] jzk.cells
set_option maxHeartbeats 4000000
attribute [local simp] qzcs qzdm fnArgs
theorem qzbt (l0 : List qzb) (flow1 : qza)  (r : qza × Int) (h : kz3 l0 flow1 = some r) : qzq EE Tryz.prog 11 [slcV 8 qzb.cells l0, .agg (qza.cells flow1)] (.tup [.agg (qza.cells r.1), .int .i64 r.2]) := by
 refine Pure.still ?_ hEE (by simp [-qzh, (fun l => qzj (st := 8) (c := qzb.cells) (l := l) qzb.noref), qza.cells] <;> assumption) (by simp [-qzh, (fun l => qzj (st := 8) (c := qzb.cells) (l := l) qzb.noref), qza.cells])
 obtain ⟨c, hb, hc⟩ := ck11
 replace h := Ok.of h; unfold kz3 at h
 refine Pure.ofs (fn := Tryz.f11) (n := 23) rfl hb cr11 (hc 0) rfl rfl (by simp) ?_
 refine AW.rS [(0, slcV 8 qzb.cells l0), (3, .ptr 0 1 0), (4, .ptr 1 1 0)] [(0, .box 1 [.bool flow1.Neg, .str flow1.Num, .str flow1.Den]), (1, .box 1 [.bool false, .str [], .str []])] ?_ ?_
 ·simp [qz43, -Int.pred_toNat]
  all_goals exact zq1
 refine .seq ?_
 obtain ⟨r1, h1, h⟩ := h.ex
 refine AW.rS [(0, slcV 8 qzb.cells l0), (3, .ptr 0 1 0), (4, .ptr 1 1 0), (6, .int .i64 r1)] [(0, .box 1 [.bool flow1.Neg, .str flow1.Num, .str flow1.Den]), (1, .box 1 [.bool false, .str [], .str []])] ?_ ?_
 ·simp [qz6k, -Int.pred_toNat]
  (repeat' apply And.intro) <;> try first | omega | (simp at * <;> omega)
  refine (qzec l0 flow1  _ h1).ca (by simp [-Int.pred_toNat]) ?_
  (try simp [-Int.pred_toNat])
  all_goals exact zq1
 refine AW.rS [(0, slcV 8 qzb.cells l0), (3, .ptr 0 1 0), (4, .ptr 1 1 0), (6, .int .i64 r1), (11, .bool (!decide (r1 = 0)))] [(0, .box 1 [.bool flow1.Neg, .str flow1.Num, .str flow1.Den]), (1, .box 1 [.bool false, .str [], .str []])] ?_ ?_
 ·simp [wzak, -Int.pred_toNat]
  all_goals exact zq1
 refine AW.ifF (!decide (r1 = 0)) rfl (by simp) (fun e => ?_) (fun e => ?_)
 ·replace h := h.pos e
  refine AW.rS [(4, .ptr 1 1 0), (5, .int .i64 r1)] [(0, .gone 1), (1, .box 1 [.bool false, .str [], .str []])] ?_ ?_
  ·simp [qz5y, -Int.pred_toNat]
   all_goals exact zq1
  have hr := h.some
  subst hr
  refine AW.rt (rs := rs11) [(4, .ptr 1 1 0), (5, .int .i64 r1)] [(0, .gone 1), (1, .box 1 (qza.cells (qza.mk false [] [])))] (by simp) (by simp) rfl rfl (by simp [rs11]) (by simp [rs11]; try rfl)
 ·replace h := h.neg e
  refine AW.skip ?_
  refine .seq ?_
  obtain ⟨r2, h2, h⟩ := h.ex
  obtain ⟨r3, h3, h⟩ := h.ex
  refine AW.dS [(0, slcV 8 qzb.cells l0), (3, .ptr 0 1 0), (4, .ptr 1 1 0), (18, .bool (decide (0 < r3)))] [(0, .box 1 [.bool flow1.Neg, .str flow1.Num, .str flow1.Den]), (1, .box 1 [.bool false, .str [], .str []])] ?_ ?_
  ·simp [qz75, -Int.pred_toNat]
   (repeat' apply And.intro) <;> try first | omega | (simp at * <;> omega)
   refine (qzdd l0  _ h2).cd (by simp [-Int.pred_toNat]) ?_
   (try simp [-Int.pred_toNat])
   (repeat' apply And.intro) <;> try first | omega | (simp at * <;> omega)
   refine (jze flow1 r2  _ h3).cd (by simp [-Int.pred_toNat]) ?_
   (try simp [-Int.pred_toNat])
   all_goals exact zq2
  refine AW.ifF (decide (0 < r3)) rfl (by simp) (fun e => ?_) (fun e => ?_)
  ·replace h := h.pos e
   refine AW.rS [(4, .ptr 1 1 0), (5, .int .i64 8)] [(0, .gone 1), (1, .box 1 [.bool false, .str [], .str []])] ?_ ?_
   ·simp [qz8c, -Int.pred_toNat]
    all_goals exact zq1
   have hr := h.some
   subst hr
   refine AW.rt (rs := rs11) [(4, .ptr 1 1 0), (5, .int .i64 8)] [(0, .gone 1), (1, .box 1 (qza.cells (qza.mk false [] [])))] (by simp) (by simp) rfl rfl (by simp [rs11]) (by simp [rs11]; try rfl)
  ·replace h := h.neg e
   refine AW.skip ?_
   obtain ⟨r4, h4, h⟩ := h.ex
   refine AW.rS [(4, .ptr 1 1 0), (5, .int .i64 0)] [(0, .gone 1), (1, .box 1 (qza.cells r4))] ?_ ?_
   ·simp [qz9w, -Int.pred_toNat]
    (repeat' apply And.intro) <;> try first | omega | (simp at * <;> omega)
    refine (qzcp l0 flow1  _ h4).ca (by simp [-Int.pred_toNat]) ?_
    (try simp [-Int.pred_toNat])
    all_goals exact zq1
   have hr := h.some
   subst hr
   refine AW.rt (rs := rs11) [(4, .ptr 1 1 0), (5, .int .i64 0)] [(0, .gone 1), (1, .box 1 (qza.cells r4))] (by simp) (by simp) rfl rfl (by simp [rs11]) (by simp [rs11]; try rfl)
theorem kz0 (l0 : List qzb) (flow1 : qza)  (r : qze × Int) (h : wzy l0 flow1 = some r) : qzq EE Tryz.prog 12 [slcV 8 qzb.cells l0, .agg (qza.cells flow1)] (.tup [.agg (qze.cells r.1), .int .i64 r.2]) := by
 refine Pure.still ?_ hEE (by simp [-qzh, (fun l => qzj (st := 8) (c := qzb.cells) (l := l) qzb.noref), (fun l => qzj (st := 3) (c := qza.cells) (l := l) qza.noref), qza.cells, qze.cells] <;> assumption) (by simp [-qzh, (fun l => qzj (st := 8) (c := qzb.cells) (l := l) qzb.noref), (fun l => qzj (st := 3) (c := qza.cells) (l := l) qza.noref), qza.cells, qze.cells])
 obtain ⟨c, hb, hc⟩ := ck12
 replace h := Ok.of h; unfold wzy at h
 refine Pure.ofs (fn := Tryz.f12) (n := 54) rfl hb cr12 (hc 0) rfl rfl (by simp) ?_
 refine AW.rS [(0, slcV 8 qzb.cells l0), (3, .ptr 0 1 0), (4, .ptr 1 1 0)] [(0, .box 1 [.bool flow1.Neg, .str flow1.Num, .str flow1.Den]), (1, .box 1 [.nils, .bool false, .str [], .str []])] ?_ ?_
 ·simp [qz4v, -Int.pred_toNat]
  all_goals exact zq1
 refine .seq ?_
 obtain ⟨r1, h1, h⟩ := h.ex
 refine AW.rS [(0, slcV 8 qzb.cells l0), (3, .ptr 0 1 0), (4, .ptr 1 1 0), (6, .int .i64 r1)] [(0, .box 1 [.bool flow1.Neg, .str flow1.Num, .str flow1.Den]), (1, .box 1 [.nils, .bool false, .str [], .str []])] ?_ ?_
 ·simp [wzbe, -Int.pred_toNat]
  (repeat' apply And.intro) <;> try first | omega | (simp at * <;> omega)
  refine (qzec l0 flow1  _ h1).ca (by simp [-Int.pred_toNat]) ?_
  (try simp [-Int.pred_toNat])
  all_goals exact zq1
 refine AW.rS [(0, slcV 8 qzb.cells l0), (3, .ptr 0 1 0), (4, .ptr 1 1 0), (6, .int .i64 r1), (15, .bool (!decide (r1 = 0)))] [(0, .box 1 [.bool flow1.Neg, .str flow1.Num, .str flow1.Den]), (1, .box 1 [.nils, .bool false, .str [], .str []])] ?_ ?_
 ·simp [qz76, -Int.pred_toNat]
  all_goals exact zq1
 refine AW.ifF (!decide (r1 = 0)) rfl (by simp) (fun e => ?_) (fun e => ?_)
 ·replace h := h.pos e
  refine AW.rS [(4, .ptr 1 1 0), (5, .int .i64 r1)] [(0, .gone 1), (1, .box 1 [.nils, .bool false, .str [], .str []])] ?_ ?_
  ·simp [qz7n, -Int.pred_toNat]
   all_goals exact zq1
  have hr := h.some
  subst hr
  refine AW.rt (rs := rs12) [(4, .ptr 1 1 0), (5, .int .i64 r1)] [(0, .gone 1), (1, .box 1 (qze.cells (qze.mk [] (qza.mk false [] []))))] (by simp) (by simp) rfl rfl (by simp [rs12]) (by simp [rs12]; try rfl)
 ·replace h := h.neg e
  refine AW.skip ?_
  refine AW.rS [(3, .ptr 0 1 0), (4, .ptr 1 1 0), (7, slcV 8 qzb.cells l0)] [(0, .box 1 [.bool flow1.Neg, .str flow1.Num, .str flow1.Den]), (1, .box 1 [.nils, .bool false, .str [], .str []])] ?_ ?_
  ·simp [qz98, -Int.pred_toNat]
   all_goals exact zq1
  obtain ⟨r2, h2, h⟩ := h.ex
  obtain ⟨r3, h3, h⟩ := h.ex
  refine AW.rS [(3, .ptr 0 1 0), (4, .ptr 1 1 0), (7, slcV 8 qzb.cells l0), (8, .ptr 2 1 0), (9, .ptr 3 1 0)] [(0, .box 1 [.bool flow1.Neg, .str flow1.Num, .str flow1.Den]), (1, .box 1 [.nils, .bool false, .str [], .str []]), (2, .box 1 (qza.cells r2)), (3, .box 1 (qza.cells r3))] ?_ ?_
  ·simp [qz8z, -Int.pred_toNat]
   (repeat' apply And.intro) <;> try first | omega | (simp at * <;> omega)
   refine (qzhe l0  _ h2).ca (by simp [-Int.pred_toNat]) ?_
   (try simp [-Int.pred_toNat])
   (repeat' apply And.intro) <;> try first | omega | (simp at * <;> omega)
   refine (qzdd l0  _ h3).ca (by simp [-Int.pred_toNat]) ?_
   (try simp [-Int.pred_toNat])
   all_goals exact zq1
  refine .seq ?_
  refine .block ?_
  obtain ⟨r4, h4, h⟩ := h.ex
  refine AW.rS [(3, .ptr 0 1 0), (4, .ptr 1 1 0), (7, slcV 8 qzb.cells l0), (8, .ptr 2 1 0), (9, .ptr 3 1 0), (23, .bool (decide (r4 < 0)))] [(0, .box 1 [.bool flow1.Neg, .str flow1.Num, .str flow1.Den]), (1, .box 1 [.nils, .bool false, .str [], .str []]), (2, .box 1 (qza.cells r2)), (3, .box 1 (qza.cells r3))] ?_ ?_
  ·simp [qz59, -Int.pred_toNat]
   (repeat' apply And.intro) <;> try first | omega | (simp at * <;> omega)
   refine (jze flow1 r2  _ h4).ca (by simp [-Int.pred_toNat]) ?_
   (try simp [-Int.pred_toNat])
   all_goals exact zq1
  refine AW.ifF (decide (r4 < 0)) rfl (by simp) (fun e => ?_) (fun e => ?_)
  ·replace h := h.pos e
   obtain ⟨r5, h5, h⟩ := h.ex
   refine AW.rS [(4, .ptr 1 1 0), (7, slcV 8 qzb.cells l0), (10, .ptr 4 1 0)] [(0, .gone 1), (1, .box 1 [.nils, .bool false, .str [], .str []]), (2, .gone 1), (3, .gone 1), (4, .box 1 (qza.cells r5))] ?_ ?_
   ·simp [wza6, -Int.pred_toNat]
    (repeat' apply And.intro) <;> try first | omega | (simp at * <;> omega)
    refine (kza flow1 r2  _ h5).ca (by simp [-Int.pred_toNat]) ?_
    (try simp [-Int.pred_toNat])
    all_goals exact zq1
   refine AW.frz 4 [(4, .ptr 1 1 0), (7, slcV 8 qzb.cells l0), (10, .cptr (fun k => [.bool r5.Neg, .str r5.Num, .str r5.Den].getD k .top) 3 0)] [(0, .gone 1), (1, .box 1 [.nils, .bool false, .str [], .str []]), (2, .gone 1), (3, .gone 1), (4, .gone 2)] rfl rfl trivial (by simp) (by simp) rfl ?_
   obtain ⟨r6, h6, h⟩ := h.ex
   refine AW.rS [(4, .ptr 1 1 0), (5, .int .i64 0)] [(0, .gone 1), (1, .box 1 [slcV 3 qza.cells r6, .bool false, .str [], .str []]), (2, .gone 1), (3, .gone 1), (4, .gone 2)] ?_ ?_
   ·simp [qz6e, -Int.pred_toNat]
    (repeat' apply And.intro) <;> try first | omega | (simp at * <;> omega)
    refine (wzc l0 (fun a0 => vzj a0 r5) 40 0 [.cptr (fun k => [.bool r5.Neg, .str r5.Num, .str r5.Den].getD k .top) 3 0] (by simp [jzc]) (fun a0 r h => ⟨by kernel_rfl, (qzl6  a0 r5 r h).w (by simp [fnArgs])⟩) _ h6).ca (by simp [-Int.pred_toNat]) ?_
    (try simp [-Int.pred_toNat])
    all_goals exact zq1
   have hr := h.some
   subst hr
   refine AW.rt (rs := rs12) [(4, .ptr 1 1 0), (5, .int .i64 0)] [(0, .gone 1), (1, .box 1 (qze.cells (qze.mk r6 (qza.mk false [] [])))), (2, .gone 1), (3, .gone 1), (4, .gone 2)] (by simp) (by simp) rfl rfl (by simp [rs12]) (by simp [rs12]; try rfl)
  ·replace h := h.neg e
   obtain ⟨r7, h7, h⟩ := h.ex
   refine AW.rS [(3, .ptr 0 1 0), (4, .ptr 1 1 0), (7, slcV 8 qzb.cells l0), (9, .ptr 3 1 0), (35, .bool (decide (0 < r7)))] [(0, .box 1 [.bool flow1.Neg, .str flow1.Num, .str flow1.Den]), (1, .box 1 [.nils, .bool false, .str [], .str []]), (2, .gone 1), (3, .box 1 (qza.cells r3))] ?_ ?_
   ·simp [qz8o, -Int.pred_toNat]
    (repeat' apply And.intro) <;> try first | omega | (simp at * <;> omega)
    refine (jze flow1 r3  _ h7).ca (by simp [-Int.pred_toNat]) ?_
    (try simp [-Int.pred_toNat])
    all_goals exact zq1
   refine AW.ifF (decide (0 < r7)) rfl (by simp) (fun e => ?_) (fun e => ?_)
   ·replace h := h.pos e
    obtain ⟨r8, h8, h⟩ := h.ex
    obtain ⟨r9, h9, h⟩ := h.ex
    refine AW.dS [(4, .ptr 1 1 0), (5, .int .i64 0)] [(0, .gone 1), (1, .box 1 [slcV 3 qza.cells r8, .bool r9.Neg, .str r9.Num, .str r9.Den]), (2, .gone 1), (3, .gone 1)] ?_ ?_
    ·simp [qzz9, -Int.pred_toNat]
     (repeat' apply And.intro) <;> try first | omega | (simp at * <;> omega)
     refine (wzc l0 (fun a0 => yz0 a0) 41 0 [] (by simp [jzc]) (fun a0 r h => ⟨by kernel_rfl, (qzl4  a0  r h).w (by simp [fnArgs])⟩) _ h8).cd (by simp [-Int.pred_toNat]) ?_
     (try simp [-Int.pred_toNat])
     (repeat' apply And.intro) <;> try first | omega | (simp at * <;> omega)
     refine (qze9 flow1 r3  _ h9).cd (by simp [-Int.pred_toNat]) ?_
     (try simp [-Int.pred_toNat])
     all_goals exact zq2
    have hr := h.some
    subst hr
    refine AW.rt (rs := rs12) [(4, .ptr 1 1 0), (5, .int .i64 0)] [(0, .gone 1), (1, .box 1 (qze.cells (qze.mk r8 r9))), (2, .gone 1), (3, .gone 1)] (by simp) (by simp) rfl rfl (by simp [rs12]) (by simp [rs12]; try rfl)
   ·replace h := h.neg e
    refine AW.skip ?_
    obtain ⟨r10, h10, h⟩ := h.ex
    obtain ⟨r11, h11, h⟩ := h.ex
    refine AW.rS [(4, .ptr 1 1 0), (5, .int .i64 0)] [(0, .gone 1), (1, .box 1 [slcV 3 qza.cells r11, .bool false, .str [], .str []]), (2, .gone 1), (3, .gone 1)] ?_ ?_
    ·simp [qz0c, -Int.pred_toNat]
     (repeat' apply And.intro) <;> try first | omega | (simp at * <;> omega)
     refine (qzcp l0 flow1  _ h10).ca (by simp [-Int.pred_toNat]) ?_
     (try simp [-Int.pred_toNat])
     (repeat' apply And.intro) <;> try first | omega | (simp at * <;> omega)
     refine (wzc l0 (fun a0 => wza (qz6.mk r10) a0) 35 1 [.agg [.bool r10.Neg, .str r10.Num, .str r10.Den]] (by simp [jzc]) (fun a0 r h => ⟨by kernel_rfl, (qzam (qz6.mk r10) a0  r h).w (by simp [fnArgs])⟩) _ h11).ca (by simp [-Int.pred_toNat]) ?_
     (try simp [-Int.pred_toNat])
     all_goals exact zq1
    have hr := h.some
    subst hr
    refine AW.rt (rs := rs12) [(4, .ptr 1 1 0), (5, .int .i64 0)] [(0, .gone 1), (1, .box 1 (qze.cells (qze.mk r11 (qza.mk false [] [])))), (2, .gone 1), (3, .gone 1)] (by simp) (by simp) rfl rfl (by simp [rs12]) (by simp [rs12]; try rfl)
theorem qza2 (l0 : List qzb) (flow1 : qza) (d2 : qze)  (r : Bool) (h : wzx l0 flow1 d2 = some r) : qzq EE Tryz.prog 19 [slcV 8 qzb.cells l0, .agg (qza.cells flow1), .agg (qze.cells d2)] (.bool r) := by
 refine Pure.still ?_ hEE (by simp [-qzh, (fun l => qzj (st := 8) (c := qzb.cells) (l := l) qzb.noref), (fun l => qzj (st := 3) (c := qza.cells) (l := l) qza.noref), qza.cells, qze.cells] <;> assumption) (by simp [-qzh, (fun l => qzj (st := 8) (c := qzb.cells) (l := l) qzb.noref), (fun l => qzj (st := 3) (c := qza.cells) (l := l) qza.noref), qza.cells, qze.cells])
 obtain ⟨c, hb, hc⟩ := ck19
 replace h := Ok.of h; unfold wzx at h
 refine Pure.ofs (fn := Tryz.f19) (n := 31) rfl hb cr19 (hc 0) rfl rfl (by simp) ?_
 refine AW.rS [(0, slcV 8 qzb.cells l0), (4, .ptr 0 1 0), (5, .ptr 1 1 0)] [(0, .box 1 [.bool flow1.Neg, .str flow1.Num, .str flow1.Den]), (1, .box 1 [slcV 3 qza.cells d2.Parts, .bool d2.Rest.Neg, .str d2.Rest.Num, .str d2.Rest.Den])] ?_ ?_
 ·simp [qz5q, -Int.pred_toNat]
  all_goals exact zq1
 obtain ⟨r1, h1, h⟩ := h.ex
 refine AW.rS [(5, .ptr 1 1 0), (7, .ptr 2 1 0), (8, .int .i64 r1.2)] [(0, .gone 1), (1, .box 1 [slcV 3 qza.cells d2.Parts, .bool d2.Rest.Neg, .str d2.Rest.Num, .str d2.Rest.Den]), (2, .box 1 (qze.cells r1.1))] ?_ ?_
 ·simp [wza7, -Int.pred_toNat]
  (repeat' apply And.intro) <;> try first | omega | (simp at * <;> omega)
  refine (kz0 l0 flow1  _ h1).ca (by simp [-Int.pred_toNat]) ?_
  (try simp [-Int.pred_toNat])
  all_goals exact zq1
 obtain ⟨r2, h2, h⟩ := h.ex
 refine AW.rS [(6, .bool (bif (bif (decide (r1.2 = 0)) then ((d2.Rest.Neg == r1.1.Rest.Neg) && (decide (d2.Rest.Num = r1.1.Rest.Num) && (decide (d2.Rest.Den = r1.1.Rest.Den) && true))) else false) then r2 else false))] [(0, .gone 1), (1, .gone 1), (2, .gone 1)] ?_ ?_
 ·simp [qz4h, -Int.pred_toNat]
  (repeat' apply And.intro) <;> try first | omega | (simp at * <;> omega)
  refine jzo.pure _ (by simp [-Int.pred_toNat]) (fun e => (qzn8 d2.Parts r1.1.Parts  _ (gd_t (by first | (exfalso; simp at e; done) | simpa using e | simp_all) h2)).w (by first | (simp [-Int.pred_toNat]; done) | (exfalso; simp at e; done) | (simp_all; done))) ?_
  (try simp [-Int.pred_toNat])
  all_goals exact zq1
 have hr := h.some
 subst hr
 refine AW.rt (rs := rs19) [(6, .bool (bif (bif (decide (r1.2 = 0)) then ((d2.Rest.Neg == r1.1.Rest.Neg) && (decide (d2.Rest.Num = r1.1.Rest.Num) && (decide (d2.Rest.Den = r1.1.Rest.Den) && true))) else false) then r2 else false))] [(0, .gone 1), (1, .gone 1), (2, .gone 1)] (by simp) (by simp) rfl rfl (by simp [rs19]) (by simp [rs19]; try rfl)
end Go.Am

