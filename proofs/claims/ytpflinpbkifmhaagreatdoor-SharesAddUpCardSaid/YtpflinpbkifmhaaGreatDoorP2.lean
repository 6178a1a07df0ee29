/- Part P2 of the proof that the last part closes: contracts of the functions of this seat. No condition. -/
import Derived.Test.YtpflinpbkifmhaaGreatDoorF1
import Derived.Test.YtpflinpbkifmhaaGreatDoorG1
import Derived.Test.YtpflinpbkifmhaaGreatDoorX1
import Derived.Test.YtpflinpbkifmhaaGreatDoorA5
import Derived.Test.YtpflinpbkifmhaaGreatDoorH1
import Derived.Test.YtpflinpbkifmhaaGreatDoorP1
set_option linter.unusedVariables false
set_option linter.unusedSimpArgs false
set_option maxRecDepth 100000
namespace Go.Am
open Go.Proofs
attribute [local simp] areg aop dreg dop AOp.req argv argU AOp.args wze AOp.unAll Req.val Req.when putT putH qzdb ablk qzfc qzbd qzg6 vzl qzcj qzif qzid qzh7 qzh1 qzhy qzko qzhz qzji qzim qzgg qznh qzj2 qzkg qzjx IntKind.bits vz1 ARes.ok ARes.val vz5 cut AOp.quiet
attribute [local simp] qzc0 qzbz qzcz qze2 qzer qzep kzp qz1 qzh2 qzij
attribute [local simp] qzm6 qzj7 qzhq qzih qzm4 look qz8 zipA wm wh
attribute [local simp] qzm7 qzpn qzpz qzmg qzpx qzmf qzpo qzqa qzpi qzqk qzpm w_fn qznc qzjs qzjh qzhs qzj1 qzmh qzmi AObj.ep AObj.plain AObj.owned
attribute [local simp] wz9 qzbw qzeu qzdp qzey qzd2 qze5 qzfk qze7 qzdi qzdk qzd0 qzgy qzcq qzg5 qzc6 qzfa vz6 lay jzv ldv wzu qz5 kz1 qz9 qzgh wzd AVal.kind
attribute [local simp] AVal.one_int AVal.one_bool AVal.one_str AVal.one_nils AVal.one_slc AVal.one_vec AVal.one_ptr AVal.one_eptr AVal.one_cptr AVal.one_nilp AVal.one_fn AVal.one_nilfn AVal.one_mp AVal.one_nilmp
attribute [local simp] qzkh qzkv qzh8 qzh4 qzkt qzjr qzii qzik qzjn qzkm qzjf qzjw qzkl qzje qzh6 qzhx qzin qzig qzh5 qzio qzm9 qzna qzgf qzgr qzmt qzmr qzgn qzgz qzj6 qzj9 qzjv qzka qzju qzki qzkr qzku
attribute [local simp] qzh cI cB cS cL qzc3 qzdh qzdz qzb7 qzg1 qzh0 qzgc qziq fzm fzh fzv fzl fz1 qzjm qzhw qzjp qzjl qzjk List.range_succ qzd5 qze0 qzfg qzco qzdq qzdu qzag qzdw qzd4
attribute [local simp] qzj0
attribute [local simp] qza.cells
attribute [local simp] qzb.cells
attribute [local simp] qze.cells
attribute [local simp] kzi.cells
attribute [local simp] qz6.cells
attribute [local simp] qzf.cells
attribute [local simp] jzi.cells
attribute [local simp] vzs.cells
attribute [local simp] vzu.cells
attribute [local simp] kzj.cells
attribute [local simp] jzh.cells
attribute [local simp] jzk.cells
set_option maxHeartbeats 4000000
attribute [local simp] qzcs qzdm fnArgs
abbrev vz9 (x0 : List Int) (s : Int × (List Int)) (ex : Nat × Nat) : List (Nat × AVal) := match s, ex with | (t8, l1), (ep0, ep1) => [(3, ownV 1 ep1 l1), (6, slcV 1 (cI .u32) x0), (7, .int .i64 (List.length x0 : Int)), (8, .int .i64 t8)]
abbrev yza (x0 : List Int) (s : Int × (List Int)) (ex : Nat × Nat) : List (Nat × AObj) := match s, ex with | (t8, l1), (ep0, ep1) => [(0, .gone ep0), (1, ownO ep1 1 (cI .u8) l1)]
abbrev qzel (x0 : List Int) : (List Int) → Exit → ASt → Prop := fun o ex S' => match o with | l1 => ∃ ep0 : Nat, ∃ ep1 : Nat, ex = .exit 0 ∧ See EE S' ⟨tl [(3, ownV 1 ep1 l1)] 32, hl [(0, .gone ep0), (1, ownO ep1 1 (cI .u8) l1)], []⟩
theorem qzjd (x0 : List Int) (t8 : Int) (l1 : List Int) (ep0 : Nat) (ep1 : Nat) (QQ : (Int × (List Int)) ⊕ (List Int) → Prop) (h : Ok (vzb x0 (t8, l1)) QQ) : AW EE none Tryz.prog (wzcd 0) (fun ex S' => (∃ s' e', ex = .normal ∧ QQ (.inl s') ∧ See EE S' ⟨tl ((vz9 x0) s' e') 32, hl ((yza x0) s' e'), []⟩) ∨ (∃ o, QQ (.inr o) ∧ ex ≠ .normal ∧ (qzel x0) o ex S')) ⟨tl [(3, ownV 1 ep1 l1), (6, slcV 1 (cI .u32) x0), (7, .int .i64 (List.length x0 : Int)), (8, .int .i64 t8)] 32, hl [(0, .gone ep0), (1, ownO ep1 1 (cI .u8) l1)], []⟩ := by
 unfold vzb at h
 refine AW.rS [(3, ownV 1 ep1 l1), (6, slcV 1 (cI .u32) x0), (7, .int .i64 (List.length x0 : Int)), (8, .int .i64 t8), (9, .bool (decide (t8 < (List.length x0 : Int))))] [(0, .gone ep0), (1, ownO ep1 1 (cI .u8) l1)] ?_ ?_
 ·simp [wzb1, -Int.pred_toNat]
  all_goals exact zq1
 refine .seq ?_
 refine AW.ifF (decide (t8 < (List.length x0 : Int))) rfl (by simp) (fun e => ?_) (fun e => ?_)
 ·replace h := h.pos e
  refine AW.skip ?_
  refine .seq ?_
  refine .block ?_
  obtain ⟨x1, h1, h⟩ := h.at
  refine AW.rS [(3, ownV 1 ep1 l1), (5, .int .u32 x1), (6, slcV 1 (cI .u32) x0), (7, .int .i64 (List.length x0 : Int)), (8, .int .i64 t8)] [(0, .gone ep0), (1, ownO ep1 1 (cI .u8) l1)] ?_ ?_
  ·obtain ⟨f1a, f1b, f1c⟩ := h1
   have f1d : qzd (cI .u32) x0 (Int.toNat t8) = (cI .u32) x1 := qzo f1c
   have f1e : Int.toNat t8 < List.length x0 := by omega
   simp [wzb8, -Int.pred_toNat, f1a, f1b, f1d, f1e]
   (repeat' apply And.intro) <;> first | omega | (simp at * <;> omega) | (intro _; intros; simp_all; done) | exact .mk (by simp [-Int.pred_toNat, f1a, f1b, f1d, f1e]) (by simp [-Int.pred_toNat, f1a, f1b, f1d, f1e]) rfl
  obtain ⟨h2, h⟩ := h.ck
  refine AW.rE [(3, ownV 1 (ep1 + 1) (l1 ++ [(x1 % 256), ((Int.fdiv x1 256) % 256), ((Int.fdiv x1 65536) % 256), ((Int.fdiv x1 16777216) % 256)])), (6, slcV 1 (cI .u32) x0), (7, .int .i64 (List.length x0 : Int)), (8, .int .i64 t8)] [(0, .gone (ep0 + 1)), (1, ownO (ep1 + 1) 1 (cI .u8) (l1 ++ [(x1 % 256), ((Int.fdiv x1 256) % 256), ((Int.fdiv x1 65536) % 256), ((Int.fdiv x1 16777216) % 256)]))] ?_ (fun S' hs1 => ?_)
  ·have f2 := h2
   have f2m := f2
   (try simp [-Int.pred_toNat] at f2m)
   rcases hl : l1 with _ | ⟨y, l⟩
   ·(try simp [hl] at f2)
    simp [qzxa, -Int.pred_toNat, f2, f2m, hl]
    (repeat' apply And.intro) <;> first | omega | (simp at * <;> omega) | (intro _; intros; simp_all; done) | exact .mk (by simp [-Int.pred_toNat, f2, f2m, hl] <;> first | (intro k hk; rw [qzn _ k (by first | simpa using hk | omega)]; simp)) (by simp [-Int.pred_toNat, f2, f2m, hl] <;> first | (intro k hk; rw [qzn _ k (by first | simpa using hk | omega)]; simp)) rfl
   ·(try simp [hl] at f2)
    simp [qzxa, -Int.pred_toNat, f2, f2m, hl]
    (repeat' apply And.intro) <;> first | omega | skip
    refine .mk (by simp [-Int.pred_toNat, f2, f2m, hl]) ?_ rfl
    simp [-Int.pred_toNat, f2, f2m, hl]
    intro k hk
    split <;> rename_i hk2
    ·rw [yz1 hk2]; exact .refl _
    ·rw [yze hk2]
     have hj : k - (l.length + 1) < 4 := by omega
     revert hj; generalize k - (l.length + 1) = j; revert j; simp
  refine .see hs1 ?_
  obtain ⟨h4, h⟩ := h.ck
  refine AW.rE [(3, ownV 1 (ep1 + 1) (l1 ++ [(x1 % 256), ((Int.fdiv x1 256) % 256), ((Int.fdiv x1 65536) % 256), ((Int.fdiv x1 16777216) % 256)])), (6, slcV 1 (cI .u32) x0), (7, .int .i64 (List.length x0 : Int)), (8, .int .i64 (t8 + 1))] [(0, .gone (ep0 + 1)), (1, ownO (ep1 + 1) 1 (cI .u8) (l1 ++ [(x1 % 256), ((Int.fdiv x1 256) % 256), ((Int.fdiv x1 65536) % 256), ((Int.fdiv x1 16777216) % 256)]))] ?_ (fun S' hs2 => ?_)
  ·have f3 := qzr h4
   simp [qz47, -Int.pred_toNat, f3]
   (repeat' apply And.intro) <;> first | omega | (simp at * <;> omega) | (intro _; intros; simp_all; done) | exact .mk (by simp [-Int.pred_toNat, f3]) (by simp [-Int.pred_toNat, f3]) rfl
  exact .inl ⟨((t8 + 1), (l1 ++ [(x1 % 256), ((Int.fdiv x1 256) % 256), ((Int.fdiv x1 65536) % 256), ((Int.fdiv x1 16777216) % 256)])), ((ep0 + 1), (ep1 + 1)), rfl, h.some, (hs2.trans (.wk (by simp [vz9]) (by simp [yza]) rfl))⟩
 ·replace h := h.neg e
  refine .exit ?_
  exact .inr ⟨l1, h.some, by simp, ⟨ep0, ep1, rfl, (.wk (by simp) (by simp) rfl)⟩⟩
theorem wz6 (x0 : List Int)  (r : List UInt8) (h : qz7 x0 = some r) : qzq EE Tryz.prog 95 [slcV 1 (cI .u32) x0] (.str r) := by
 refine Pure.still ?_ hEE (by simp [-qzh, (fun l => qzj (st := 1) (c := (cI .u32)) (l := l) (fun a => qz1 (n := a)))] <;> assumption) (by simp [-qzh, (fun l => qzj (st := 1) (c := (cI .u32)) (l := l) (fun a => qz1 (n := a)))])
 obtain ⟨c, hb, hc⟩ := ck95
 replace h := Ok.of h; unfold qz7 at h
 refine Pure.ofs (fn := Tryz.f95) (n := 32) rfl hb cr95 (hc 0) rfl rfl (by simp) ?_
 refine AW.rS [(0, slcV 1 (cI .u32) x0)] [] ?_ ?_
 ·simp [qz50, -Int.pred_toNat]
  all_goals exact zq1
 refine AW.rS [(0, slcV 1 (cI .u32) x0), (3, .nils)] [] ?_ ?_
 ·simp [wzad, -Int.pred_toNat]
  all_goals exact zq1
 refine .seq ?_
 refine AW.rS [(3, .nils), (6, slcV 1 (cI .u32) x0), (7, .int .i64 (List.length x0 : Int)), (8, .int .i64 0)] [] ?_ ?_
 ·simp [wza9, -Int.pred_toNat]
  all_goals exact zq1
 refine .block ?_
 refine AW.lpF (ε := Nat × Nat) (0, 0) h.bd (vz9 x0) (yza x0) (qzel x0) (by simp [vz9]) (by simp [yza]) rfl ?_ ?_
 ·rintro ⟨t8, l1⟩ ⟨ep0, ep1⟩ QQ h
  exact qzjd x0 t8 l1 ep0 ep1 QQ h
 ·rintro l1 h ex S' hs
  obtain ⟨ep0, ep1, rfl, hs⟩ := hs
  refine .see hs ?_
  obtain ⟨r1, h5, h⟩ := h.ex
  refine AW.rS [(3, ownV 1 ep1 r1)] [(0, .gone ep0), (1, ownO ep1 1 (cI .u8) r1)] ?_ ?_
  ·simp [qz92, -Int.pred_toNat]
   (repeat' apply And.intro) <;> try first | omega | (simp at * <;> omega)
   refine ATr.mono (qzk8 1 ep1 l1 _ h5 _ ?_) ?_
   ·simp [hl, qz8]
   rintro v h' ⟨rfl, rfl, hov⟩
   simp [-Int.pred_toNat, hov]
   all_goals exact zq1
  refine AW.frzO 1 ep1 1 (cI .u8) r1 [(3, slcV 1 (cI .u8) r1)] [(0, .gone ep0), (1, .gone (ep1 + 1))] rfl (fun e => ⟨by simp [e], by simp [e], rfl⟩) (fun y k e o ho => ⟨by simp [e, ho], by simp [e, ho], rfl⟩) ?_
  obtain ⟨r2, h6, h⟩ := h.ex
  refine AW.rS [(2, .str r2)] [(0, .gone ep0), (1, .gone (ep1 + 1))] ?_ ?_
  ·simp [qz65, -Int.pred_toNat]
   (repeat' apply And.intro) <;> try first | omega | (simp at * <;> omega)
   refine (qzqv (vzg r1)  _ h6).ca (by simp [-Int.pred_toNat] <;> first | (intro k hk; rw [qzn _ k (by first | simpa using hk | omega)]; simp)) ?_
   (try simp [-Int.pred_toNat])
   (repeat' apply And.intro) <;> first | omega | (simp at * <;> omega) | (intro _; intros; simp_all; done) | exact .mk (by simp [-Int.pred_toNat] <;> first | (intro k hk; rw [qzn _ k (by first | simpa using hk | omega)]; simp)) (by simp [-Int.pred_toNat] <;> first | (intro k hk; rw [qzn _ k (by first | simpa using hk | omega)]; simp)) rfl
  have hr := h.some
  subst hr
  refine AW.rt (rs := rs95) [(2, .str r2)] [(0, .gone ep0), (1, .gone (ep1 + 1))] (by simp) (by simp) rfl rfl (by simp [rs95]) (by simp [rs95]; try rfl)
theorem qzvn : kzz Tryz.prog 92 = true := by kernel_rfl
theorem wzd4 : ∀ (n : Nat) (x y r : List Int), lpN wzp n (x, y) = some r → ∀ h : qzl, h 0 = .box 1 [.fn 92 0 [.ptr 0 1 0]] →
  ATr EE Tryz.prog 92 [slcV 1 (cI .u32) x, slcV 1 (cI .u32) y, .ptr 0 1 0] h (fun v h' => v = slcV 1 (cI .u32) r ∧ h' = h) := by
 intro n
 induction n with
 | zero => intro x y r hr; cases hr
 | succ n ih =>
  intro x y r hr h h0
  rw [lpN] at hr
  obtain ⟨c, hbd, hc⟩ := ck92
  refine ATr.of (fn := Tryz.f92) rfl hbd cr92 (hc 0) 19 rfl ?_
  refine .seq (.reg ?_)
  simp [qz36]
  refine .seq (.seq (.reg ?_))
  simp [qz9c]
  refine .cond (t := decide ((List.length y : Int) = 0)) (by simp) (fun e => ?_) (fun e => ?_)
  ·have e' : (wzp (x, y)) = some (.inr x) := by simp only [wzp, e, ite']
   rw [e'] at hr
   cases hr
   refine .seq (.reg ?_)
   simp [qz7i]
   refine .ret ?_
   simp only [qzdb, ablk]
   refine .here ?_ rfl ⟨?_, ?_⟩
   ·simp [rs92]
   ·simp [rs92]
   ·simp
  ·have e' : (wzp (x, y)) = bd (kzf x y) fun r => some (.inl (y, r.2)) := by simp only [wzp, e, ite']
   rw [e'] at hr
   cases hby : kzf x y with
   | none => rw [hby] at hr; cases hr
   | some q =>
   rw [hby] at hr
   have hr : lpN wzp n (y, q.2) = some r := hr
   refine .skip ?_
   refine .seq (.reg ?_)
   simp [wzax]
   refine (qzhc x y q hby).ca (by simp) ?_
   simp
   refine .seq (.reg ?_)
   simp [qz6x, h0]
   refine ⟨qzvn, ?_⟩
   try simp [fnArgs]
   refine ((ih y q.2 r hr h h0).w (by simp)).mono ?_
   rintro v h' ⟨rfl, rfl⟩
   refine .ret ?_
   try simp only [qzdb, ablk]
   refine .here ?_ rfl ⟨?_, ?_⟩
   ·simp [rs92]
   ·simp [rs92]
   ·simp
theorem qzm1 (a0 : List UInt8) (b1 : List UInt8)  (r : List UInt8) (h : qzeo a0 b1 = some r) : qzq EE Tryz.prog 60 [.str a0, .str b1] (.str r) := by
 refine Pure.still ?_ hEE (by simp) (by simp)
 obtain ⟨c, hb, hc⟩ := ck60
 replace h := Ok.of h; unfold qzeo at h
 obtain ⟨x, hx, h⟩ := h.ex
 obtain ⟨y, hy, h⟩ := h.ex
 obtain ⟨q, hq, h⟩ := h.ex
 have ht : qz7 q = some r := by
  cases hx : qz7 q with
  | none => rw [hx] at h; exact h.no
  | some v => rw [hx] at h; exact congrArg some h.some
 rw [qztg] at hq
 refine Pure.ofs (fn := Tryz.f60) (n := 14) rfl hb cr60 (hc 0) rfl rfl (by simp) ?_
 refine AW.rS [(0, .str a0), (1, .str b1)] [] ?_ ?_
 ·simp [qz6d]
  exact .mk (by simp) (by simp) rfl
 refine AW.rS [(0, .str a0), (1, .str b1), (5, .ptr 0 1 0)] [(0, .box 1 [.nilfn])] ?_ ?_
 ·simp [qz83]
  exact .mk (by simp) (by simp) rfl
 refine AW.rS [(0, .str a0), (1, .str b1), (5, .ptr 0 1 0)] [(0, .box 1 [.fn 92 0 [.ptr 0 1 0]])] ?_ ?_
 ·simp [wzao]
  exact .mk (by simp) (by simp) rfl
 refine AW.dS [(4, .str r)] [(0, .gone 1)] ?_ ?_
 ·simp [qz5o]
  refine (wzo a0 x hx).cd (by simp) ?_
  (try simp)
  refine (wzo b1 y hy).cd (by simp) ?_
  (try simp)
  refine ⟨qzvn, ?_⟩
  try simp
  refine ⟨slcV 1 (cI .u32) q, [0], fun h' e => ((wzd4 _ x y q hq h' ?_).w (by simp)).mono ?_, ?_⟩
  ·rw [e 0 (by simp)]; simp [hl, qz8]
  ·rintro v h' ⟨rfl, rfl⟩; exact ⟨rfl, rfl⟩
  simp
  refine (wz6 q r ht).cd (by simp) ?_
  (try simp)
  (repeat' apply And.intro) <;> first | kernel_rfl | exact .mk (by simp) (by simp) rfl
 exact AW.rt (rs := rs60) [(4, .str r)] [(0, .gone 1)] (by simp) (by simp) rfl rfl (by simp [rs60]) (by simp [rs60])
theorem qziz (a0 : List UInt8) (b1 : List UInt8)  (r : (List UInt8) × (List UInt8) × Int) (h : qza9 a0 b1 = some r) : qzq EE Tryz.prog 96 [.str a0, .str b1] (.tup [.str r.1, .str r.2.1, .int .i64 r.2.2]) := by
 refine Pure.still ?_ hEE (by simp <;> assumption) (by simp)
 obtain ⟨c, hb, hc⟩ := ck96
 replace h := Ok.of h; unfold qza9 at h
 refine Pure.ofs (fn := Tryz.f96) (n := 28) rfl hb cr96 (hc 0) rfl rfl (by simp) ?_
 refine AW.rS [(0, .str a0), (1, .str b1)] [] ?_ ?_
 ·simp [qz51, -Int.pred_toNat]
  all_goals exact zq1
 obtain ⟨r1, h1, h⟩ := h.ex
 obtain ⟨r2, h2, h⟩ := h.ex
 refine AW.rS [(7, slcV 1 (cI .u32) r1), (8, slcV 1 (cI .u32) r2)] [] ?_ ?_
 ·simp [qz85, -Int.pred_toNat]
  (repeat' apply And.intro) <;> try first | omega | (simp at * <;> omega)
  refine (wzo a0  _ h1).ca (by simp [-Int.pred_toNat]) ?_
  (try simp [-Int.pred_toNat])
  (repeat' apply And.intro) <;> try first | omega | (simp at * <;> omega)
  refine (wzo b1  _ h2).ca (by simp [-Int.pred_toNat]) ?_
  (try simp [-Int.pred_toNat])
  all_goals exact zq1
 refine .seq ?_
 refine AW.rS [(7, slcV 1 (cI .u32) r1), (8, slcV 1 (cI .u32) r2), (17, .bool (decide ((List.length r2 : Int) = 0)))] [] ?_ ?_
 ·simp [qz79, -Int.pred_toNat]
  all_goals exact zq1
 refine AW.ifF (decide ((List.length r2 : Int) = 0)) rfl (by simp) (fun e => ?_) (fun e => ?_)
 ·replace h := h.pos e
  refine AW.rS [(4, .str []), (5, .str []), (6, .int .i64 1)] [] ?_ ?_
  ·simp [qz4f, -Int.pred_toNat]
   all_goals exact zq1
  have hr := h.some
  subst hr
  refine AW.rt (rs := rs96) [(4, .str []), (5, .str []), (6, .int .i64 1)] [] (by simp) (by simp) rfl rfl (by simp [rs96]) (by simp [rs96]; try rfl)
 ·replace h := h.neg e
  refine AW.skip ?_
  obtain ⟨r3, h3, h⟩ := h.ex
  refine AW.rS [(9, slcV 1 (cI .u32) r3.1), (10, slcV 1 (cI .u32) r3.2)] [] ?_ ?_
  ·simp [qz82, -Int.pred_toNat]
   (repeat' apply And.intro) <;> try first | omega | (simp at * <;> omega)
   refine (qzhc r1 r2  _ h3).ca (by simp [-Int.pred_toNat]) ?_
   (try simp [-Int.pred_toNat])
   all_goals exact zq1
  obtain ⟨r4, h4, h⟩ := h.ex
  obtain ⟨r5, h5, h⟩ := h.ex
  refine AW.rS [(4, .str r4), (5, .str r5), (6, .int .i64 0)] [] ?_ ?_
  ·simp [qz72, -Int.pred_toNat]
   (repeat' apply And.intro) <;> try first | omega | (simp at * <;> omega)
   refine (wz6 r3.1  _ h4).ca (by simp [-Int.pred_toNat]) ?_
   (try simp [-Int.pred_toNat])
   (repeat' apply And.intro) <;> try first | omega | (simp at * <;> omega)
   refine (wz6 r3.2  _ h5).ca (by simp [-Int.pred_toNat]) ?_
   (try simp [-Int.pred_toNat])
   all_goals exact zq1
  have hr := h.some
  subst hr
  refine AW.rt (rs := rs96) [(4, .str r4), (5, .str r5), (6, .int .i64 0)] [] (by simp) (by simp) rfl rfl (by simp [rs96]) (by simp [rs96]; try rfl)
theorem qzcv (a0 : List UInt8) (b1 : List UInt8)  (r : List UInt8) (h : qzau a0 b1 = some r) : qzq EE Tryz.prog 97 [.str a0, .str b1] (.str r) := by
 refine Pure.still ?_ hEE (by simp <;> assumption) (by simp)
 obtain ⟨c, hb, hc⟩ := ck97
 replace h := Ok.of h; unfold qzau at h
 refine Pure.ofs (fn := Tryz.f97) (n := 11) rfl hb cr97 (hc 0) rfl rfl (by simp) ?_
 refine AW.rS [(0, .str a0), (1, .str b1)] [] ?_ ?_
 ·simp [wzar, -Int.pred_toNat]
  all_goals exact zq1
 obtain ⟨r1, h1, h⟩ := h.ex
 obtain ⟨r2, h2, h⟩ := h.ex
 obtain ⟨r3, h3, h⟩ := h.ex
 obtain ⟨r4, h4, h⟩ := h.ex
 refine AW.rS [(4, .str r4)] [] ?_ ?_
 ·simp [qz5x, -Int.pred_toNat]
  (repeat' apply And.intro) <;> try first | omega | (simp at * <;> omega)
  refine (wzo a0  _ h1).ca (by simp [-Int.pred_toNat]) ?_
  (try simp [-Int.pred_toNat])
  (repeat' apply And.intro) <;> try first | omega | (simp at * <;> omega)
  refine (wzo b1  _ h2).ca (by simp [-Int.pred_toNat]) ?_
  (try simp [-Int.pred_toNat])
  (repeat' apply And.intro) <;> try first | omega | (simp at * <;> omega)
  refine (qzbl r1 r2  _ h3).ca (by simp [-Int.pred_toNat]) ?_
  (try simp [-Int.pred_toNat])
  (repeat' apply And.intro) <;> try first | omega | (simp at * <;> omega)
  refine (wz6 r3  _ h4).ca (by simp [-Int.pred_toNat]) ?_
  (try simp [-Int.pred_toNat])
  all_goals exact zq1
 have hr := h.some
 subst hr
 refine AW.rt (rs := rs97) [(4, .str r4)] [] (by simp) (by simp) rfl rfl (by simp [rs97]) (by simp [rs97]; try rfl)
theorem qzt7 (a0 : List UInt8) (b1 : List UInt8)  (r : List UInt8) (h : qzg3 a0 b1 = some r) : qzq EE Tryz.prog 98 [.str a0, .str b1] (.str r) := by
 refine Pure.still ?_ hEE (by simp <;> assumption) (by simp)
 obtain ⟨c, hb, hc⟩ := ck98
 replace h := Ok.of h; unfold qzg3 at h
 refine Pure.ofs (fn := Tryz.f98) (n := 11) rfl hb cr98 (hc 0) rfl rfl (by simp) ?_
 refine AW.rS [(0, .str a0), (1, .str b1)] [] ?_ ?_
 ·simp [wzaw, -Int.pred_toNat]
  all_goals exact zq1
 obtain ⟨r1, h1, h⟩ := h.ex
 obtain ⟨r2, h2, h⟩ := h.ex
 obtain ⟨r3, h3, h⟩ := h.ex
 obtain ⟨r4, h4, h⟩ := h.ex
 refine AW.rS [(4, .str r4)] [] ?_ ?_
 ·simp [wza3, -Int.pred_toNat]
  (repeat' apply And.intro) <;> try first | omega | (simp at * <;> omega)
  refine (wzo a0  _ h1).ca (by simp [-Int.pred_toNat]) ?_
  (try simp [-Int.pred_toNat])
  (repeat' apply And.intro) <;> try first | omega | (simp at * <;> omega)
  refine (wzo b1  _ h2).ca (by simp [-Int.pred_toNat]) ?_
  (try simp [-Int.pred_toNat])
  (repeat' apply And.intro) <;> try first | omega | (simp at * <;> omega)
  refine (qzl3 r1 r2  _ h3).ca (by simp [-Int.pred_toNat]) ?_
  (try simp [-Int.pred_toNat])
  (repeat' apply And.intro) <;> try first | omega | (simp at * <;> omega)
  refine (wz6 r3  _ h4).ca (by simp [-Int.pred_toNat]) ?_
  (try simp [-Int.pred_toNat])
  all_goals exact zq1
 have hr := h.some
 subst hr
 refine AW.rt (rs := rs98) [(4, .str r4)] [] (by simp) (by simp) rfl rfl (by simp [rs98]) (by simp [rs98]; try rfl)
theorem qzs1 (a0 : List UInt8) (b1 : List UInt8)  (r : Int) (h : qzgu a0 b1 = some r) : qzq EE Tryz.prog 99 [.str a0, .str b1] (.int .i64 r) := by
 refine Pure.still ?_ hEE (by simp <;> assumption) (by simp)
 obtain ⟨c, hb, hc⟩ := ck99
 replace h := Ok.of h; unfold qzgu at h
 refine Pure.ofs (fn := Tryz.f99) (n := 10) rfl hb cr99 (hc 0) rfl rfl (by simp) ?_
 refine AW.rS [(0, .str a0), (1, .str b1)] [] ?_ ?_
 ·simp [qz7r, -Int.pred_toNat]
  all_goals exact zq1
 obtain ⟨r1, h1, h⟩ := h.ex
 obtain ⟨r2, h2, h⟩ := h.ex
 obtain ⟨r3, h3, h⟩ := h.ex
 refine AW.rS [(4, .int .i64 r3)] [] ?_ ?_
 ·simp [qz58, -Int.pred_toNat]
  (repeat' apply And.intro) <;> try first | omega | (simp at * <;> omega)
  refine (wzo a0  _ h1).ca (by simp [-Int.pred_toNat]) ?_
  (try simp [-Int.pred_toNat])
  (repeat' apply And.intro) <;> try first | omega | (simp at * <;> omega)
  refine (wzo b1  _ h2).ca (by simp [-Int.pred_toNat]) ?_
  (try simp [-Int.pred_toNat])
  (repeat' apply And.intro) <;> try first | omega | (simp at * <;> omega)
  refine (vzq r1 r2  _ h3).ca (by simp [-Int.pred_toNat]) ?_
  (try simp [-Int.pred_toNat])
  all_goals exact zq1
 have hr := h.some
 subst hr
 refine AW.rt (rs := rs99) [(4, .int .i64 r3)] [] (by simp) (by simp) rfl rfl (by simp [rs99]) (by simp [rs99]; try rfl)
theorem qzst (a0 : List UInt8) (b1 : List UInt8)  (r : (List UInt8) × Int) (h : qzgk a0 b1 = some r) : qzq EE Tryz.prog 100 [.str a0, .str b1] (.tup [.str r.1, .int .i64 r.2]) := by
 refine Pure.still ?_ hEE (by simp <;> assumption) (by simp)
 obtain ⟨c, hb, hc⟩ := wzgp
 replace h := Ok.of h; unfold qzgk at h
 refine Pure.ofs (fn := Tryz.f100) (n := 20) rfl hb wzgk (hc 0) rfl rfl (by simp) ?_
 refine AW.rS [(0, .str a0), (1, .str b1)] [] ?_ ?_
 ·simp [qz20, -Int.pred_toNat]
  all_goals exact zq1
 obtain ⟨r1, h1, h⟩ := h.ex
 obtain ⟨r2, h2, h⟩ := h.ex
 refine AW.rS [(6, slcV 1 (cI .u32) r1), (7, slcV 1 (cI .u32) r2)] [] ?_ ?_
 ·simp [qzyi, -Int.pred_toNat]
  (repeat' apply And.intro) <;> try first | omega | (simp at * <;> omega)
  refine (wzo a0  _ h1).ca (by simp [-Int.pred_toNat]) ?_
  (try simp [-Int.pred_toNat])
  (repeat' apply And.intro) <;> try first | omega | (simp at * <;> omega)
  refine (wzo b1  _ h2).ca (by simp [-Int.pred_toNat]) ?_
  (try simp [-Int.pred_toNat])
  all_goals exact zq1
 refine .seq ?_
 obtain ⟨r3, h3, h⟩ := h.ex
 refine AW.rS [(6, slcV 1 (cI .u32) r1), (7, slcV 1 (cI .u32) r2), (15, .bool (decide (r3 < 0)))] [] ?_ ?_
 ·simp [qzxv, -Int.pred_toNat]
  (repeat' apply And.intro) <;> try first | omega | (simp at * <;> omega)
  refine (vzq r1 r2  _ h3).ca (by simp [-Int.pred_toNat]) ?_
  (try simp [-Int.pred_toNat])
  all_goals exact zq1
 refine AW.ifF (decide (r3 < 0)) rfl (by simp) (fun e => ?_) (fun e => ?_)
 ·replace h := h.pos e
  refine AW.rS [(4, .str []), (5, .int .i64 3)] [] ?_ ?_
  ·simp [qzzp, -Int.pred_toNat]
   all_goals exact zq1
  have hr := h.some
  subst hr
  refine AW.rt (rs := qzln) [(4, .str []), (5, .int .i64 3)] [] (by simp) (by simp) rfl rfl (by simp [qzln]) (by simp [qzln]; try rfl)
 ·replace h := h.neg e
  refine AW.skip ?_
  obtain ⟨r4, h4, h⟩ := h.ex
  obtain ⟨r5, h5, h⟩ := h.ex
  refine AW.rS [(4, .str r5), (5, .int .i64 0)] [] ?_ ?_
  ·simp [qzzo, -Int.pred_toNat]
   (repeat' apply And.intro) <;> try first | omega | (simp at * <;> omega)
   refine (qzbu r1 r2  _ h4).ca (by simp [-Int.pred_toNat]) ?_
   (try simp [-Int.pred_toNat])
   (repeat' apply And.intro) <;> try first | omega | (simp at * <;> omega)
   refine (wz6 r4  _ h5).ca (by simp [-Int.pred_toNat]) ?_
   (try simp [-Int.pred_toNat])
   all_goals exact zq1
  have hr := h.some
  subst hr
  refine AW.rt (rs := qzln) [(4, .str r5), (5, .int .i64 0)] [] (by simp) (by simp) rfl rfl (by simp [qzln]) (by simp [qzln]; try rfl)
theorem qztp (n0 : Int)  (r : (List UInt8) × Int) (h : qzgv n0 = some r) : qzq EE Tryz.prog 101 [.int .i64 n0] (.tup [.str r.1, .int .i64 r.2]) := by
 refine Pure.still ?_ hEE (by simp <;> assumption) (by simp)
 obtain ⟨c, hb, hc⟩ := wzfs
 replace h := Ok.of h; unfold qzgv at h
 refine Pure.ofs (fn := Tryz.f101) (n := 14) rfl hb wzg0 (hc 0) rfl rfl (by simp) ?_
 refine AW.rS [(0, .int .i64 n0)] [] ?_ ?_
 ·simp [qz1n, -Int.pred_toNat]
  all_goals exact zq1
 refine .seq ?_
 refine AW.rS [(0, .int .i64 n0), (5, .bool (decide (n0 < 0)))] [] ?_ ?_
 ·simp [qzyr, -Int.pred_toNat]
  all_goals exact zq1
 refine AW.ifF (decide (n0 < 0)) rfl (by simp) (fun e => ?_) (fun e => ?_)
 ·replace h := h.pos e
  refine AW.rS [(2, .str []), (3, .int .i64 3)] [] ?_ ?_
  ·simp [qzyq, -Int.pred_toNat]
   all_goals exact zq1
  have hr := h.some
  subst hr
  refine AW.rt (rs := qzll) [(2, .str []), (3, .int .i64 3)] [] (by simp) (by simp) rfl rfl (by simp [qzll]) (by simp [qzll]; try rfl)
 ·replace h := h.neg e
  refine AW.skip ?_
  obtain ⟨r1, h1, h⟩ := h.ex
  obtain ⟨r2, h2, h⟩ := h.ex
  refine AW.rG [(2, .str r2), (3, .int .i64 0)] [(0, .gone 2)] ?_ ?_
  ·refine SReg.cut 6 [(11, .vec 0 1 0 (List.length [(n0 % 4294967296), ((Int.fdiv n0 4294967296) % 4294967296)]))] [(0, .vec 1 1 (List.length [(n0 % 4294967296), ((Int.fdiv n0 4294967296) % 4294967296)]) (qzd (cI .u32) [(n0 % 4294967296), ((Int.fdiv n0 4294967296) % 4294967296)]))] ?_ ?_
   ·simp [qzsr, -Int.pred_toNat]
    (repeat' apply And.intro) <;> first | omega | (simp at * <;> omega) | (intro _; intros; simp_all; done) | exact .mk (by simp [-Int.pred_toNat] <;> first | (intro k hk; rw [qzn _ k (by first | simpa using hk | omega)]; simp)) (by simp [-Int.pred_toNat] <;> first | (intro k hk; rw [qzn _ k (by first | simpa using hk | omega)]; simp)) rfl
   refine SReg.frz 0 [(11, slcV 1 (cI .u32) [(n0 % 4294967296), ((Int.fdiv n0 4294967296) % 4294967296)])] [(0, .gone 2)] rfl rfl trivial (by simp) (by simp) rfl ?_
   refine SReg.fin ?_
   simp [qzsr, -Int.pred_toNat]
   (repeat' apply And.intro) <;> try first | omega | (simp at * <;> omega)
   refine (qz4 [(n0 % 4294967296), ((Int.fdiv n0 4294967296) % 4294967296)]  _ h1).ca (by simp [-Int.pred_toNat] <;> first | (intro k hk; rw [qzn _ k (by first | simpa using hk | omega)]; simp)) ?_
   (try simp [-Int.pred_toNat])
   (repeat' apply And.intro) <;> try first | omega | (simp at * <;> omega)
   refine (wz6 r1  _ h2).ca (by simp [-Int.pred_toNat] <;> first | (intro k hk; rw [qzn _ k (by first | simpa using hk | omega)]; simp)) ?_
   (try simp [-Int.pred_toNat])
   (repeat' apply And.intro) <;> first | omega | (simp at * <;> omega) | (intro _; intros; simp_all; done) | exact .mk (by simp [-Int.pred_toNat] <;> first | (intro k hk; rw [qzn _ k (by first | simpa using hk | omega)]; simp)) (by simp [-Int.pred_toNat] <;> first | (intro k hk; rw [qzn _ k (by first | simpa using hk | omega)]; simp)) rfl
  have hr := h.some
  subst hr
  refine AW.rt (rs := qzll) [(2, .str r2), (3, .int .i64 0)] [(0, .gone 2)] (by simp) (by simp) rfl rfl (by simp [qzll]) (by simp [qzll]; try rfl)
theorem qzc8 (a0 : qza)  (r : Bool) (h : yzs a0 = some r) : qzq EE Tryz.prog 21 [.agg (qza.cells a0)] (.bool r) := by
 refine Pure.still ?_ hEE (by simp [-qzh, qza.cells] <;> assumption) (by simp [-qzh, qza.cells])
 obtain ⟨c, hb, hc⟩ := ck21
 replace h := Ok.of h; unfold yzs at h
 refine Pure.ofs (fn := Tryz.f21) (n := 32) rfl hb cr21 (hc 0) rfl rfl (by simp) ?_
 refine AW.rS [(1, .ptr 0 1 0)] [(0, .box 1 [.bool a0.Neg, .str a0.Num, .str a0.Den])] ?_ ?_
 ·simp [qz7u, -Int.pred_toNat]
  all_goals exact zq1
 refine .seq ?_
 refine AW.rS [(1, .ptr 0 1 0), (5, .bool ((a0.Neg == false) && (decide (a0.Num = []) && (decide (a0.Den = []) && true))))] [(0, .box 1 [.bool a0.Neg, .str a0.Num, .str a0.Den])] ?_ ?_
 ·simp [wzb4, -Int.pred_toNat]
  all_goals exact zq1
 refine AW.ifF ((a0.Neg == false) && (decide (a0.Num = []) && (decide (a0.Den = []) && true))) rfl (by simp) (fun e => ?_) (fun e => ?_)
 ·replace h := h.pos e
  refine AW.rS [(2, .bool true)] [(0, .gone 1)] ?_ ?_
  ·simp [qz8i, -Int.pred_toNat]
   all_goals exact zq1
  have hr := h.some
  subst hr
  refine AW.rt (rs := rs21) [(2, .bool true)] [(0, .gone 1)] (by simp) (by simp) rfl rfl (by simp [rs21]) (by simp [rs21]; try rfl)
 ·replace h := h.neg e
  refine AW.skip ?_
  obtain ⟨r1, h1, h⟩ := h.ex
  obtain ⟨r2, h2, h⟩ := h.ex
  obtain ⟨r3, h3, h⟩ := h.ex
  refine AW.rS [(2, .bool (bif (bif (bif (bif (!decide (a0.Num = [])) then (!decide (a0.Den = [])) else false) then r1 else false) then r2 else false) then (decide (r3 = [1])) else false))] [(0, .gone 1)] ?_ ?_
  ·simp [qz78, -Int.pred_toNat]
   (repeat' apply And.intro) <;> try first | omega | (simp at * <;> omega)
   refine jzo.pure _ (by simp [-Int.pred_toNat]) (fun e => (qzj3 a0.Num  _ (gd_t (by first | (exfalso; simp at e; done) | simpa using e | simp_all) h1)).w (by first | (simp [-Int.pred_toNat]; done) | (exfalso; simp at e; done) | (simp_all; done))) ?_
   (try simp [-Int.pred_toNat])
   (repeat' apply And.intro) <;> try first | omega | (simp at * <;> omega)
   refine jzo.pure _ (by simp [-Int.pred_toNat]) (fun e => (qzj3 a0.Den  _ (gd_t (by first | (exfalso; simp at e; done) | simpa using e | simp_all) h2)).w (by first | (simp [-Int.pred_toNat]; done) | (exfalso; simp at e; done) | (simp_all; done))) ?_
   (try simp [-Int.pred_toNat])
   (repeat' apply And.intro) <;> try first | omega | (simp at * <;> omega)
   refine jzo.pure _ (by simp [-Int.pred_toNat]) (fun e => (qzm1 a0.Num a0.Den  _ (gd_t (by first | (exfalso; simp at e; done) | simpa using e | simp_all) h3)).w (by first | (simp [-Int.pred_toNat]; done) | (exfalso; simp at e; done) | (simp_all; done))) ?_
   (try simp [-Int.pred_toNat])
   all_goals exact zq1
  have hr := h.some
  subst hr
  refine AW.rt (rs := rs21) [(2, .bool (bif (bif (bif (bif (!decide (a0.Num = [])) then (!decide (a0.Den = [])) else false) then r1 else false) then r2 else false) then (decide (r3 = [1])) else false))] [(0, .gone 1)] (by simp) (by simp) rfl rfl (by simp [rs21]) (by simp [rs21]; try rfl)
theorem qzcg (a0 : qza)  (r : Bool) (h : jz7 a0 = some r) : qzq EE Tryz.prog 51 [.agg (qza.cells a0)] (.bool r) := by
 refine Pure.still ?_ hEE (by simp [-qzh, qza.cells] <;> assumption) (by simp [-qzh, qza.cells])
 obtain ⟨c, hb, hc⟩ := ck51
 replace h := Ok.of h; unfold jz7 at h
 refine Pure.ofs (fn := Tryz.f51) (n := 10) rfl hb cr51 (hc 0) rfl rfl (by simp) ?_
 refine AW.rS [(1, .ptr 0 1 0)] [(0, .box 1 [.bool a0.Neg, .str a0.Num, .str a0.Den])] ?_ ?_
 ·simp [qz52, -Int.pred_toNat]
  all_goals exact zq1
 obtain ⟨r1, h1, h⟩ := h.ex
 refine AW.rS [(2, .bool (bif r1 then (!a0.Neg) else false))] [(0, .gone 1)] ?_ ?_
 ·simp [qz8k, -Int.pred_toNat]
  (repeat' apply And.intro) <;> try first | omega | (simp at * <;> omega)
  refine (qzc8 a0  _ h1).ca (by simp [-Int.pred_toNat]) ?_
  (try simp [-Int.pred_toNat])
  all_goals exact zq1
 have hr := h.some
 subst hr
 refine AW.rt (rs := rs51) [(2, .bool (bif r1 then (!a0.Neg) else false))] [(0, .gone 1)] (by simp) (by simp) rfl rfl (by simp [rs51]) (by simp [rs51]; try rfl)
theorem jzj (a0 : qza)  (r : qzf) (h : jzg a0 = some r) : qzq EE Tryz.prog 61 [.agg (qza.cells a0)] (.agg (qzf.cells r)) := by
 refine Pure.still ?_ hEE (by simp [-qzh, qza.cells, qzf.cells] <;> assumption) (by simp [-qzh, qza.cells, qzf.cells])
 obtain ⟨c, hb, hc⟩ := ck61
 replace h := Ok.of h; unfold jzg at h
 refine Pure.ofs (fn := Tryz.f61) (n := 19) rfl hb cr61 (hc 0) rfl rfl (by simp) ?_
 refine AW.rS [(1, .ptr 0 1 0), (2, .ptr 1 1 0)] [(0, .box 1 [.bool a0.Neg, .str a0.Num, .str a0.Den]), (1, .box 1 [.bool false, .str [], .str []])] ?_ ?_
 ·simp [qz56, -Int.pred_toNat]
  all_goals exact zq1
 refine .seq ?_
 obtain ⟨r1, h1, h⟩ := h.ex
 refine AW.rS [(1, .ptr 0 1 0), (2, .ptr 1 1 0), (10, .bool (bif (decide (a0.Num = [])) then true else (!r1)))] [(0, .box 1 [.bool a0.Neg, .str a0.Num, .str a0.Den]), (1, .box 1 [.bool false, .str [], .str []])] ?_ ?_
 ·simp [qz77, -Int.pred_toNat]
  (repeat' apply And.intro) <;> try first | omega | (simp at * <;> omega)
  refine jzo.pure _ (by simp [-Int.pred_toNat]) (fun e => (qzc8 a0  _ (gd_t (by first | (exfalso; simp at e; done) | simpa using e | simp_all) h1)).w (by first | (simp [-Int.pred_toNat]; done) | (exfalso; simp at e; done) | (simp_all; done))) ?_
  (try simp [-Int.pred_toNat])
  all_goals exact zq1
 refine AW.ifF (bif (decide (a0.Num = [])) then true else (!r1)) rfl (by simp) (fun e => ?_) (fun e => ?_)
 ·replace h := h.pos e
  refine AW.rS [(2, .ptr 1 1 0)] [(0, .gone 1), (1, .box 1 [.bool false, .str [], .str [1]])] ?_ ?_
  ·simp [wzbg, -Int.pred_toNat]
   all_goals exact zq1
  have hr := h.some
  subst hr
  refine AW.rt (rs := rs61) [(2, .ptr 1 1 0)] [(0, .gone 1), (1, .box 1 (qzf.cells (qzf.mk false [] [1])))] (by simp) (by simp) rfl rfl (by simp [rs61]) (by simp [rs61]; try rfl)
 ·replace h := h.neg e
  refine AW.skip ?_
  refine AW.rS [(2, .ptr 1 1 0)] [(0, .gone 1), (1, .box 1 [.bool a0.Neg, .str a0.Num, .str a0.Den])] ?_ ?_
  ·simp [qz9k, -Int.pred_toNat]
   all_goals exact zq1
  have hr := h.some
  subst hr
  refine AW.rt (rs := rs61) [(2, .ptr 1 1 0)] [(0, .gone 1), (1, .box 1 (qzf.cells (qzf.mk a0.Neg a0.Num a0.Den)))] (by simp) (by simp) rfl rfl (by simp [rs61]) (by simp [rs61]; try rfl)
theorem wzf (f0 : qzf)  (r : qza) (h : qzw f0 = some r) : qzq EE Tryz.prog 62 [.agg (qzf.cells f0)] (.agg (qza.cells r)) := by
 refine Pure.still ?_ hEE (by simp [-qzh, qzf.cells, qza.cells] <;> assumption) (by simp [-qzh, qzf.cells, qza.cells])
 obtain ⟨c, hb, hc⟩ := ck62
 replace h := Ok.of h; unfold qzw at h
 refine Pure.ofs (fn := Tryz.f62) (n := 40) rfl hb cr62 (hc 0) rfl rfl (by simp) ?_
 refine AW.rS [(1, .ptr 0 1 0), (2, .ptr 1 1 0)] [(0, .box 1 [.bool f0.neg, .str f0.num, .str f0.den]), (1, .box 1 [.bool false, .str [], .str []])] ?_ ?_
 ·simp [wzcf, -Int.pred_toNat]
  all_goals exact zq1
 refine .seq ?_
 refine AW.rS [(1, .ptr 0 1 0), (2, .ptr 1 1 0), (12, .bool (decide (f0.num = [])))] [(0, .box 1 [.bool f0.neg, .str f0.num, .str f0.den]), (1, .box 1 [.bool false, .str [], .str []])] ?_ ?_
 ·simp [qz9f, -Int.pred_toNat]
  all_goals exact zq1
 refine AW.ifF (decide (f0.num = [])) rfl (by simp) (fun e => ?_) (fun e => ?_)
 ·replace h := h.pos e
  refine AW.rS [(2, .ptr 1 1 0)] [(0, .gone 1), (1, .box 1 [.bool false, .str [], .str []])] ?_ ?_
  ·simp [qz7j, -Int.pred_toNat]
   all_goals exact zq1
  have hr := h.some
  subst hr
  refine AW.rt (rs := rs62) [(2, .ptr 1 1 0)] [(0, .gone 1), (1, .box 1 (qza.cells (qza.mk false [] [])))] (by simp) (by simp) rfl rfl (by simp [rs62]) (by simp [rs62]; try rfl)
 ·replace h := h.neg e
  refine AW.skip ?_
  obtain ⟨r1, h1, h⟩ := h.ex
  refine AW.rS [(1, .ptr 0 1 0), (2, .ptr 1 1 0), (3, .str r1)] [(0, .box 1 [.bool f0.neg, .str f0.num, .str f0.den]), (1, .box 1 [.bool false, .str [], .str []])] ?_ ?_
  ·simp [qz8n, -Int.pred_toNat]
   (repeat' apply And.intro) <;> try first | omega | (simp at * <;> omega)
   refine (qzm1 f0.num f0.den  _ h1).ca (by simp [-Int.pred_toNat]) ?_
   (try simp [-Int.pred_toNat])
   all_goals exact zq1
  obtain ⟨r2, h2, h⟩ := h.ex
  refine AW.rS [(1, .ptr 0 1 0), (2, .ptr 1 1 0), (3, .str r1), (4, .str r2.1)] [(0, .box 1 [.bool f0.neg, .str f0.num, .str f0.den]), (1, .box 1 [.bool false, .str [], .str []])] ?_ ?_
  ·simp [qz7f, -Int.pred_toNat]
   (repeat' apply And.intro) <;> try first | omega | (simp at * <;> omega)
   refine (qziz f0.num r1  _ h2).ca (by simp [-Int.pred_toNat]) ?_
   (try simp [-Int.pred_toNat])
   all_goals exact zq1
  obtain ⟨r3, h3, h⟩ := h.ex
  refine AW.rS [(1, .ptr 0 1 0), (2, .ptr 1 1 0), (4, .str r2.1), (7, .str r3.1)] [(0, .box 1 [.bool f0.neg, .str f0.num, .str f0.den]), (1, .box 1 [.bool false, .str [], .str []])] ?_ ?_
  ·simp [qz7t, -Int.pred_toNat]
   (repeat' apply And.intro) <;> try first | omega | (simp at * <;> omega)
   refine (qziz f0.den r1  _ h3).ca (by simp [-Int.pred_toNat]) ?_
   (try simp [-Int.pred_toNat])
   all_goals exact zq1
  refine AW.rS [(2, .ptr 1 1 0)] [(0, .gone 1), (1, .box 1 [.bool f0.neg, .str r2.1, .str r3.1])] ?_ ?_
  ·simp [qz8y, -Int.pred_toNat]
   all_goals exact zq1
  have hr := h.some
  subst hr
  refine AW.rt (rs := rs62) [(2, .ptr 1 1 0)] [(0, .gone 1), (1, .box 1 (qza.cells (qza.mk f0.neg r2.1 r3.1)))] (by simp) (by simp) rfl rfl (by simp [rs62]) (by simp [rs62]; try rfl)
theorem qzf8 (op0 : qzf → Option qzf) (b1 : qza) (op0_f : FuncId) (op0_b : Nat) (op0_c : List AVal) (op0_n : ∀ x, x ∈ op0_c → qzt x) (op0_h : ∀ a0 r, op0 a0 = some r → FnOk EE Tryz.prog op0_f op0_b op0_c [.agg (qzf.cells a0)] (.agg (qzf.cells r))) (r : qza) (h : qza0 op0 b1 = some r) : qzq EE Tryz.prog 63 [.fn op0_f op0_b op0_c, .agg (qza.cells b1)] (.agg (qza.cells r)) := by
 refine Pure.still ?_ hEE (by simp [-qzh, kzp, op0_n, qza.cells] <;> assumption) (by simp [-qzh, kzp, op0_n, qza.cells])
 obtain ⟨c, hb, hc⟩ := ck63
 replace h := Ok.of h; unfold qza0 at h
 refine Pure.ofs (fn := Tryz.f63) (n := 10) rfl hb cr63 (hc 0) rfl rfl (by simp) ?_
 refine AW.rS [(0, .fn op0_f op0_b op0_c), (3, .ptr 0 1 0), (4, .ptr 1 1 0)] [(0, .box 1 [.bool b1.Neg, .str b1.Num, .str b1.Den]), (1, .box 1 [.bool false, .str [], .str []])] ?_ ?_
 ·simp [qz9v, -Int.pred_toNat]
  all_goals exact zq1
 obtain ⟨r1, h1, h⟩ := h.ex
 obtain ⟨r2, h2, h⟩ := h.ex
 obtain ⟨r3, h3, h⟩ := h.ex
 refine AW.rS [(4, .ptr 1 1 0)] [(0, .gone 1), (1, .box 1 (qza.cells r3))] ?_ ?_
 ·simp [qz9r, -Int.pred_toNat]
  (repeat' apply And.intro) <;> try first | omega | (simp at * <;> omega)
  refine (jzj b1  _ h1).ca (by simp [-Int.pred_toNat]) ?_
  (try simp [-Int.pred_toNat])
  (repeat' apply And.intro) <;> try first | omega | (simp at * <;> omega)
  ·exact (op0_h r1 _ h2).1
  refine (op0_h r1 _ h2).2.ca (by simp [-Int.pred_toNat]) ?_
  (try simp [-Int.pred_toNat])
  (repeat' apply And.intro) <;> try first | omega | (simp at * <;> omega)
  refine (wzf r2  _ h3).ca (by simp [-Int.pred_toNat]) ?_
  (try simp [-Int.pred_toNat])
  all_goals exact zq1
 have hr := h.some
 subst hr
 refine AW.rt (rs := rs63) [(4, .ptr 1 1 0)] [(0, .gone 1), (1, .box 1 (qza.cells r3))] (by simp) (by simp) rfl rfl (by simp [rs63]) (by simp [rs63]; try rfl)
theorem qzdv (f0 : qzf) (g1 : qzf)  (r : qzf) (h : wz3 f0 g1 = some r) : qzq EE Tryz.prog 64 [.agg (qzf.cells f0), .agg (qzf.cells g1)] (.agg (qzf.cells r)) := by
 refine Pure.still ?_ hEE (by simp [-qzh, qzf.cells] <;> assumption) (by simp [-qzh, qzf.cells])
 obtain ⟨c, hb, hc⟩ := ck64
 replace h := Ok.of h; unfold wz3 at h
 refine Pure.ofs (fn := Tryz.f64) (n := 57) rfl hb cr64 (hc 0) rfl rfl (by simp) ?_
 refine AW.rS [(2, .ptr 0 1 0), (3, .ptr 1 1 0), (4, .ptr 2 1 0)] [(0, .box 1 [.bool f0.neg, .str f0.num, .str f0.den]), (1, .box 1 [.bool g1.neg, .str g1.num, .str g1.den]), (2, .box 1 [.bool false, .str [], .str []])] ?_ ?_
 ·simp [wzau, -Int.pred_toNat]
  all_goals exact zq1
 obtain ⟨r1, h1, h⟩ := h.ex
 obtain ⟨r2, h2, h⟩ := h.ex
 obtain ⟨r3, h3, h⟩ := h.ex
 refine AW.dS [(2, .ptr 0 1 0), (3, .ptr 1 1 0), (4, .ptr 2 1 0), (5, .str r1), (6, .str r2), (7, .str r3)] [(0, .box 1 [.bool f0.neg, .str f0.num, .str f0.den]), (1, .box 1 [.bool g1.neg, .str g1.num, .str g1.den]), (2, .box 1 [.bool false, .str [], .str []])] ?_ ?_
 ·simp [qz7d, -Int.pred_toNat]
  (repeat' apply And.intro) <;> try first | omega | (simp at * <;> omega)
  refine (qzcv f0.num g1.den  _ h1).cd (by simp [-Int.pred_toNat]) ?_
  (try simp [-Int.pred_toNat])
  (repeat' apply And.intro) <;> try first | omega | (simp at * <;> omega)
  refine (qzcv g1.num f0.den  _ h2).cd (by simp [-Int.pred_toNat]) ?_
  (try simp [-Int.pred_toNat])
  (repeat' apply And.intro) <;> try first | omega | (simp at * <;> omega)
  refine (qzcv f0.den g1.den  _ h3).cd (by simp [-Int.pred_toNat]) ?_
  (try simp [-Int.pred_toNat])
  all_goals exact zq2
 refine .seq ?_
 refine AW.rS [(2, .ptr 0 1 0), (3, .ptr 1 1 0), (4, .ptr 2 1 0), (5, .str r1), (6, .str r2), (7, .str r3), (29, .bool (f0.neg == g1.neg))] [(0, .box 1 [.bool f0.neg, .str f0.num, .str f0.den]), (1, .box 1 [.bool g1.neg, .str g1.num, .str g1.den]), (2, .box 1 [.bool false, .str [], .str []])] ?_ ?_
 ·simp [qz8x, -Int.pred_toNat]
  all_goals exact zq1
 refine AW.ifF (f0.neg == g1.neg) rfl (by simp) (fun e => ?_) (fun e => ?_)
 ·replace h := h.pos e
  obtain ⟨r4, h4, h⟩ := h.ex
  refine AW.dS [(4, .ptr 2 1 0)] [(0, .gone 1), (1, .gone 1), (2, .box 1 [.bool f0.neg, .str r4, .str r3])] ?_ ?_
  ·simp [qz6j, -Int.pred_toNat]
   (repeat' apply And.intro) <;> try first | omega | (simp at * <;> omega)
   refine (qzt7 r1 r2  _ h4).cd (by simp [-Int.pred_toNat]) ?_
   (try simp [-Int.pred_toNat])
   all_goals exact zq2
  have hr := h.some
  subst hr
  refine AW.rt (rs := rs64) [(4, .ptr 2 1 0)] [(0, .gone 1), (1, .gone 1), (2, .box 1 (qzf.cells (qzf.mk f0.neg r4 r3)))] (by simp) (by simp) rfl rfl (by simp [rs64]) (by simp [rs64]; try rfl)
 ·replace h := h.neg e
  refine AW.skip ?_
  refine .seq ?_
  obtain ⟨r5, h5, h⟩ := h.ex
  refine AW.rS [(2, .ptr 0 1 0), (3, .ptr 1 1 0), (4, .ptr 2 1 0), (5, .str r1), (6, .str r2), (7, .str r3), (40, .bool (decide (r5 < 0)))] [(0, .box 1 [.bool f0.neg, .str f0.num, .str f0.den]), (1, .box 1 [.bool g1.neg, .str g1.num, .str g1.den]), (2, .box 1 [.bool false, .str [], .str []])] ?_ ?_
  ·simp [wzaz, -Int.pred_toNat]
   (repeat' apply And.intro) <;> try first | omega | (simp at * <;> omega)
   refine (qzs1 r1 r2  _ h5).ca (by simp [-Int.pred_toNat]) ?_
   (try simp [-Int.pred_toNat])
   all_goals exact zq1
  refine AW.sub (fun o ex S' => match o with | (a5, b6, b0) => ex = .normal ∧ See EE S' ⟨tl [(2, .ptr 0 1 0), (4, .ptr 2 1 0), (5, .str a5), (6, .str b6), (7, .str r3)] 57, hl [(0, .box 1 (qzf.cells b0)), (1, .gone 1), (2, .box 1 [.bool false, .str [], .str []])], []⟩) h.bd (fun QQ h => ?_) ?_
  ·refine AW.ifF (decide (r5 < 0)) rfl (by simp) (fun e => ?_) (fun e => ?_)
   ·replace h := h.pos e
    refine AW.dE [(2, .ptr 0 1 0), (4, .ptr 2 1 0), (5, .str r2), (6, .str r1), (7, .str r3)] [(0, .box 1 [.bool g1.neg, .str f0.num, .str f0.den]), (1, .gone 1), (2, .box 1 [.bool false, .str [], .str []])] ?_ (fun S' hs1 => ?_)
    ·simp [wzcc, -Int.pred_toNat]
     all_goals exact zq2
    exact ⟨(r2, r1, (qzf.mk g1.neg f0.num f0.den)), h.some, ⟨rfl, (hs1.trans (.wk (by simp) (by simp) rfl))⟩⟩
   ·replace h := h.neg e
    refine AW.skip ?_
    exact ⟨(r1, r2, f0), h.some, ⟨rfl, (.wk (by simp) (by simp) rfl)⟩⟩
  ·rintro ⟨a5, b6, b0⟩ h ex S' hs
   obtain ⟨rfl, hs⟩ := hs
   refine .see hs ?_
   obtain ⟨r6, h6, h⟩ := h.ex
   refine AW.rS [(2, .ptr 0 1 0), (4, .ptr 2 1 0), (7, .str r3), (8, .str r6.1)] [(0, .box 1 (qzf.cells b0)), (1, .gone 1), (2, .box 1 [.bool false, .str [], .str []])] ?_ ?_
   ·simp [qz6r, -Int.pred_toNat]
    (repeat' apply And.intro) <;> try first | omega | (simp at * <;> omega)
    refine (qzst a5 b6  _ h6).ca (by simp [-Int.pred_toNat]) ?_
    (try simp [-Int.pred_toNat])
    all_goals exact zq1
   refine AW.rS [(4, .ptr 2 1 0)] [(0, .gone 1), (1, .gone 1), (2, .box 1 [.bool b0.neg, .str r6.1, .str r3])] ?_ ?_
   ·simp [qz5i, -Int.pred_toNat]
    all_goals exact zq1
   have hr := h.some
   subst hr
   refine AW.rt (rs := rs64) [(4, .ptr 2 1 0)] [(0, .gone 1), (1, .gone 1), (2, .box 1 (qzf.cells (qzf.mk b0.neg r6.1 r3)))] (by simp) (by simp) rfl rfl (by simp [rs64]) (by simp [rs64]; try rfl)
theorem qzdr (f0 : qzf) (g1 : qzf)  (r : qzf) (h : wz5 f0 g1 = some r) : qzq EE Tryz.prog 66 [.agg (qzf.cells f0), .agg (qzf.cells g1)] (.agg (qzf.cells r)) := by
 refine Pure.still ?_ hEE (by simp [-qzh, qzf.cells] <;> assumption) (by simp [-qzh, qzf.cells])
 obtain ⟨c, hb, hc⟩ := ck66
 replace h := Ok.of h; unfold wz5 at h
 refine Pure.ofs (fn := Tryz.f66) (n := 12) rfl hb cr66 (hc 0) rfl rfl (by simp) ?_
 refine AW.rS [(2, .ptr 0 1 0), (3, .ptr 1 1 0), (4, .ptr 2 1 0)] [(0, .box 1 [.bool f0.neg, .str f0.num, .str f0.den]), (1, .box 1 [.bool g1.neg, .str g1.num, .str g1.den]), (2, .box 1 [.bool false, .str [], .str []])] ?_ ?_
 ·simp [wzb6, -Int.pred_toNat]
  all_goals exact zq1
 refine AW.rS [(2, .ptr 0 1 0), (3, .ptr 1 1 0), (4, .ptr 2 1 0)] [(0, .box 1 [.bool f0.neg, .str f0.num, .str f0.den]), (1, .box 1 [.bool (!g1.neg), .str g1.num, .str g1.den]), (2, .box 1 [.bool false, .str [], .str []])] ?_ ?_
 ·simp [qz6m, -Int.pred_toNat]
  all_goals exact zq1
 obtain ⟨r1, h1, h⟩ := h.ex
 refine AW.rS [(4, .ptr 2 1 0)] [(0, .gone 1), (1, .gone 1), (2, .box 1 (qzf.cells r1))] ?_ ?_
 ·simp [qz6c, -Int.pred_toNat]
  (repeat' apply And.intro) <;> try first | omega | (simp at * <;> omega)
  refine (qzdv f0 (qzf.mk (!g1.neg) g1.num g1.den)  _ h1).ca (by simp [-Int.pred_toNat]) ?_
  (try simp [-Int.pred_toNat])
  all_goals exact zq1
 have hr := h.some
 subst hr
 refine AW.rt (rs := rs66) [(4, .ptr 2 1 0)] [(0, .gone 1), (1, .gone 1), (2, .box 1 (qzf.cells r1))] (by simp) (by simp) rfl rfl (by simp [rs66]) (by simp [rs66]; try rfl)
theorem qzdc (f0 : qzf) (g1 : qzf)  (r : qzf) (h : wzv f0 g1 = some r) : qzq EE Tryz.prog 67 [.agg (qzf.cells f0), .agg (qzf.cells g1)] (.agg (qzf.cells r)) := by
 refine Pure.still ?_ hEE (by simp [-qzh, qzf.cells] <;> assumption) (by simp [-qzh, qzf.cells])
 obtain ⟨c, hb, hc⟩ := ck67
 replace h := Ok.of h; unfold wzv at h
 refine Pure.ofs (fn := Tryz.f67) (n := 21) rfl hb cr67 (hc 0) rfl rfl (by simp) ?_
 refine AW.rS [(2, .ptr 0 1 0), (3, .ptr 1 1 0), (4, .ptr 2 1 0)] [(0, .box 1 [.bool f0.neg, .str f0.num, .str f0.den]), (1, .box 1 [.bool g1.neg, .str g1.num, .str g1.den]), (2, .box 1 [.bool false, .str [], .str []])] ?_ ?_
 ·simp [wzav, -Int.pred_toNat]
  all_goals exact zq1
 obtain ⟨r1, h1, h⟩ := h.ex
 obtain ⟨r2, h2, h⟩ := h.ex
 refine AW.dS [(4, .ptr 2 1 0)] [(0, .gone 1), (1, .gone 1), (2, .box 1 [.bool (!(f0.neg == g1.neg)), .str r1, .str r2])] ?_ ?_
 ·simp [qz5v, -Int.pred_toNat]
  (repeat' apply And.intro) <;> try first | omega | (simp at * <;> omega)
  refine (qzcv f0.num g1.num  _ h1).cd (by simp [-Int.pred_toNat]) ?_
  (try simp [-Int.pred_toNat])
  (repeat' apply And.intro) <;> try first | omega | (simp at * <;> omega)
  refine (qzcv f0.den g1.den  _ h2).cd (by simp [-Int.pred_toNat]) ?_
  (try simp [-Int.pred_toNat])
  all_goals exact zq2
 have hr := h.some
 subst hr
 refine AW.rt (rs := rs67) [(4, .ptr 2 1 0)] [(0, .gone 1), (1, .gone 1), (2, .box 1 (qzf.cells (qzf.mk (!(f0.neg == g1.neg)) r1 r2)))] (by simp) (by simp) rfl rfl (by simp [rs67]) (by simp [rs67]; try rfl)
theorem qzd9 (n0 : Int)  (r : qzf) (h : yzh n0 = some r) : qzq EE Tryz.prog 69 [.int .i64 n0] (.agg (qzf.cells r)) := by
 refine Pure.still ?_ hEE (by simp [-qzh, qzf.cells] <;> assumption) (by simp [-qzh, qzf.cells])
 obtain ⟨c, hb, hc⟩ := ck69
 replace h := Ok.of h; unfold yzh at h
 refine Pure.ofs (fn := Tryz.f69) (n := 17) rfl hb cr69 (hc 0) rfl rfl (by simp) ?_
 refine AW.rS [(0, .int .i64 n0), (2, .ptr 0 1 0)] [(0, .box 1 [.bool false, .str [], .str []])] ?_ ?_
 ·simp [wzcm, -Int.pred_toNat]
  all_goals exact zq1
 obtain ⟨h1, h⟩ := h.ck
 obtain ⟨r1, h2, h⟩ := h.ex
 refine AW.rS [(0, .int .i64 n0), (2, .ptr 0 1 0), (3, .str r1.1)] [(0, .box 1 [.bool false, .str [], .str []])] ?_ ?_
 ·have f1 := qzr h1
  simp [qz64, -Int.pred_toNat, f1]
  (repeat' apply And.intro) <;> try first | omega | (simp at * <;> omega)
  refine (qztp (max n0 (-n0))  _ h2).ca (by simp [-Int.pred_toNat, f1]) ?_
  (try simp [-Int.pred_toNat, f1])
  (repeat' apply And.intro) <;> first | omega | (simp at * <;> omega) | (intro _; intros; simp_all; done) | exact .mk (by simp [-Int.pred_toNat, f1]) (by simp [-Int.pred_toNat, f1]) rfl
 refine AW.rS [(2, .ptr 0 1 0)] [(0, .box 1 [.bool (decide (n0 < 0)), .str r1.1, .str [1]])] ?_ ?_
 ·simp [qz54, -Int.pred_toNat]
  all_goals exact zq1
 have hr := h.some
 subst hr
 refine AW.rt (rs := rs69) [(2, .ptr 0 1 0)] [(0, .box 1 (qzf.cells (qzf.mk (decide (n0 < 0)) r1.1 [1])))] (by simp) (by simp) rfl rfl (by simp [rs69]) (by simp [rs69]; try rfl)
theorem qzd3 (f0 : qzf) (g1 : qzf)  (r : qzf) (h : wz4 f0 g1 = some r) : qzq EE Tryz.prog 102 [.agg (qzf.cells f0), .agg (qzf.cells g1)] (.agg (qzf.cells r)) := by
 refine Pure.still ?_ hEE (by simp [-qzh, qzf.cells] <;> assumption) (by simp [-qzh, qzf.cells])
 obtain ⟨c, hb, hc⟩ := wzf5
 replace h := Ok.of h; unfold wz4 at h
 refine Pure.ofs (fn := Tryz.f102) (n := 14) rfl hb wzge (hc 0) rfl rfl (by simp) ?_
 refine AW.rS [(2, .ptr 0 1 0), (3, .ptr 1 1 0), (4, .ptr 2 1 0)] [(0, .box 1 [.bool f0.neg, .str f0.num, .str f0.den]), (1, .box 1 [.bool g1.neg, .str g1.num, .str g1.den]), (2, .box 1 [.bool false, .str [], .str []])] ?_ ?_
 ·simp [qzz3, -Int.pred_toNat]
  all_goals exact zq1
 obtain ⟨r1, h1, h⟩ := h.ex
 refine AW.rS [(4, .ptr 2 1 0)] [(0, .gone 1), (1, .gone 1), (2, .box 1 (qzf.cells r1))] ?_ ?_
 ·simp [qz2t, -Int.pred_toNat]
  (repeat' apply And.intro) <;> try first | omega | (simp at * <;> omega)
  refine (qzdc f0 (qzf.mk g1.neg g1.den g1.num)  _ h1).ca (by simp [-Int.pred_toNat]) ?_
  (try simp [-Int.pred_toNat])
  all_goals exact zq1
 have hr := h.some
 subst hr
 refine AW.rt (rs := qzse) [(4, .ptr 2 1 0)] [(0, .gone 1), (1, .gone 1), (2, .box 1 (qzf.cells r1))] (by simp) (by simp) rfl rfl (by simp [qzse]) (by simp [qzse]; try rfl)
theorem qzev (a0 : qza) (b1 : qza)  (r : qza) (h : qzbi a0 b1 = some r) : qzq EE Tryz.prog 24 [.agg (qza.cells a0), .agg (qza.cells b1)] (.agg (qza.cells r)) := by
 refine Pure.still ?_ hEE (by simp [-qzh, qza.cells] <;> assumption) (by simp [-qzh, qza.cells])
 obtain ⟨c, hb, hc⟩ := ck24
 replace h := Ok.of h; unfold qzbi at h
 refine Pure.ofs (fn := Tryz.f24) (n := 10) rfl hb cr24 (hc 0) rfl rfl (by simp) ?_
 refine AW.rS [(2, .ptr 0 1 0), (3, .ptr 1 1 0), (4, .ptr 2 1 0)] [(0, .box 1 [.bool a0.Neg, .str a0.Num, .str a0.Den]), (1, .box 1 [.bool b1.Neg, .str b1.Num, .str b1.Den]), (2, .box 1 [.bool false, .str [], .str []])] ?_ ?_
 ·simp [qz99, -Int.pred_toNat]
  all_goals exact zq1
 obtain ⟨r1, h1, h⟩ := h.ex
 obtain ⟨r2, h2, h⟩ := h.ex
 refine AW.dS [(4, .ptr 2 1 0)] [(0, .gone 1), (1, .gone 1), (2, .box 1 (qza.cells r2))] ?_ ?_
 ·simp [qz4w, -Int.pred_toNat]
  (repeat' apply And.intro) <;> try first | omega | (simp at * <;> omega)
  refine (jzj a0  _ h1).cd (by simp [-Int.pred_toNat]) ?_
  (try simp [-Int.pred_toNat])
  (repeat' apply And.intro) <;> try first | omega | (simp at * <;> omega)
  refine (qzf8 (fun a0 => wz3 r1 a0) b1 64 1 [.agg (qzf.cells r1)] (by simp [jzc]) (fun a0 r h => ⟨by kernel_rfl, (qzdv r1 a0  r h).w (by simp [fnArgs])⟩) _ h2).cd (by simp [-Int.pred_toNat]) ?_
  (try simp [-Int.pred_toNat])
  all_goals exact zq2
 have hr := h.some
 subst hr
 refine AW.rt (rs := rs24) [(4, .ptr 2 1 0)] [(0, .gone 1), (1, .gone 1), (2, .box 1 (qza.cells r2))] (by simp) (by simp) rfl rfl (by simp [rs24]) (by simp [rs24]; try rfl)
theorem jze (a0 : qza) (b1 : qza)  (r : Int) (h : wz0 a0 b1 = some r) : qzq EE Tryz.prog 26 [.agg (qza.cells a0), .agg (qza.cells b1)] (.int .i64 r) := by
 refine Pure.still ?_ hEE (by simp [-qzh, qza.cells] <;> assumption) (by simp [-qzh, qza.cells])
 obtain ⟨c, hb, hc⟩ := ck26
 replace h := Ok.of h; unfold wz0 at h
 refine Pure.ofs (fn := Tryz.f26) (n := 18) rfl hb cr26 (hc 0) rfl rfl (by simp) ?_
 refine AW.rS [(2, .ptr 0 1 0), (3, .ptr 1 1 0)] [(0, .box 1 [.bool a0.Neg, .str a0.Num, .str a0.Den]), (1, .box 1 [.bool b1.Neg, .str b1.Num, .str b1.Den])] ?_ ?_
 ·simp [qz8w, -Int.pred_toNat]
  all_goals exact zq1
 obtain ⟨r1, h1, h⟩ := h.ex
 obtain ⟨r2, h2, h⟩ := h.ex
 obtain ⟨r3, h3, h⟩ := h.ex
 refine AW.dS [(5, .ptr 2 1 0)] [(0, .gone 1), (1, .gone 1), (2, .box 1 (qzf.cells r3))] ?_ ?_
 ·simp [qz5s, -Int.pred_toNat]
  (repeat' apply And.intro) <;> try first | omega | (simp at * <;> omega)
  refine (jzj a0  _ h1).cd (by simp [-Int.pred_toNat]) ?_
  (try simp [-Int.pred_toNat])
  (repeat' apply And.intro) <;> try first | omega | (simp at * <;> omega)
  refine (jzj b1  _ h2).cd (by simp [-Int.pred_toNat]) ?_
  (try simp [-Int.pred_toNat])
  (repeat' apply And.intro) <;> try first | omega | (simp at * <;> omega)
  refine (qzdr r1 r2  _ h3).cd (by simp [-Int.pred_toNat]) ?_
  (try simp [-Int.pred_toNat])
  all_goals exact zq2
 refine .seq ?_
 refine .block ?_
 refine AW.rS [(5, .ptr 2 1 0), (11, .bool (decide (r3.num = [])))] [(0, .gone 1), (1, .gone 1), (2, .box 1 (qzf.cells r3))] ?_ ?_
 ·simp [qz7z, -Int.pred_toNat]
  all_goals exact zq1
 refine AW.ifF (decide (r3.num = [])) rfl (by simp) (fun e => ?_) (fun e => ?_)
 ·replace h := h.pos e
  refine AW.rS [(4, .int .i64 0)] [(0, .gone 1), (1, .gone 1), (2, .gone 1)] ?_ ?_
  ·simp [qz6l, -Int.pred_toNat]
   all_goals exact zq1
  have hr := h.some
  subst hr
  refine AW.rt (rs := rs26) [(4, .int .i64 0)] [(0, .gone 1), (1, .gone 1), (2, .gone 1)] (by simp) (by simp) rfl rfl (by simp [rs26]) (by simp [rs26]; try rfl)
 ·replace h := h.neg e
  refine AW.rS [(15, .bool r3.neg)] [(0, .gone 1), (1, .gone 1), (2, .gone 1)] ?_ ?_
  ·simp [wzb3, -Int.pred_toNat]
   all_goals exact zq1
  refine AW.ifF r3.neg rfl (by simp) (fun e => ?_) (fun e => ?_)
  ·replace h := h.pos e
   refine AW.rS [(4, .int .i64 (-1))] [(0, .gone 1), (1, .gone 1), (2, .gone 1)] ?_ ?_
   ·simp [wzb0, -Int.pred_toNat]
    all_goals exact zq1
   have hr := h.some
   subst hr
   refine AW.rt (rs := rs26) [(4, .int .i64 (-1))] [(0, .gone 1), (1, .gone 1), (2, .gone 1)] (by simp) (by simp) rfl rfl (by simp [rs26]) (by simp [rs26]; try rfl)
  ·replace h := h.neg e
   refine AW.skip ?_
   refine AW.rS [(4, .int .i64 1)] [(0, .gone 1), (1, .gone 1), (2, .gone 1)] ?_ ?_
   ·simp [qz9o, -Int.pred_toNat]
    all_goals exact zq1
   have hr := h.some
   subst hr
   refine AW.rt (rs := rs26) [(4, .int .i64 1)] [(0, .gone 1), (1, .gone 1), (2, .gone 1)] (by simp) (by simp) rfl rfl (by simp [rs26]) (by simp [rs26]; try rfl)
theorem qzic (a0 : qza) (b1 : qza)  (r : qza) (h : qzcw a0 b1 = some r) : qzq EE Tryz.prog 27 [.agg (qza.cells a0), .agg (qza.cells b1)] (.agg (qza.cells r)) := by
 refine Pure.still ?_ hEE (by simp [-qzh, qza.cells] <;> assumption) (by simp [-qzh, qza.cells])
 obtain ⟨c, hb, hc⟩ := ck27
 replace h := Ok.of h; unfold qzcw at h
 refine Pure.ofs (fn := Tryz.f27) (n := 10) rfl hb cr27 (hc 0) rfl rfl (by simp) ?_
 refine AW.rS [(2, .ptr 0 1 0), (3, .ptr 1 1 0), (4, .ptr 2 1 0)] [(0, .box 1 [.bool a0.Neg, .str a0.Num, .str a0.Den]), (1, .box 1 [.bool b1.Neg, .str b1.Num, .str b1.Den]), (2, .box 1 [.bool false, .str [], .str []])] ?_ ?_
 ·simp [wzbu, -Int.pred_toNat]
  all_goals exact zq1
 obtain ⟨r1, h1, h⟩ := h.ex
 obtain ⟨r2, h2, h⟩ := h.ex
 refine AW.dS [(4, .ptr 2 1 0)] [(0, .gone 1), (1, .gone 1), (2, .box 1 (qza.cells r2))] ?_ ?_
 ·simp [qz9i, -Int.pred_toNat]
  (repeat' apply And.intro) <;> try first | omega | (simp at * <;> omega)
  refine (jzj a0  _ h1).cd (by simp [-Int.pred_toNat]) ?_
  (try simp [-Int.pred_toNat])
  (repeat' apply And.intro) <;> try first | omega | (simp at * <;> omega)
  refine (qzf8 (fun a0 => wzv r1 a0) b1 67 1 [.agg (qzf.cells r1)] (by simp [jzc]) (fun a0 r h => ⟨by kernel_rfl, (qzdc r1 a0  r h).w (by simp [fnArgs])⟩) _ h2).cd (by simp [-Int.pred_toNat]) ?_
  (try simp [-Int.pred_toNat])
  all_goals exact zq2
 have hr := h.some
 subst hr
 refine AW.rt (rs := rs27) [(4, .ptr 2 1 0)] [(0, .gone 1), (1, .gone 1), (2, .box 1 (qza.cells r2))] (by simp) (by simp) rfl rfl (by simp [rs27]) (by simp [rs27]; try rfl)
theorem qzv (n0 : Int)  (r : qza) (h : qzz n0 = some r) : qzq EE Tryz.prog 28 [.int .i64 n0] (.agg (qza.cells r)) := by
 refine Pure.still ?_ hEE (by simp [-qzh, qza.cells] <;> assumption) (by simp [-qzh, qza.cells])
 obtain ⟨c, hb, hc⟩ := ck28
 replace h := Ok.of h; unfold qzz at h
 refine Pure.ofs (fn := Tryz.f28) (n := 10) rfl hb cr28 (hc 0) rfl rfl (by simp) ?_
 refine AW.rS [(0, .int .i64 n0), (2, .ptr 0 1 0)] [(0, .box 1 [.bool false, .str [], .str []])] ?_ ?_
 ·simp [qz91, -Int.pred_toNat]
  all_goals exact zq1
 refine .seq ?_
 obtain ⟨r1, h1, h⟩ := h.ex
 refine AW.rS [(0, .int .i64 n0), (2, .ptr 0 1 0), (5, .bool (!r1))] [(0, .box 1 [.bool false, .str [], .str []])] ?_ ?_
 ·simp [wzca, -Int.pred_toNat]
  (repeat' apply And.intro) <;> try first | omega | (simp at * <;> omega)
  refine (qzff n0  _ h1).ca (by simp [-Int.pred_toNat]) ?_
  (try simp [-Int.pred_toNat])
  all_goals exact zq1
 refine AW.ifF (!r1) rfl (by simp) (fun e => ?_) (fun e => ?_)
 ·replace h := h.pos e
  refine AW.rS [(2, .ptr 0 1 0)] [(0, .box 1 [.bool false, .str [], .str []])] ?_ ?_
  ·simp [qz9t, -Int.pred_toNat]
   all_goals exact zq1
  have hr := h.some
  subst hr
  refine AW.rt (rs := rs28) [(2, .ptr 0 1 0)] [(0, .box 1 (qza.cells (qza.mk false [] [])))] (by simp) (by simp) rfl rfl (by simp [rs28]) (by simp [rs28]; try rfl)
 ·replace h := h.neg e
  refine AW.skip ?_
  obtain ⟨r2, h2, h⟩ := h.ex
  obtain ⟨r3, h3, h⟩ := h.ex
  refine AW.rS [(2, .ptr 0 1 0)] [(0, .box 1 (qza.cells r3))] ?_ ?_
  ·simp [wzbw, -Int.pred_toNat]
   (repeat' apply And.intro) <;> try first | omega | (simp at * <;> omega)
   refine (qzd9 n0  _ h2).ca (by simp [-Int.pred_toNat]) ?_
   (try simp [-Int.pred_toNat])
   (repeat' apply And.intro) <;> try first | omega | (simp at * <;> omega)
   refine (wzf r2  _ h3).ca (by simp [-Int.pred_toNat]) ?_
   (try simp [-Int.pred_toNat])
   all_goals exact zq1
  have hr := h.some
  subst hr
  refine AW.rt (rs := rs28) [(2, .ptr 0 1 0)] [(0, .box 1 (qza.cells r3))] (by simp) (by simp) rfl rfl (by simp [rs28]) (by simp [rs28]; try rfl)
theorem qze9 (a0 : qza) (b1 : qza)  (r : qza) (h : qzbh a0 b1 = some r) : qzq EE Tryz.prog 29 [.agg (qza.cells a0), .agg (qza.cells b1)] (.agg (qza.cells r)) := by
 refine Pure.still ?_ hEE (by simp [-qzh, qza.cells] <;> assumption) (by simp [-qzh, qza.cells])
 obtain ⟨c, hb, hc⟩ := ck29
 replace h := Ok.of h; unfold qzbh at h
 refine Pure.ofs (fn := Tryz.f29) (n := 10) rfl hb cr29 (hc 0) rfl rfl (by simp) ?_
 refine AW.rS [(2, .ptr 0 1 0), (3, .ptr 1 1 0), (4, .ptr 2 1 0)] [(0, .box 1 [.bool a0.Neg, .str a0.Num, .str a0.Den]), (1, .box 1 [.bool b1.Neg, .str b1.Num, .str b1.Den]), (2, .box 1 [.bool false, .str [], .str []])] ?_ ?_
 ·simp [qz5k, -Int.pred_toNat]
  all_goals exact zq1
 obtain ⟨r1, h1, h⟩ := h.ex
 obtain ⟨r2, h2, h⟩ := h.ex
 refine AW.dS [(4, .ptr 2 1 0)] [(0, .gone 1), (1, .gone 1), (2, .box 1 (qza.cells r2))] ?_ ?_
 ·simp [qz9l, -Int.pred_toNat]
  (repeat' apply And.intro) <;> try first | omega | (simp at * <;> omega)
  refine (jzj a0  _ h1).cd (by simp [-Int.pred_toNat]) ?_
  (try simp [-Int.pred_toNat])
  (repeat' apply And.intro) <;> try first | omega | (simp at * <;> omega)
  refine (qzf8 (fun a0 => wz5 r1 a0) b1 66 1 [.agg (qzf.cells r1)] (by simp [jzc]) (fun a0 r h => ⟨by kernel_rfl, (qzdr r1 a0  r h).w (by simp [fnArgs])⟩) _ h2).cd (by simp [-Int.pred_toNat]) ?_
  (try simp [-Int.pred_toNat])
  all_goals exact zq2
 have hr := h.some
 subst hr
 refine AW.rt (rs := rs29) [(4, .ptr 2 1 0)] [(0, .gone 1), (1, .gone 1), (2, .box 1 (qza.cells r2))] (by simp) (by simp) rfl rfl (by simp [rs29]) (by simp [rs29]; try rfl)
abbrev qzat (l0 : List Int) (s : Int × (List qza)) (ex : Nat × Nat) : List (Nat × AVal) := match s, ex with | (t8, l1), (ep0, ep1) => [(3, ownV 1 ep1 l1), (6, slcV 1 (cI .i64) l0), (7, .int .i64 (List.length l0 : Int)), (8, .int .i64 t8)]
abbrev qzaw (l0 : List Int) (s : Int × (List qza)) (ex : Nat × Nat) : List (Nat × AObj) := match s, ex with | (t8, l1), (ep0, ep1) => [(0, .gone ep0), (1, ownO ep1 3 qza.cells l1)]
abbrev qzgx (l0 : List Int) : (List qza) → Exit → ASt → Prop := fun o ex S' => match o with | l1 => ∃ ep0 : Nat, ∃ ep1 : Nat, ex = .exit 0 ∧ See EE S' ⟨tl [(3, ownV 1 ep1 l1)] 19, hl [(0, .gone ep0), (1, ownO ep1 3 qza.cells l1)], []⟩
theorem qzl5 (l0 : List Int) (t8 : Int) (l1 : List qza) (ep0 : Nat) (ep1 : Nat) (QQ : (Int × (List qza)) ⊕ (List qza) → Prop) (h : Ok (qzea l0 (t8, l1)) QQ) : AW EE none Tryz.prog (qz4p 0) (fun ex S' => (∃ s' e', ex = .normal ∧ QQ (.inl s') ∧ See EE S' ⟨tl ((qzat l0) s' e') 19, hl ((qzaw l0) s' e'), []⟩) ∨ (∃ o, QQ (.inr o) ∧ ex ≠ .normal ∧ (qzgx l0) o ex S')) ⟨tl [(3, ownV 1 ep1 l1), (6, slcV 1 (cI .i64) l0), (7, .int .i64 (List.length l0 : Int)), (8, .int .i64 t8)] 19, hl [(0, .gone ep0), (1, ownO ep1 3 qza.cells l1)], []⟩ := by
 unfold qzea at h
 refine AW.rS [(3, ownV 1 ep1 l1), (6, slcV 1 (cI .i64) l0), (7, .int .i64 (List.length l0 : Int)), (8, .int .i64 t8), (9, .bool (decide (t8 < (List.length l0 : Int))))] [(0, .gone ep0), (1, ownO ep1 3 qza.cells l1)] ?_ ?_
 ·simp [qz5r, -Int.pred_toNat]
  all_goals exact zq1
 refine .seq ?_
 refine AW.ifF (decide (t8 < (List.length l0 : Int))) rfl (by simp) (fun e => ?_) (fun e => ?_)
 ·replace h := h.pos e
  refine AW.skip ?_
  refine .seq ?_
  refine .block ?_
  obtain ⟨x1, h1, h⟩ := h.at
  refine AW.rS [(3, ownV 1 ep1 l1), (5, .int .i64 x1), (6, slcV 1 (cI .i64) l0), (7, .int .i64 (List.length l0 : Int)), (8, .int .i64 t8)] [(0, .gone ep0), (1, ownO ep1 3 qza.cells l1)] ?_ ?_
  ·obtain ⟨f1a, f1b, f1c⟩ := h1
   have f1d : qzd (cI .i64) l0 (Int.toNat t8) = (cI .i64) x1 := qzo f1c
   have f1e : Int.toNat t8 < List.length l0 := by omega
   simp [qz81, -Int.pred_toNat, f1a, f1b, f1d, f1e]
   (repeat' apply And.intro) <;> first | omega | (simp at * <;> omega) | (intro _; intros; simp_all; done) | exact .mk (by simp [-Int.pred_toNat, f1a, f1b, f1d, f1e]) (by simp [-Int.pred_toNat, f1a, f1b, f1d, f1e]) rfl
  obtain ⟨r1, h2, h⟩ := h.ex
  obtain ⟨h3, h⟩ := h.ck
  refine AW.rE [(3, ownV 1 (ep1 + 1) (l1 ++ [r1])), (6, slcV 1 (cI .i64) l0), (7, .int .i64 (List.length l0 : Int)), (8, .int .i64 t8)] [(0, .gone (ep0 + 1)), (1, ownO (ep1 + 1) 3 qza.cells (l1 ++ [r1]))] ?_ (fun S' hs1 => ?_)
  ·have f2 := h3
   have f2m := f2
   (try simp [-Int.pred_toNat] at f2m)
   rcases hl : l1 with _ | ⟨y, l⟩
   ·(try simp [hl] at f2)
    simp [qzwf, -Int.pred_toNat, f2, f2m, hl]
    (repeat' apply And.intro) <;> try first | omega | (simp at * <;> omega)
    refine (qzv x1  _ h2).ca (by simp [-Int.pred_toNat, f2, f2m]) ?_
    (try simp [-Int.pred_toNat, f2, f2m, hl])
    (repeat' apply And.intro) <;> first | omega | (simp at * <;> omega) | (intro _; intros; simp_all; done) | exact .mk (by simp [-Int.pred_toNat, f2, f2m, hl]) (by simp [-Int.pred_toNat, f2, f2m, hl]) rfl
   ·(try simp [hl] at f2)
    simp [qzwf, -Int.pred_toNat, f2, f2m, hl]
    (repeat' apply And.intro) <;> try first | omega | (simp at * <;> omega)
    refine (qzv x1  _ h2).ca (by simp [-Int.pred_toNat, f2, f2m]) ?_
    (try simp [-Int.pred_toNat, f2, f2m, hl])
    (repeat' apply And.intro) <;> first | omega | skip
    refine .mk (by simp [-Int.pred_toNat, f2, f2m, hl]) ?_ rfl
    simp [-Int.pred_toNat, f2, f2m, hl]
    intro k hk
    split <;> rename_i hk2
    ·rw [yz1 hk2]; exact .refl _
    ·rw [yze hk2]
     have hj : k - (l.length + 1) < 1 := by omega
     revert hj; generalize k - (l.length + 1) = j; revert j; simp
  refine .see hs1 ?_
  obtain ⟨h5, h⟩ := h.ck
  refine AW.rE [(3, ownV 1 (ep1 + 1) (l1 ++ [r1])), (6, slcV 1 (cI .i64) l0), (7, .int .i64 (List.length l0 : Int)), (8, .int .i64 (t8 + 1))] [(0, .gone (ep0 + 1)), (1, ownO (ep1 + 1) 3 qza.cells (l1 ++ [r1]))] ?_ (fun S' hs2 => ?_)
  ·have f3 := qzr h5
   simp [qz6n, -Int.pred_toNat, f3]
   (repeat' apply And.intro) <;> first | omega | (simp at * <;> omega) | (intro _; intros; simp_all; done) | exact .mk (by simp [-Int.pred_toNat, f3]) (by simp [-Int.pred_toNat, f3]) rfl
  exact .inl ⟨((t8 + 1), (l1 ++ [r1])), ((ep0 + 1), (ep1 + 1)), rfl, h.some, (hs2.trans (.wk (by simp [qzat]) (by simp [qzaw]) rfl))⟩
 ·replace h := h.neg e
  refine .exit ?_
  exact .inr ⟨l1, h.some, by simp, ⟨ep0, ep1, rfl, (.wk (by simp) (by simp) rfl)⟩⟩
theorem qzed (l0 : List Int)  (r : List qza) (h : qzb3 l0 = some r) : qzq EE Tryz.prog 32 [slcV 1 (cI .i64) l0] (slcV 3 qza.cells r) := by
 refine Pure.still ?_ hEE (by simp [-qzh, (fun l => qzj (st := 1) (c := (cI .i64)) (l := l) (fun a => qz1 (n := a))), (fun l => qzj (st := 3) (c := qza.cells) (l := l) qza.noref)] <;> assumption) (by simp [-qzh, (fun l => qzj (st := 1) (c := (cI .i64)) (l := l) (fun a => qz1 (n := a))), (fun l => qzj (st := 3) (c := qza.cells) (l := l) qza.noref)])
 obtain ⟨c, hb, hc⟩ := ck32
 replace h := Ok.of h; unfold qzb3 at h
 refine Pure.ofs (fn := Tryz.f32) (n := 19) rfl hb cr32 (hc 0) rfl rfl (by simp) ?_
 refine AW.rS [(0, slcV 1 (cI .i64) l0)] [] ?_ ?_
 ·simp [qz5b, -Int.pred_toNat]
  all_goals exact zq1
 refine AW.rS [(0, slcV 1 (cI .i64) l0), (3, .nils)] [] ?_ ?_
 ·simp [wzbt, -Int.pred_toNat]
  all_goals exact zq1
 refine .seq ?_
 refine AW.rS [(3, .nils), (6, slcV 1 (cI .i64) l0), (7, .int .i64 (List.length l0 : Int)), (8, .int .i64 0)] [] ?_ ?_
 ·simp [wzam, -Int.pred_toNat]
  all_goals exact zq1
 refine .block ?_
 refine AW.lpF (ε := Nat × Nat) (0, 0) h.bd (qzat l0) (qzaw l0) (qzgx l0) (by simp [qzat]) (by simp [qzaw]) rfl ?_ ?_
 ·rintro ⟨t8, l1⟩ ⟨ep0, ep1⟩ QQ h
  exact qzl5 l0 t8 l1 ep0 ep1 QQ h
 ·rintro l1 h ex S' hs
  obtain ⟨ep0, ep1, rfl, hs⟩ := hs
  refine .see hs ?_
  refine AW.rS [(2, ownV 1 ep1 l1)] [(0, .gone ep0), (1, ownO ep1 3 qza.cells l1)] ?_ ?_
  ·simp [qz63, -Int.pred_toNat]
   all_goals exact zq1
  refine AW.frzO 1 ep1 3 qza.cells l1 [(2, slcV 3 qza.cells l1)] [(0, .gone ep0), (1, .gone (ep1 + 1))] rfl (fun e => ⟨by simp [e], by simp [e], rfl⟩) (fun y k e o ho => ⟨by simp [e, ho], by simp [e, ho], rfl⟩) ?_
  have hr := h.some
  subst hr
  refine AW.rt (rs := rs32) [(2, slcV 3 qza.cells l1)] [(0, .gone ep0), (1, .gone (ep1 + 1))] (by simp) (by simp) rfl rfl (by simp [rs32]) (by simp [rs32]; try rfl)
theorem qzl6 (s0 : qzb) (c0 : qza)  (r : qza) (h : vzj s0 c0 = some r) : qzq EE Tryz.prog 40 [.agg (qzb.cells s0), .cptr (fun k => (qza.cells c0).getD k .top) 3 0] (.agg (qza.cells r)) := by
 refine Pure.still ?_ hEE (by simp [-qzh, jzc, qzb.cells, qza.cells] <;> assumption) (by simp [-qzh, jzc, qzb.cells, qza.cells])
 obtain ⟨c, hb, hc⟩ := ck40
 replace h := Ok.of h; unfold vzj at h
 refine Pure.ofs (fn := Tryz.f40) (n := 8) rfl hb cr40 (hc 0) rfl rfl (by simp) ?_
 refine AW.rS [(1, .cptr (fun k => [.bool c0.Neg, .str c0.Num, .str c0.Den].getD k .top) 3 0), (2, .ptr 0 1 0), (3, .ptr 1 1 0)] [(0, .box 1 [.int .i64 s0.State, .int .i64 s0.Weight, .bool s0.Floor.Neg, .str s0.Floor.Num, .str s0.Floor.Den, .bool s0.Cap.Neg, .str s0.Cap.Num, .str s0.Cap.Den]), (1, .box 1 [.bool false, .str [], .str []])] ?_ ?_
 ·simp [qz4e, -Int.pred_toNat]
  all_goals exact zq1
 obtain ⟨r1, h1, h⟩ := h.ex
 refine AW.rS [(3, .ptr 1 1 0)] [(0, .gone 1), (1, .box 1 (qza.cells r1))] ?_ ?_
 ·simp [qz7c, -Int.pred_toNat]
  (repeat' apply And.intro) <;> try first | omega | (simp at * <;> omega)
  refine (qzic s0.Floor c0  _ h1).ca (by simp [-Int.pred_toNat]) ?_
  (try simp [-Int.pred_toNat])
  all_goals exact zq1
 have hr := h.some
 subst hr
 refine AW.rt (rs := rs40) [(3, .ptr 1 1 0)] [(0, .gone 1), (1, .box 1 (qza.cells r1))] (by simp) (by simp) rfl rfl (by simp [rs40]) (by simp [rs40]; try rfl)
abbrev qzby (l0 : List qza) (s : Int × qza) (ex : Nat) : List (Nat × AVal) := match s, ex with | (t8, b1), ep2 => [(2, .ptr 0 1 0), (3, .ptr 1 1 0), (6, slcV 3 qza.cells l0), (7, .int .i64 (List.length l0 : Int)), (8, .int .i64 t8)]
abbrev qzbv (l0 : List qza) (s : Int × qza) (ex : Nat) : List (Nat × AObj) := match s, ex with | (t8, b1), ep2 => [(0, .box 1 [.bool false, .str [], .str []]), (1, .box 1 (qza.cells b1)), (2, .gone ep2)]
abbrev qzh9 (l0 : List qza) : qza → Exit → ASt → Prop := fun o ex S' => match o with | b1 => ∃ ep2 : Nat, ex = .exit 0 ∧ See EE S' ⟨tl [(2, .ptr 0 1 0), (3, .ptr 1 1 0)] 17, hl [(0, .box 1 [.bool false, .str [], .str []]), (1, .box 1 (qza.cells b1)), (2, .gone ep2)], []⟩
theorem qzn4 (l0 : List qza) (t8 : Int) (b1 : qza) (ep2 : Nat) (QQ : (Int × qza) ⊕ qza → Prop) (h : Ok (qzbc l0 (t8, b1)) QQ) : AW EE none Tryz.prog (qz4b 0) (fun ex S' => (∃ s' e', ex = .normal ∧ QQ (.inl s') ∧ See EE S' ⟨tl ((qzby l0) s' e') 17, hl ((qzbv l0) s' e'), []⟩) ∨ (∃ o, QQ (.inr o) ∧ ex ≠ .normal ∧ (qzh9 l0) o ex S')) ⟨tl [(2, .ptr 0 1 0), (3, .ptr 1 1 0), (6, slcV 3 qza.cells l0), (7, .int .i64 (List.length l0 : Int)), (8, .int .i64 t8)] 17, hl [(0, .box 1 [.bool false, .str [], .str []]), (1, .box 1 (qza.cells b1)), (2, .gone ep2)], []⟩ := by
 unfold qzbc at h
 refine AW.rS [(2, .ptr 0 1 0), (3, .ptr 1 1 0), (6, slcV 3 qza.cells l0), (7, .int .i64 (List.length l0 : Int)), (8, .int .i64 t8), (9, .bool (decide (t8 < (List.length l0 : Int))))] [(0, .box 1 [.bool false, .str [], .str []]), (1, .box 1 (qza.cells b1)), (2, .gone ep2)] ?_ ?_
 ·simp [wzco, -Int.pred_toNat]
  all_goals exact zq1
 refine .seq ?_
 refine AW.ifF (decide (t8 < (List.length l0 : Int))) rfl (by simp) (fun e => ?_) (fun e => ?_)
 ·replace h := h.pos e
  refine AW.skip ?_
  refine .seq ?_
  refine .block ?_
  obtain ⟨x1, h1, h⟩ := h.at
  refine AW.rS [(2, .ptr 0 1 0), (3, .ptr 1 1 0), (5, .ptr 2 (ep2 + 1) 0), (6, slcV 3 qza.cells l0), (7, .int .i64 (List.length l0 : Int)), (8, .int .i64 t8)] [(0, .box 1 [.bool false, .str [], .str []]), (1, .box 1 (qza.cells b1)), (2, .box (ep2 + 1) [.bool x1.Neg, .str x1.Num, .str x1.Den])] ?_ ?_
  ·obtain ⟨f1a, f1b, f1c⟩ := h1
   have f1d : qzd qza.cells l0 (Int.toNat t8) = qza.cells x1 := qzo f1c
   have f1e : Int.toNat t8 < List.length l0 := by omega
   simp [wzag, -Int.pred_toNat, f1a, f1b, f1d, f1e]
   (repeat' apply And.intro) <;> first | omega | (simp at * <;> omega) | (intro _; intros; simp_all; done) | exact .mk (by simp [-Int.pred_toNat, f1a, f1b, f1d, f1e]) (by simp [-Int.pred_toNat, f1a, f1b, f1d, f1e]) rfl
  obtain ⟨r1, h2, h⟩ := h.ex
  refine AW.rE [(2, .ptr 0 1 0), (3, .ptr 1 1 0), (6, slcV 3 qza.cells l0), (7, .int .i64 (List.length l0 : Int)), (8, .int .i64 t8)] [(0, .box 1 [.bool false, .str [], .str []]), (1, .box 1 (qza.cells r1)), (2, .gone (ep2 + 1))] ?_ (fun S' hs1 => ?_)
  ·simp [qz93, -Int.pred_toNat]
   (repeat' apply And.intro) <;> try first | omega | (simp at * <;> omega)
   refine (qzev b1 x1  _ h2).ca (by simp [-Int.pred_toNat]) ?_
   (try simp [-Int.pred_toNat])
   all_goals exact zq1
  refine .see hs1 ?_
  obtain ⟨h3, h⟩ := h.ck
  refine AW.rE [(2, .ptr 0 1 0), (3, .ptr 1 1 0), (6, slcV 3 qza.cells l0), (7, .int .i64 (List.length l0 : Int)), (8, .int .i64 (t8 + 1))] [(0, .box 1 [.bool false, .str [], .str []]), (1, .box 1 (qza.cells r1)), (2, .gone (ep2 + 1))] ?_ (fun S' hs2 => ?_)
  ·have f2 := qzr h3
   simp [wzcb, -Int.pred_toNat, f2]
   (repeat' apply And.intro) <;> first | omega | (simp at * <;> omega) | (intro _; intros; simp_all; done) | exact .mk (by simp [-Int.pred_toNat, f2]) (by simp [-Int.pred_toNat, f2]) rfl
  exact .inl ⟨((t8 + 1), r1), (ep2 + 1), rfl, h.some, (hs2.trans (.wk (by simp [qzby]) (by simp [qzbv]) rfl))⟩
 ·replace h := h.neg e
  refine .exit ?_
  exact .inr ⟨b1, h.some, by simp, ⟨ep2, rfl, (.wk (by simp) (by simp) rfl)⟩⟩
theorem qzqr (l0 : List qza)  (r : qza) (h : qzf9 l0 = some r) : qzq EE Tryz.prog 65 [slcV 3 qza.cells l0] (.agg (qza.cells r)) := by
 refine Pure.still ?_ hEE (by simp [-qzh, (fun l => qzj (st := 3) (c := qza.cells) (l := l) qza.noref), qza.cells] <;> assumption) (by simp [-qzh, (fun l => qzj (st := 3) (c := qza.cells) (l := l) qza.noref), qza.cells])
 obtain ⟨c, hb, hc⟩ := ck65
 replace h := Ok.of h; unfold qzf9 at h
 refine Pure.ofs (fn := Tryz.f65) (n := 17) rfl hb cr65 (hc 0) rfl rfl (by simp) ?_
 refine AW.rS [(0, slcV 3 qza.cells l0), (2, .ptr 0 1 0)] [(0, .box 1 [.bool false, .str [], .str []])] ?_ ?_
 ·simp [qz55, -Int.pred_toNat]
  all_goals exact zq1
 refine AW.rS [(0, slcV 3 qza.cells l0), (2, .ptr 0 1 0), (3, .ptr 1 1 0)] [(0, .box 1 [.bool false, .str [], .str []]), (1, .box 1 [.bool false, .str [], .str []])] ?_ ?_
 ·simp [qz9q, -Int.pred_toNat]
  all_goals exact zq1
 refine .seq ?_
 refine AW.rS [(2, .ptr 0 1 0), (3, .ptr 1 1 0), (6, slcV 3 qza.cells l0), (7, .int .i64 (List.length l0 : Int)), (8, .int .i64 0)] [(0, .box 1 [.bool false, .str [], .str []]), (1, .box 1 [.bool false, .str [], .str []])] ?_ ?_
 ·simp [wzb7, -Int.pred_toNat]
  all_goals exact zq1
 refine .block ?_
 refine AW.lpF (ε := Nat) 0 h.bd (qzby l0) (qzbv l0) (qzh9 l0) (by simp [qzby]) (by simp [qzbv]) rfl ?_ ?_
 ·rintro ⟨t8, b1⟩ ep2 QQ h
  exact qzn4 l0 t8 b1 ep2 QQ h
 ·rintro b1 h ex S' hs
  obtain ⟨ep2, rfl, hs⟩ := hs
  refine .see hs ?_
  refine AW.rS [(2, .ptr 0 1 0)] [(0, .box 1 (qza.cells b1)), (1, .gone 1), (2, .gone ep2)] ?_ ?_
  ·simp [qz38, -Int.pred_toNat]
   all_goals exact zq1
  have hr := h.some
  subst hr
  refine AW.rt (rs := rs65) [(2, .ptr 0 1 0)] [(0, .box 1 (qza.cells b1)), (1, .gone 1), (2, .gone ep2)] (by simp) (by simp) rfl rfl (by simp [rs65]) (by simp [rs65]; try rfl)
theorem qzr5 (num0 : Int) (den1 : Int)  (r : qza × Int) (h : qzlk num0 den1 = some r) : qzq EE Tryz.prog 71 [.int .i64 num0, .int .i64 den1] (.tup [.agg (qza.cells r.1), .int .i64 r.2]) := by
 refine Pure.still ?_ hEE (by simp [-qzh, qza.cells] <;> assumption) (by simp [-qzh, qza.cells])
 obtain ⟨c, hb, hc⟩ := ck71
 replace h := Ok.of h; unfold qzlk at h
 refine Pure.ofs (fn := Tryz.f71) (n := 24) rfl hb cr71 (hc 0) rfl rfl (by simp) ?_
 refine AW.rS [(0, .int .i64 num0), (1, .int .i64 den1), (4, .ptr 0 1 0)] [(0, .box 1 [.bool false, .str [], .str []])] ?_ ?_
 ·simp [qz4t, -Int.pred_toNat]
  all_goals exact zq1
 refine .seq ?_
 obtain ⟨r1, h1, h⟩ := h.ex
 obtain ⟨r2, h2, h⟩ := h.ex
 refine AW.rS [(0, .int .i64 num0), (1, .int .i64 den1), (4, .ptr 0 1 0), (13, .bool (bif (!r1) then true else (!r2)))] [(0, .box 1 [.bool false, .str [], .str []])] ?_ ?_
 ·simp [qz37, -Int.pred_toNat]
  (repeat' apply And.intro) <;> try first | omega | (simp at * <;> omega)
  refine (qzff num0  _ h1).ca (by simp [-Int.pred_toNat]) ?_
  (try simp [-Int.pred_toNat])
  (repeat' apply And.intro) <;> try first | omega | (simp at * <;> omega)
  refine jzo.pure _ (by simp [-Int.pred_toNat]) (fun e => (qzff den1  _ (gd_t (by first | (exfalso; simp at e; done) | simpa using e | simp_all) h2)).w (by first | (simp [-Int.pred_toNat]; done) | (exfalso; simp at e; done) | (simp_all; done))) ?_
  (try simp [-Int.pred_toNat])
  all_goals exact zq1
 refine AW.ifF (bif (!r1) then true else (!r2)) rfl (by simp) (fun e => ?_) (fun e => ?_)
 ·replace h := h.pos e
  refine AW.rS [(4, .ptr 0 1 0), (5, .int .i64 3)] [(0, .box 1 [.bool false, .str [], .str []])] ?_ ?_
  ·simp [qz6t, -Int.pred_toNat]
   all_goals exact zq1
  have hr := h.some
  subst hr
  refine AW.rt (rs := rs71) [(4, .ptr 0 1 0), (5, .int .i64 3)] [(0, .box 1 (qza.cells (qza.mk false [] [])))] (by simp) (by simp) rfl rfl (by simp [rs71]) (by simp [rs71]; try rfl)
 ·replace h := h.neg e
  refine AW.skip ?_
  refine .seq ?_
  refine AW.rS [(0, .int .i64 num0), (1, .int .i64 den1), (4, .ptr 0 1 0), (16, .bool (decide (den1 = 0)))] [(0, .box 1 [.bool false, .str [], .str []])] ?_ ?_
  ·simp [wza5, -Int.pred_toNat]
   all_goals exact zq1
  refine AW.ifF (decide (den1 = 0)) rfl (by simp) (fun e => ?_) (fun e => ?_)
  ·replace h := h.pos e
   refine AW.rS [(4, .ptr 0 1 0), (5, .int .i64 1)] [(0, .box 1 [.bool false, .str [], .str []])] ?_ ?_
   ·simp [qz7g, -Int.pred_toNat]
    all_goals exact zq1
   have hr := h.some
   subst hr
   refine AW.rt (rs := rs71) [(4, .ptr 0 1 0), (5, .int .i64 1)] [(0, .box 1 (qza.cells (qza.mk false [] [])))] (by simp) (by simp) rfl rfl (by simp [rs71]) (by simp [rs71]; try rfl)
  ·replace h := h.neg e
   refine AW.skip ?_
   obtain ⟨r3, h3, h⟩ := h.ex
   obtain ⟨r4, h4, h⟩ := h.ex
   obtain ⟨r5, h5, h⟩ := h.ex
   obtain ⟨r6, h6, h⟩ := h.ex
   refine AW.rS [(4, .ptr 0 1 0), (5, .int .i64 0)] [(0, .box 1 (qza.cells r6))] ?_ ?_
   ·simp [qz42, -Int.pred_toNat]
    (repeat' apply And.intro) <;> try first | omega | (simp at * <;> omega)
    refine (qzd9 num0  _ h3).ca (by simp [-Int.pred_toNat]) ?_
    (try simp [-Int.pred_toNat])
    (repeat' apply And.intro) <;> try first | omega | (simp at * <;> omega)
    refine (qzd9 den1  _ h4).ca (by simp [-Int.pred_toNat]) ?_
    (try simp [-Int.pred_toNat])
    (repeat' apply And.intro) <;> try first | omega | (simp at * <;> omega)
    refine (qzd3 r3 r4  _ h5).ca (by simp [-Int.pred_toNat]) ?_
    (try simp [-Int.pred_toNat])
    (repeat' apply And.intro) <;> try first | omega | (simp at * <;> omega)
    refine (wzf r5  _ h6).ca (by simp [-Int.pred_toNat]) ?_
    (try simp [-Int.pred_toNat])
    all_goals exact zq1
   have hr := h.some
   subst hr
   refine AW.rt (rs := rs71) [(4, .ptr 0 1 0), (5, .int .i64 0)] [(0, .box 1 (qza.cells r6))] (by simp) (by simp) rfl rfl (by simp [rs71]) (by simp [rs71]; try rfl)
theorem wzhb (a0 : qza) (b1 : qza)  (r : Int) (h : wzha a0 b1 = some r) : qzq EE Tryz.prog 74 [.agg (qza.cells a0), .agg (qza.cells b1)] (.int .i64 r) := by
 refine Pure.still ?_ hEE (by simp [-qzh, qza.cells] <;> assumption) (by simp [-qzh, qza.cells])
 obtain ⟨c, hb, hc⟩ := ck74
 replace h := Ok.of h; unfold wzha at h
 refine Pure.ofs (fn := Tryz.f74) (n := 8) rfl hb cr74 (hc 0) rfl rfl (by simp) ?_
 refine AW.rS [(2, .ptr 0 1 0), (3, .ptr 1 1 0)] [(0, .box 1 [.bool a0.Neg, .str a0.Num, .str a0.Den]), (1, .box 1 [.bool b1.Neg, .str b1.Num, .str b1.Den])] ?_ ?_
 ·simp [wzhc, -Int.pred_toNat]
  all_goals exact zq1
 obtain ⟨r1, h1, h⟩ := h.ex
 refine AW.rS [(4, .int .i64 r1)] [(0, .gone 1), (1, .gone 1)] ?_ ?_
 ·simp [wzhd, -Int.pred_toNat]
  (repeat' apply And.intro) <;> try first | omega | (simp at * <;> omega)
  refine (jze a0 b1  _ h1).ca (by simp [-Int.pred_toNat]) ?_
  (try simp [-Int.pred_toNat])
  all_goals exact zq1
 have hr := h.some
 subst hr
 refine AW.rt (rs := rs74) [(4, .int .i64 r1)] [(0, .gone 1), (1, .gone 1)] (by simp) (by simp) rfl rfl (by simp [rs74]) (by simp [rs74]; try rfl)
theorem qzia (a : qza) : ∀ l, (qzeg a l).Perm (a :: l)
 | [] => List.Perm.refl _
 | b :: l => by
  unfold qzeg
  split
  ·exact List.Perm.refl _
  ·exact ((qzia a l).cons b).trans (List.Perm.swap a b l)
theorem qzp3 : ∀ l, (qzi1 l).Perm l
 | [] => List.Perm.refl _
 | a :: l => (qzia a (qzi1 l)).trans ((qzp3 l).cons a)
def qzps (a b : qza) : Prop := ratV a ≤ ratV b
theorem qzkf (a : qza) : ∀ l, List.Pairwise qzps l → List.Pairwise qzps (qzeg a l)
 | [], _ => List.pairwise_singleton _ _
 | b :: l, h => by
  unfold qzeg
  obtain ⟨h1, h2⟩ := List.pairwise_cons.1 h
  split
  ·rename_i e
   exact List.pairwise_cons.2 ⟨fun c hc => by
    rcases List.mem_cons.1 hc with rfl | hc
    ·exact e
    ·exact Rat.le_trans e (h1 c hc), h⟩
  ·rename_i e
   refine List.pairwise_cons.2 ⟨fun c hc => ?_, qzkf a l h2⟩
   rcases List.mem_cons.1 ((qzia a l).mem_iff.1 hc) with rfl | hc
   ·exact (Rat.le_total).resolve_left e
   ·exact h1 c hc
theorem qzmz : ∀ l, List.Pairwise qzps (qzi1 l)
 | [] => List.Pairwise.nil
 | a :: l => qzkf a _ (qzmz l)
theorem qzpf {l : List qza} (h : qzjz l = true) {a b : qza} (ha : a ∈ l) (hb : b ∈ l) : (∃ c, wzha a b = some c ∧ (c < 0 ↔ ratV a < ratV b)) ∧ (ratV a = ratV b → a = b) := by
 unfold qzjz at h
 have h1 := List.all_eq_true.1 (List.all_eq_true.1 h a ha) b hb
 simp only [Bool.and_eq_true] at h1
 obtain ⟨h1, h2⟩ := h1
 refine ⟨?_, fun e => by simpa [e] using h2⟩
 cases hx : wzha a b with
 | none => rw [hx] at h1; cases h1
 | some c => rw [hx] at h1; exact ⟨c, rfl, by simpa using h1⟩
def qzqf (a : qza) : List Value := [.bool a.Neg, .string ⟨a.Num.toArray⟩, .string ⟨a.Den.toArray⟩]
theorem qz3i {g : Gh} {w : World} {b : Bool} {v : Value} (h : RV g w (.bool b) v) : v = .bool b := by cases h; rfl
theorem qzvv {g : Gh} {w : World} {s : List UInt8} {v : Value} (h : RV g w (.str s) v) : v = .string ⟨s.toArray⟩ := by
 cases h with
 | str _ b hb => subst hb; rfl
theorem qz1m (g : Gh) (w : World) (a : qza) (l : List Value) (h : RVs g w a.cells l) : l = qzqf a := by
 obtain ⟨hl, hx⟩ := h
 match l, hl with
 | [u, v, x], _ =>
  have h0 := hx 0 _ _ rfl rfl
  have h1 := hx 1 _ _ rfl rfl
  have h2 := hx 2 _ _ rfl rfl
  rw [qz3i h0, qzvv h1, qzvv h2]
  rfl
theorem qz2w (g : Gh) (w : World) (a : qza) : RVs g w a.cells (qzqf a) :=
 .cons (.bool _) (.cons (.str _ _ rfl) (.cons (.str _ _ rfl) (.nil _ _)))
set_option maxHeartbeats 1000000 in
theorem qzkd (id ep : Nat) (l r : List qza) (h : yzm l = some r) (H : qzl) (hid : H id = ownO ep 3 qza.cells l) : ATr EE Tryz.prog 73 [ownV id ep l, .fn 74 0 []] H (fun v h' => v = .tup [] ∧ h' = hset H id (ownO ep 3 qza.cells r) ∧ ownV id ep l = ownV id ep r) := by
 unfold yzm at h
 cases hx : (decide (0 < List.length l) && qzjz l && decide (List.length l ≤ 4611686018427387900))
 ·rw [hx] at h; cases h
 rw [hx] at h
 have hr : r = qzi1 l := (Option.some.inj h).symm
 simp only [Bool.and_eq_true, decide_eq_true_eq] at hx
 obtain ⟨⟨hn, hok⟩, hlen⟩ := hx
 have hperm : r.Perm l := hr ▸ qzp3 l
 have hlr : r.length = l.length := hperm.length_eq
 obtain ⟨x, t, rfl⟩ : ∃ x t, l = x :: t := by
  cases l with
  | nil => simp at hn
  | cons x t => exact ⟨x, t, rfl⟩
 let α := {a : qza // a ∈ x :: t}
 have : Inhabited α := ⟨⟨x, by simp⟩⟩
 have m := fun (a b : α) => qzpf hok a.2 b.2
 have hlt : ∀ a b : α, ltOf (fun a b : α => (wzha a.1 b.1).getD 0) a b = decide (ratV a.1 < ratV b.1) := by
  intro a b
  obtain ⟨⟨c, hc, hc2⟩, _⟩ := m a b
  unfold ltOf
  simp only [hc, Option.getD_some]
  exact decide_eq_decide.2 hc2
 have hswo : Go.Sort.SWO (ltOf (fun a b : α => (wzha a.1 b.1).getD 0)) := by
  refine ⟨fun a => ?_, fun a b c h1 h2 => ?_, fun a b c h1 h2 => ?_⟩
  ·rw [hlt]; simp [Rat.lt_irrefl]
  ·rw [hlt] at *
   simp only [decide_eq_true_eq] at *
   rw [← Rat.not_le] at *
   exact fun e => h1 (Rat.le_trans (Rat.le_of_lt (Rat.not_le.1 h2)) e)
  ·rw [hlt] at *
   simp only [decide_eq_false_iff_not, Rat.not_lt] at *
   exact Rat.le_trans h2 h1
 have main := wzfu (E := EE) Tryz.sortF0 3 (by omega) Tryz.isAgg24 Tryz.sizeOf24 (fun a : α => a.1.cells) (fun a : α => qzqf a.1) (fun _ => rfl) (fun _ => rfl)
  (fun a v hv => by simp [qzqf] at hv; rcases hv with rfl | rfl | rfl <;> rfl) (fun g w a l hl => qz1m g w a.1 l hl) (fun g w a => qz2w g w a.1)
  (fun a b : α => (wzha a.1 b.1).getD 0) hswo 74 (enters_of Tryz.func74 (by kernel_rfl) rfl)
  (fun a b => by
   obtain ⟨⟨c, hc, _⟩, _⟩ := m a b
   simp only [hc, Option.getD_some]
   exact wzhb a.1 b.1 c hc)
  (h := H) (id := id) (ep := ep) (n := (x :: t).length) (f := qzd qza.cells (x :: t)) (d := (x :: t).attach.toArray) hid (by simp) (by simp) (by omega)
  (fun j hj => by
   rw [qzo (List.getElem?_eq_getElem hj)]
   have : j < ((x :: t).attach.toArray).size := by simpa using hj
   rw [getElem!_pos _ j this]
   simp only [List.getElem_toArray]
   exact congrArg (fun a : α => a.1.cells) (List.getElem_attach (xs := x :: t) (by simpa using hj)).symm)
 refine main.sub ?_
 rintro v h' ⟨rfl, d', hp, hs, rfl⟩
 obtain ⟨hp1, _, hp2⟩ := hp
 have hds : d'.size = (x :: t).length := by rw [hp1]; simp
 have gen : ∀ A : Array α, A.extract 0 A.size = A := fun A => by simp
 have e1 : d'.extract 0 (x :: t).length = d' := by rw [← hds]; simp
 have e2 : ((x :: t).attach.toArray).extract 0 (x :: t).length = (x :: t).attach.toArray := by
  have : (x :: t).length = ((x :: t).attach.toArray).size := by simp
  rw [this]; exact gen _
 rw [e1, e2] at hp2
 have hp3 : (d'.toList.map (·.1)).Perm (x :: t) := by
  have := hp2.map (·.1)
  simpa using this
 have hdr : d'.toList.map (·.1) = r := by
  refine List.Perm.eq_of_pairwise (le := qzps) (fun a b ha hb h1 h2 => ?_) ?_ (hr ▸ qzmz _) (hp3.trans hperm.symm)
  ·exact (qzpf hok (hp3.mem_iff.1 ha) (hperm.mem_iff.1 hb)).2 (Rat.le_antisymm h1 h2)
  ·rw [List.pairwise_iff_getElem]
   intro i j hi hj hij
   have hi' : i < d'.size := by simpa using hi
   have hj' : j < d'.size := by simpa using hj
   have := hs i j (Nat.zero_le _) hij (by rw [← hds]; exact hj')
   rw [hlt, getElem!_pos d' i hi', getElem!_pos d' j hj'] at this
   simp only [decide_eq_false_iff_not, Rat.not_lt] at this
   simpa [qzps] using this
 have hov : ownV id ep (x :: t) = ownV id ep r := qzvh hlr.symm
 refine ⟨_, ⟨rfl, rfl, hov⟩, fun i => ?_⟩
 simp only [hset]
 split
 ·obtain ⟨z, zs, rfl⟩ : ∃ z zs, r = z :: zs := by
   cases r with
   | nil => simp at hlr
   | cons z zs => exact ⟨z, zs, rfl⟩
  refine .inr (.inr ⟨ep, 3, (x :: t).length, _, qzd qza.cells (z :: zs), rfl, ?_, fun k hk => ?_⟩)
  ·rw [← hlr]; rfl
  ·have hk' : k < d'.size := by rw [hds]; exact hk
   have hk2 : k < (z :: zs).length := by rw [hlr]; exact hk
   rw [qzo (List.getElem?_eq_getElem hk2), getElem!_pos d' k hk']
   have : (z :: zs)[k]? = some d'[k].1 := by rw [← hdr]; simp [hk']
   rw [List.getElem?_eq_getElem hk2] at this
   rw [Option.some.inj this]
 ·exact .refl _
theorem qzt1 (a0 : qza) (b1 : qza)  (r : qza × Int) (h : qzgm a0 b1 = some r) : qzq EE Tryz.prog 76 [.agg (qza.cells a0), .agg (qza.cells b1)] (.tup [.agg (qza.cells r.1), .int .i64 r.2]) := by
 refine Pure.still ?_ hEE (by simp [-qzh, qza.cells] <;> assumption) (by simp [-qzh, qza.cells])
 obtain ⟨c, hb, hc⟩ := ck76
 replace h := Ok.of h; unfold qzgm at h
 refine Pure.ofs (fn := Tryz.f76) (n := 16) rfl hb cr76 (hc 0) rfl rfl (by simp) ?_
 refine AW.rS [(2, .ptr 0 1 0), (3, .ptr 1 1 0), (4, .ptr 2 1 0)] [(0, .box 1 [.bool a0.Neg, .str a0.Num, .str a0.Den]), (1, .box 1 [.bool b1.Neg, .str b1.Num, .str b1.Den]), (2, .box 1 [.bool false, .str [], .str []])] ?_ ?_
 ·simp [qz9s, -Int.pred_toNat]
  all_goals exact zq1
 refine .seq ?_
 obtain ⟨r1, h1, h⟩ := h.ex
 refine AW.rS [(2, .ptr 0 1 0), (3, .ptr 1 1 0), (4, .ptr 2 1 0), (9, .bool (decide (r1.num = [])))] [(0, .box 1 [.bool a0.Neg, .str a0.Num, .str a0.Den]), (1, .box 1 [.bool b1.Neg, .str b1.Num, .str b1.Den]), (2, .box 1 [.bool false, .str [], .str []])] ?_ ?_
 ·simp [qz4l, -Int.pred_toNat]
  (repeat' apply And.intro) <;> try first | omega | (simp at * <;> omega)
  refine (jzj b1  _ h1).ca (by simp [-Int.pred_toNat]) ?_
  (try simp [-Int.pred_toNat])
  all_goals exact zq1
 refine AW.ifF (decide (r1.num = [])) rfl (by simp) (fun e => ?_) (fun e => ?_)
 ·replace h := h.pos e
  refine AW.rS [(4, .ptr 2 1 0), (5, .int .i64 1)] [(0, .gone 1), (1, .gone 1), (2, .box 1 [.bool false, .str [], .str []])] ?_ ?_
  ·simp [wzcs, -Int.pred_toNat]
   all_goals exact zq1
  have hr := h.some
  subst hr
  refine AW.rt (rs := rs76) [(4, .ptr 2 1 0), (5, .int .i64 1)] [(0, .gone 1), (1, .gone 1), (2, .box 1 (qza.cells (qza.mk false [] [])))] (by simp) (by simp) rfl rfl (by simp [rs76]) (by simp [rs76]; try rfl)
 ·replace h := h.neg e
  refine AW.skip ?_
  obtain ⟨r2, h2, h⟩ := h.ex
  obtain ⟨r3, h3, h⟩ := h.ex
  refine AW.dS [(4, .ptr 2 1 0), (5, .int .i64 0)] [(0, .gone 1), (1, .gone 1), (2, .box 1 (qza.cells r3))] ?_ ?_
  ·simp [qz9d, -Int.pred_toNat]
   (repeat' apply And.intro) <;> try first | omega | (simp at * <;> omega)
   refine (jzj a0  _ h2).cd (by simp [-Int.pred_toNat]) ?_
   (try simp [-Int.pred_toNat])
   (repeat' apply And.intro) <;> try first | omega | (simp at * <;> omega)
   refine (qzf8 (fun a0 => wz4 r2 a0) b1 102 1 [.agg (qzf.cells r2)] (by simp [jzc]) (fun a0 r h => ⟨by kernel_rfl, (qzd3 r2 a0  r h).w (by simp [fnArgs])⟩) _ h3).cd (by simp [-Int.pred_toNat]) ?_
   (try simp [-Int.pred_toNat])
   all_goals exact zq2
  have hr := h.some
  subst hr
  refine AW.rt (rs := rs76) [(4, .ptr 2 1 0), (5, .int .i64 0)] [(0, .gone 1), (1, .gone 1), (2, .box 1 (qza.cells r3))] (by simp) (by simp) rfl rfl (by simp [rs76]) (by simp [rs76]; try rfl)
abbrev qzaq (l0 : List qzb) (s : Int) (ex : Nat) : List (Nat × AVal) := match s, ex with | t16, ep0 => [(0, slcV 8 qzb.cells l0), (14, slcV 8 qzb.cells l0), (15, .int .i64 (List.length l0 : Int)), (16, .int .i64 t16)]
abbrev qzao (l0 : List qzb) (s : Int) (ex : Nat) : List (Nat × AObj) := match s, ex with | t16, ep0 => [(0, .gone ep0)]
abbrev qzgp (l0 : List qzb) : Unit ⊕ Int → Exit → ASt → Prop := fun o ex S' => match o with | .inl () => ∃ ep0 : Nat, ex = .exit 0 ∧ See EE S' ⟨tl [] 66, hl [(0, .gone ep0)], []⟩ | .inr o => ex = .ret ∧ Post EE rs16 (fun x _ => x = .int .i64 o) .ret S'
theorem qzl7 (l0 : List qzb) (t16 : Int) (ep0 : Nat) (QQ : Int ⊕ (Unit ⊕ Int) → Prop) (h : Ok (yzv l0 t16) QQ) : AW EE none Tryz.prog (wzbl 0) (fun ex S' => (∃ s' e', ex = .normal ∧ QQ (.inl s') ∧ See EE S' ⟨tl ((qzaq l0) s' e') 66, hl ((qzao l0) s' e'), []⟩) ∨ (∃ o, QQ (.inr o) ∧ ex ≠ .normal ∧ (qzgp l0) o ex S')) ⟨tl [(0, slcV 8 qzb.cells l0), (14, slcV 8 qzb.cells l0), (15, .int .i64 (List.length l0 : Int)), (16, .int .i64 t16)] 66, hl [(0, .gone ep0)], []⟩ := by
 unfold yzv at h
 refine AW.rS [(0, slcV 8 qzb.cells l0), (14, slcV 8 qzb.cells l0), (15, .int .i64 (List.length l0 : Int)), (16, .int .i64 t16), (17, .bool (decide (t16 < (List.length l0 : Int))))] [(0, .gone ep0)] ?_ ?_
 ·simp [wzaj, -Int.pred_toNat]
  all_goals exact zq1
 refine .seq ?_
 refine AW.ifF (decide (t16 < (List.length l0 : Int))) rfl (by simp) (fun e => ?_) (fun e => ?_)
 ·replace h := h.pos e
  refine AW.skip ?_
  refine .seq ?_
  refine .block ?_
  obtain ⟨x1, h1, h⟩ := h.at
  refine AW.rS [(0, slcV 8 qzb.cells l0), (4, .int .i64 t16), (5, .ptr 0 (ep0 + 1) 0), (14, slcV 8 qzb.cells l0), (15, .int .i64 (List.length l0 : Int)), (16, .int .i64 t16)] [(0, .box (ep0 + 1) [.int .i64 x1.State, .int .i64 x1.Weight, .bool x1.Floor.Neg, .str x1.Floor.Num, .str x1.Floor.Den, .bool x1.Cap.Neg, .str x1.Cap.Num, .str x1.Cap.Den])] ?_ ?_
  ·obtain ⟨f1a, f1b, f1c⟩ := h1
   have f1d : qzd qzb.cells l0 (Int.toNat t16) = qzb.cells x1 := qzo f1c
   have f1e : Int.toNat t16 < List.length l0 := by omega
   simp [wza4, -Int.pred_toNat, f1a, f1b, f1d, f1e]
   (repeat' apply And.intro) <;> first | omega | (simp at * <;> omega) | (intro _; intros; simp_all; done) | exact .mk (by simp [-Int.pred_toNat, f1a, f1b, f1d, f1e]) (by simp [-Int.pred_toNat, f1a, f1b, f1d, f1e]) rfl
  refine .block ?_
  refine AW.rS [(0, slcV 8 qzb.cells l0), (4, .int .i64 t16), (5, .ptr 0 (ep0 + 1) 0), (14, slcV 8 qzb.cells l0), (15, .int .i64 (List.length l0 : Int)), (16, .int .i64 t16), (21, .bool (bif (bif (bif (decide (x1.State < 0)) then true else (decide (8 ≤ x1.State))) then true else (decide (x1.Weight < 1))) then true else (decide (1000000 < x1.Weight))))] [(0, .box (ep0 + 1) [.int .i64 x1.State, .int .i64 x1.Weight, .bool x1.Floor.Neg, .str x1.Floor.Num, .str x1.Floor.Den, .bool x1.Cap.Neg, .str x1.Cap.Num, .str x1.Cap.Den])] ?_ ?_
  ·simp [qz53, -Int.pred_toNat]
   all_goals exact zq1
  refine AW.ifF (bif (bif (bif (decide (x1.State < 0)) then true else (decide (8 ≤ x1.State))) then true else (decide (x1.Weight < 1))) then true else (decide (1000000 < x1.Weight))) rfl (by simp) (fun e => ?_) (fun e => ?_)
  ·replace h := h.pos e
   refine AW.rS [(2, .int .i64 3)] [(0, .gone (ep0 + 1))] ?_ ?_
   ·simp [qz9h, -Int.pred_toNat]
    all_goals exact zq1
   exact .ret (.inr ⟨.inr 3, h.some, by simp, rfl, .wk (rs := rs16) [(2, .int .i64 3)] [(0, .gone (ep0 + 1))] (by simp) (by simp) rfl (by simp [rs16]) (by simp [rs16]; try rfl)⟩)
  ·replace h := h.neg e
   obtain ⟨r1, h2, h⟩ := h.ex
   obtain ⟨r2, h3, h⟩ := h.ex
   obtain ⟨r3, h4, h⟩ := h.ex
   refine AW.rS [(0, slcV 8 qzb.cells l0), (4, .int .i64 t16), (5, .ptr 0 (ep0 + 1) 0), (14, slcV 8 qzb.cells l0), (15, .int .i64 (List.length l0 : Int)), (16, .int .i64 t16), (40, .bool (bif (bif (!r1) then true else (!r2)) then true else (decide (0 < r3))))] [(0, .box (ep0 + 1) [.int .i64 x1.State, .int .i64 x1.Weight, .bool x1.Floor.Neg, .str x1.Floor.Num, .str x1.Floor.Den, .bool x1.Cap.Neg, .str x1.Cap.Num, .str x1.Cap.Den])] ?_ ?_
   ·simp [qz5h, -Int.pred_toNat]
    (repeat' apply And.intro) <;> try first | omega | (simp at * <;> omega)
    refine (qzcg x1.Floor  _ h2).ca (by simp [-Int.pred_toNat]) ?_
    (try simp [-Int.pred_toNat])
    (repeat' apply And.intro) <;> try first | omega | (simp at * <;> omega)
    refine jzo.pure _ (by simp [-Int.pred_toNat]) (fun e => (qzcg x1.Cap  _ (gd_t (by first | (exfalso; simp at e; done) | simpa using e | simp_all) h3)).w (by first | (simp [-Int.pred_toNat]; done) | (exfalso; simp at e; done) | (simp_all; done))) ?_
    (try simp [-Int.pred_toNat])
    (repeat' apply And.intro) <;> try first | omega | (simp at * <;> omega)
    refine jzo.pure _ (by simp [-Int.pred_toNat]) (fun e => (jze x1.Floor x1.Cap  _ (gd_t (by first | (exfalso; simp at e; done) | simpa using e | simp_all) h4)).w (by first | (simp [-Int.pred_toNat]; done) | (exfalso; simp at e; done) | (simp_all; done))) ?_
    (try simp [-Int.pred_toNat])
    all_goals exact zq1
   refine AW.ifF (bif (bif (!r1) then true else (!r2)) then true else (decide (0 < r3))) rfl (by simp) (fun e => ?_) (fun e => ?_)
   ·replace h := h.pos e
    refine AW.rS [(2, .int .i64 1)] [(0, .gone (ep0 + 1))] ?_ ?_
    ·simp [qzy7, -Int.pred_toNat]
     all_goals exact zq1
    exact .ret (.inr ⟨.inr 1, h.some, by simp, rfl, .wk (rs := rs16) [(2, .int .i64 1)] [(0, .gone (ep0 + 1))] (by simp) (by simp) rfl (by simp [rs16]) (by simp [rs16]; try rfl)⟩)
   ·replace h := h.neg e
    refine AW.frz 0 [(0, slcV 8 qzb.cells l0), (4, .int .i64 t16), (5, .cptr (fun k => [.int .i64 x1.State, .int .i64 x1.Weight, .bool x1.Floor.Neg, .str x1.Floor.Num, .str x1.Floor.Den, .bool x1.Cap.Neg, .str x1.Cap.Num, .str x1.Cap.Den].getD k .top) 8 0), (14, slcV 8 qzb.cells l0), (15, .int .i64 (List.length l0 : Int)), (16, .int .i64 t16), (40, .bool (bif (bif (!r1) then true else (!r2)) then true else (decide (0 < r3))))] [(0, .gone (ep0 + 2))] rfl rfl trivial (by simp) (by simp) rfl ?_
    obtain ⟨h5, h⟩ := h.ck
    obtain ⟨r4, h6, h⟩ := h.ex
    refine AW.rS [(0, slcV 8 qzb.cells l0), (14, slcV 8 qzb.cells l0), (15, .int .i64 (List.length l0 : Int)), (16, .int .i64 t16), (59, .bool r4)] [(0, .gone (ep0 + 2))] ?_ ?_
    ·have f2s := vzn h5
     obtain ⟨f2a, f2b, f2c⟩ := vz4 h5
     simp [qzx6, -Int.pred_toNat, f2s, f2a, f2b, f2c]
     (repeat' apply And.intro) <;> try first | omega | (simp at * <;> omega)
     refine (qzir (sub l0 0 t16) (fun a0 => qzan a0 x1) 53 0 [.cptr (fun k => [.int .i64 x1.State, .int .i64 x1.Weight, .bool x1.Floor.Neg, .str x1.Floor.Num, .str x1.Floor.Den, .bool x1.Cap.Neg, .str x1.Cap.Num, .str x1.Cap.Den].getD k .top) 8 0] (by simp [jzc]) (fun a0 r h => ⟨by kernel_rfl, (qzmp  a0 x1 r h).w (by simp [fnArgs])⟩) _ h6).ca (by simp [-Int.pred_toNat, f2s, f2a, f2b, f2c] <;> first | (intro k hk; simpa using kzw (c := qzb.cells) h5 k (by omega))) ?_
     (try simp [-Int.pred_toNat, f2s, f2a, f2b, f2c])
     (repeat' apply And.intro) <;> first | omega | (simp at * <;> omega) | (intro _; intros; simp_all; done) | exact .mk (by simp [-Int.pred_toNat, f2s, f2a, f2b, f2c] <;> first | (intro k hk; simpa using kzw (c := qzb.cells) h5 k (by omega))) (by simp [-Int.pred_toNat, f2s, f2a, f2b, f2c] <;> first | (intro k hk; simpa using kzw (c := qzb.cells) h5 k (by omega))) rfl
    refine AW.ifF r4 rfl (by simp) (fun e => ?_) (fun e => ?_)
    ·replace h := h.pos e
     refine AW.rS [(2, .int .i64 9)] [(0, .gone (ep0 + 2))] ?_ ?_
     ·simp [qzza, -Int.pred_toNat]
      all_goals exact zq1
     exact .ret (.inr ⟨.inr 9, h.some, by simp, rfl, .wk (rs := rs16) [(2, .int .i64 9)] [(0, .gone (ep0 + 2))] (by simp) (by simp) rfl (by simp [rs16]) (by simp [rs16]; try rfl)⟩)
    ·replace h := h.neg e
     refine AW.skip ?_
     obtain ⟨h7, h⟩ := h.ck
     refine AW.rE [(0, slcV 8 qzb.cells l0), (14, slcV 8 qzb.cells l0), (15, .int .i64 (List.length l0 : Int)), (16, .int .i64 (t16 + 1))] [(0, .gone (ep0 + 2))] ?_ (fun S' hs1 => ?_)
     ·have f3 := qzr h7
      simp [qzxx, -Int.pred_toNat, f3]
      (repeat' apply And.intro) <;> first | omega | (simp at * <;> omega) | (intro _; intros; simp_all; done) | exact .mk (by simp [-Int.pred_toNat, f3]) (by simp [-Int.pred_toNat, f3]) rfl
     exact .inl ⟨(t16 + 1), (ep0 + 2), rfl, h.some, (hs1.trans (.wk (by simp [qzaq]) (by simp [qzao]) rfl))⟩
 ·replace h := h.neg e
  refine .exit ?_
  exact .inr ⟨.inl (), h.some, by simp, ⟨ep0, rfl, (.wk (by simp) (by simp) rfl)⟩⟩
theorem qzbp (l0 : List qzb)  (r : Int) (h : kz4 l0 = some r) : qzq EE Tryz.prog 16 [slcV 8 qzb.cells l0] (.int .i64 r) := by
 refine Pure.still ?_ hEE (by simp [-qzh, (fun l => qzj (st := 8) (c := qzb.cells) (l := l) qzb.noref)] <;> assumption) (by simp [-qzh, (fun l => qzj (st := 8) (c := qzb.cells) (l := l) qzb.noref)])
 obtain ⟨c, hb, hc⟩ := ck16
 replace h := Ok.of h; unfold kz4 at h
 refine Pure.ofs (fn := Tryz.f16) (n := 66) rfl hb cr16 (hc 0) rfl rfl (by simp) ?_
 refine AW.rS [(0, slcV 8 qzb.cells l0)] [] ?_ ?_
 ·simp [qz7h, -Int.pred_toNat]
  all_goals exact zq1
 refine .seq ?_
 refine AW.rS [(0, slcV 8 qzb.cells l0), (3, .int .i64 (List.length l0 : Int))] [] ?_ ?_
 ·simp [qz67, -Int.pred_toNat]
  all_goals exact zq1
 refine AW.rS [(0, slcV 8 qzb.cells l0), (13, .bool (bif (decide ((List.length l0 : Int) < 1)) then true else (decide (8 < (List.length l0 : Int)))))] [] ?_ ?_
 ·simp [wzat, -Int.pred_toNat]
  all_goals exact zq1
 refine AW.ifF (bif (decide ((List.length l0 : Int) < 1)) then true else (decide (8 < (List.length l0 : Int)))) rfl (by simp) (fun e => ?_) (fun e => ?_)
 ·replace h := h.pos e
  refine AW.rS [(2, .int .i64 2)] [] ?_ ?_
  ·simp [qz6h, -Int.pred_toNat]
   all_goals exact zq1
  have hr := h.some
  subst hr
  refine AW.rt (rs := rs16) [(2, .int .i64 2)] [] (by simp) (by simp) rfl rfl (by simp [rs16]) (by simp [rs16]; try rfl)
 ·replace h := h.neg e
  refine AW.skip ?_
  refine .seq ?_
  refine AW.rS [(0, slcV 8 qzb.cells l0), (14, slcV 8 qzb.cells l0), (15, .int .i64 (List.length l0 : Int)), (16, .int .i64 0)] [] ?_ ?_
  ·simp [qz7v, -Int.pred_toNat]
   all_goals exact zq1
  refine .block ?_
  refine AW.lpF (ε := Nat) 0 h.bd (qzaq l0) (qzao l0) (qzgp l0) (by simp [qzaq]) (by simp [qzao]) rfl ?_ ?_
  ·rintro t16 ep0 QQ h
   exact qzl7 l0 t16 ep0 QQ h
  ·intro o h ex S' hs
   rcases o with ⟨⟩ | o
   ·obtain ⟨ep0, rfl, hs⟩ := hs
    refine .see hs ?_
    refine AW.rS [(2, .int .i64 0)] [(0, .gone ep0)] ?_ ?_
    ·simp [qzz5, -Int.pred_toNat]
     all_goals exact zq1
    have hr := h.some
    subst hr
    refine AW.rt (rs := rs16) [(2, .int .i64 0)] [(0, .gone ep0)] (by simp) (by simp) rfl rfl (by simp [rs16]) (by simp [rs16]; try rfl)
   ·obtain ⟨rfl, hs⟩ := hs
    cases h.some
    exact hs
theorem qzmw (a0 : qza) (b1 : qza)  (r : qza) (h : qzeh a0 b1 = some r) : qzq EE Tryz.prog 22 [.agg (qza.cells a0), .agg (qza.cells b1)] (.agg (qza.cells r)) := by
 refine Pure.still ?_ hEE (by simp [-qzh, qza.cells] <;> assumption) (by simp [-qzh, qza.cells])
 obtain ⟨c, hb, hc⟩ := ck22
 replace h := Ok.of h; unfold qzeh at h
 refine Pure.ofs (fn := Tryz.f22) (n := 15) rfl hb cr22 (hc 0) rfl rfl (by simp) ?_
 refine AW.rS [(2, .ptr 0 1 0), (3, .ptr 1 1 0), (4, .ptr 2 1 0)] [(0, .box 1 [.bool a0.Neg, .str a0.Num, .str a0.Den]), (1, .box 1 [.bool b1.Neg, .str b1.Num, .str b1.Den]), (2, .box 1 [.bool false, .str [], .str []])] ?_ ?_
 ·simp [qz5t, -Int.pred_toNat]
  all_goals exact zq1
 refine .seq ?_
 obtain ⟨r1, h1, h⟩ := h.ex
 refine AW.rS [(2, .ptr 0 1 0), (3, .ptr 1 1 0), (4, .ptr 2 1 0), (8, .bool (decide (r1 ≤ 0)))] [(0, .box 1 [.bool a0.Neg, .str a0.Num, .str a0.Den]), (1, .box 1 [.bool b1.Neg, .str b1.Num, .str b1.Den]), (2, .box 1 [.bool false, .str [], .str []])] ?_ ?_
 ·simp [qz5n, -Int.pred_toNat]
  (repeat' apply And.intro) <;> try first | omega | (simp at * <;> omega)
  refine (jze a0 b1  _ h1).ca (by simp [-Int.pred_toNat]) ?_
  (try simp [-Int.pred_toNat])
  all_goals exact zq1
 refine AW.ifF (decide (r1 ≤ 0)) rfl (by simp) (fun e => ?_) (fun e => ?_)
 ·replace h := h.pos e
  obtain ⟨r2, h2, h⟩ := h.ex
  obtain ⟨r3, h3, h⟩ := h.ex
  refine AW.rS [(4, .ptr 2 1 0)] [(0, .gone 1), (1, .gone 1), (2, .box 1 (qza.cells r3))] ?_ ?_
  ·simp [qz4o, -Int.pred_toNat]
   (repeat' apply And.intro) <;> try first | omega | (simp at * <;> omega)
   refine (jzj a0  _ h2).ca (by simp [-Int.pred_toNat]) ?_
   (try simp [-Int.pred_toNat])
   (repeat' apply And.intro) <;> try first | omega | (simp at * <;> omega)
   refine (wzf r2  _ h3).ca (by simp [-Int.pred_toNat]) ?_
   (try simp [-Int.pred_toNat])
   all_goals exact zq1
  have hr := h.some
  subst hr
  refine AW.rt (rs := rs22) [(4, .ptr 2 1 0)] [(0, .gone 1), (1, .gone 1), (2, .box 1 (qza.cells r3))] (by simp) (by simp) rfl rfl (by simp [rs22]) (by simp [rs22]; try rfl)
 ·replace h := h.neg e
  refine AW.skip ?_
  obtain ⟨r4, h4, h⟩ := h.ex
  obtain ⟨r5, h5, h⟩ := h.ex
  refine AW.rS [(4, .ptr 2 1 0)] [(0, .gone 1), (1, .gone 1), (2, .box 1 (qza.cells r5))] ?_ ?_
  ·simp [qz9m, -Int.pred_toNat]
   (repeat' apply And.intro) <;> try first | omega | (simp at * <;> omega)
   refine (jzj b1  _ h4).ca (by simp [-Int.pred_toNat]) ?_
   (try simp [-Int.pred_toNat])
   (repeat' apply And.intro) <;> try first | omega | (simp at * <;> omega)
   refine (wzf r4  _ h5).ca (by simp [-Int.pred_toNat]) ?_
   (try simp [-Int.pred_toNat])
   all_goals exact zq1
  have hr := h.some
  subst hr
  refine AW.rt (rs := rs22) [(4, .ptr 2 1 0)] [(0, .gone 1), (1, .gone 1), (2, .box 1 (qza.cells r5))] (by simp) (by simp) rfl rfl (by simp [rs22]) (by simp [rs22]; try rfl)
theorem qzmn (a0 : qza) (b1 : qza)  (r : qza) (h : qzen a0 b1 = some r) : qzq EE Tryz.prog 23 [.agg (qza.cells a0), .agg (qza.cells b1)] (.agg (qza.cells r)) := by
 refine Pure.still ?_ hEE (by simp [-qzh, qza.cells] <;> assumption) (by simp [-qzh, qza.cells])
 obtain ⟨c, hb, hc⟩ := ck23
 replace h := Ok.of h; unfold qzen at h
 refine Pure.ofs (fn := Tryz.f23) (n := 15) rfl hb cr23 (hc 0) rfl rfl (by simp) ?_
 refine AW.rS [(2, .ptr 0 1 0), (3, .ptr 1 1 0), (4, .ptr 2 1 0)] [(0, .box 1 [.bool a0.Neg, .str a0.Num, .str a0.Den]), (1, .box 1 [.bool b1.Neg, .str b1.Num, .str b1.Den]), (2, .box 1 [.bool false, .str [], .str []])] ?_ ?_
 ·simp [qz6v, -Int.pred_toNat]
  all_goals exact zq1
 refine .seq ?_
 obtain ⟨r1, h1, h⟩ := h.ex
 refine AW.rS [(2, .ptr 0 1 0), (3, .ptr 1 1 0), (4, .ptr 2 1 0), (8, .bool (decide (0 ≤ r1)))] [(0, .box 1 [.bool a0.Neg, .str a0.Num, .str a0.Den]), (1, .box 1 [.bool b1.Neg, .str b1.Num, .str b1.Den]), (2, .box 1 [.bool false, .str [], .str []])] ?_ ?_
 ·simp [qz8p, -Int.pred_toNat]
  (repeat' apply And.intro) <;> try first | omega | (simp at * <;> omega)
  refine (jze a0 b1  _ h1).ca (by simp [-Int.pred_toNat]) ?_
  (try simp [-Int.pred_toNat])
  all_goals exact zq1
 refine AW.ifF (decide (0 ≤ r1)) rfl (by simp) (fun e => ?_) (fun e => ?_)
 ·replace h := h.pos e
  obtain ⟨r2, h2, h⟩ := h.ex
  obtain ⟨r3, h3, h⟩ := h.ex
  refine AW.rS [(4, .ptr 2 1 0)] [(0, .gone 1), (1, .gone 1), (2, .box 1 (qza.cells r3))] ?_ ?_
  ·simp [qz86, -Int.pred_toNat]
   (repeat' apply And.intro) <;> try first | omega | (simp at * <;> omega)
   refine (jzj a0  _ h2).ca (by simp [-Int.pred_toNat]) ?_
   (try simp [-Int.pred_toNat])
   (repeat' apply And.intro) <;> try first | omega | (simp at * <;> omega)
   refine (wzf r2  _ h3).ca (by simp [-Int.pred_toNat]) ?_
   (try simp [-Int.pred_toNat])
   all_goals exact zq1
  have hr := h.some
  subst hr
  refine AW.rt (rs := rs23) [(4, .ptr 2 1 0)] [(0, .gone 1), (1, .gone 1), (2, .box 1 (qza.cells r3))] (by simp) (by simp) rfl rfl (by simp [rs23]) (by simp [rs23]; try rfl)
 ·replace h := h.neg e
  refine AW.skip ?_
  obtain ⟨r4, h4, h⟩ := h.ex
  obtain ⟨r5, h5, h⟩ := h.ex
  refine AW.rS [(4, .ptr 2 1 0)] [(0, .gone 1), (1, .gone 1), (2, .box 1 (qza.cells r5))] ?_ ?_
  ·simp [qz8d, -Int.pred_toNat]
   (repeat' apply And.intro) <;> try first | omega | (simp at * <;> omega)
   refine (jzj b1  _ h4).ca (by simp [-Int.pred_toNat]) ?_
   (try simp [-Int.pred_toNat])
   (repeat' apply And.intro) <;> try first | omega | (simp at * <;> omega)
   refine (wzf r4  _ h5).ca (by simp [-Int.pred_toNat]) ?_
   (try simp [-Int.pred_toNat])
   all_goals exact zq1
  have hr := h.some
  subst hr
  refine AW.rt (rs := rs23) [(4, .ptr 2 1 0)] [(0, .gone 1), (1, .gone 1), (2, .box 1 (qza.cells r5))] (by simp) (by simp) rfl rfl (by simp [rs23]) (by simp [rs23]; try rfl)
theorem qzbg (l0 : List qza)  (r : qza) (h : vz7 l0 = some r) : qzq EE Tryz.prog 25 [slcV 3 qza.cells l0] (.agg (qza.cells r)) := by
 refine Pure.still ?_ hEE (by simp [-qzh, (fun l => qzj (st := 3) (c := qza.cells) (l := l) qza.noref), qza.cells] <;> assumption) (by simp [-qzh, (fun l => qzj (st := 3) (c := qza.cells) (l := l) qza.noref), qza.cells])
 obtain ⟨c, hb, hc⟩ := ck25
 replace h := Ok.of h; unfold vz7 at h
 refine Pure.ofs (fn := Tryz.f25) (n := 5) rfl hb cr25 (hc 0) rfl rfl (by simp) ?_
 refine AW.rS [(0, slcV 3 qza.cells l0), (2, .ptr 0 1 0)] [(0, .box 1 [.bool false, .str [], .str []])] ?_ ?_
 ·simp [wzan, -Int.pred_toNat]
  all_goals exact zq1
 obtain ⟨r1, h1, h⟩ := h.ex
 refine AW.rS [(2, .ptr 0 1 0)] [(0, .box 1 (qza.cells r1))] ?_ ?_
 ·simp [qz9e, -Int.pred_toNat]
  (repeat' apply And.intro) <;> try first | omega | (simp at * <;> omega)
  refine (qzqr l0  _ h1).ca (by simp [-Int.pred_toNat]) ?_
  (try simp [-Int.pred_toNat])
  all_goals exact zq1
 have hr := h.some
 subst hr
 refine AW.rt (rs := rs25) [(2, .ptr 0 1 0)] [(0, .box 1 (qza.cells r1))] (by simp) (by simp) rfl rfl (by simp [rs25]) (by simp [rs25]; try rfl)
theorem jzw (num0 : Int) (den1 : Int)  (r : qza) (h : jza num0 den1 = some r) : qzq EE Tryz.prog 31 [.int .i64 num0, .int .i64 den1] (.agg (qza.cells r)) := by
 refine Pure.still ?_ hEE (by simp [-qzh, qza.cells] <;> assumption) (by simp [-qzh, qza.cells])
 obtain ⟨c, hb, hc⟩ := ck31
 replace h := Ok.of h; unfold jza at h
 refine Pure.ofs (fn := Tryz.f31) (n := 14) rfl hb cr31 (hc 0) rfl rfl (by simp) ?_
 refine AW.rS [(0, .int .i64 num0), (1, .int .i64 den1), (4, .ptr 0 1 0)] [(0, .box 1 [.bool false, .str [], .str []])] ?_ ?_
 ·simp [wzcp, -Int.pred_toNat]
  all_goals exact zq1
 obtain ⟨r1, h1, h⟩ := h.ex
 refine AW.rS [(4, .ptr 0 1 0), (5, .ptr 1 1 0)] [(0, .box 1 [.bool false, .str [], .str []]), (1, .box 1 (qza.cells r1.1))] ?_ ?_
 ·simp [wzbb, -Int.pred_toNat]
  (repeat' apply And.intro) <;> try first | omega | (simp at * <;> omega)
  refine (qzr5 num0 den1  _ h1).ca (by simp [-Int.pred_toNat]) ?_
  (try simp [-Int.pred_toNat])
  all_goals exact zq1
 refine AW.rS [(4, .ptr 0 1 0)] [(0, .box 1 (qza.cells r1.1)), (1, .gone 1)] ?_ ?_
 ·simp [qz9g, -Int.pred_toNat]
  all_goals exact zq1
 have hr := h.some
 subst hr
 refine AW.rt (rs := rs31) [(4, .ptr 0 1 0)] [(0, .box 1 (qza.cells r1.1)), (1, .gone 1)] (by simp) (by simp) rfl rfl (by simp [rs31]) (by simp [rs31]; try rfl)
theorem qzec (l0 : List qzb) (a1 : qza)  (r : Int) (h : yzg l0 a1 = some r) : qzq EE Tryz.prog 33 [slcV 8 qzb.cells l0, .agg (qza.cells a1)] (.int .i64 r) := by
 refine Pure.still ?_ hEE (by simp [-qzh, (fun l => qzj (st := 8) (c := qzb.cells) (l := l) qzb.noref), qza.cells] <;> assumption) (by simp [-qzh, (fun l => qzj (st := 8) (c := qzb.cells) (l := l) qzb.noref), qza.cells])
 obtain ⟨c, hb, hc⟩ := ck33
 replace h := Ok.of h; unfold yzg at h
 refine Pure.ofs (fn := Tryz.f33) (n := 14) rfl hb cr33 (hc 0) rfl rfl (by simp) ?_
 refine AW.rS [(0, slcV 8 qzb.cells l0), (3, .ptr 0 1 0)] [(0, .box 1 [.bool a1.Neg, .str a1.Num, .str a1.Den])] ?_ ?_
 ·simp [qz6w, -Int.pred_toNat]
  all_goals exact zq1
 refine .seq ?_
 obtain ⟨r1, h1, h⟩ := h.ex
 refine AW.rS [(3, .ptr 0 1 0), (5, .int .i64 r1)] [(0, .box 1 [.bool a1.Neg, .str a1.Num, .str a1.Den])] ?_ ?_
 ·simp [qz4z, -Int.pred_toNat]
  (repeat' apply And.intro) <;> try first | omega | (simp at * <;> omega)
  refine (qzbp l0  _ h1).ca (by simp [-Int.pred_toNat]) ?_
  (try simp [-Int.pred_toNat])
  all_goals exact zq1
 refine AW.rS [(3, .ptr 0 1 0), (5, .int .i64 r1), (9, .bool (!decide (r1 = 0)))] [(0, .box 1 [.bool a1.Neg, .str a1.Num, .str a1.Den])] ?_ ?_
 ·simp [qz31, -Int.pred_toNat]
  all_goals exact zq1
 refine AW.ifF (!decide (r1 = 0)) rfl (by simp) (fun e => ?_) (fun e => ?_)
 ·replace h := h.pos e
  refine AW.rS [(4, .int .i64 r1)] [(0, .gone 1)] ?_ ?_
  ·simp [qz6u, -Int.pred_toNat]
   all_goals exact zq1
  have hr := h.some
  subst hr
  refine AW.rt (rs := rs33) [(4, .int .i64 r1)] [(0, .gone 1)] (by simp) (by simp) rfl rfl (by simp [rs33]) (by simp [rs33]; try rfl)
 ·replace h := h.neg e
  refine AW.skip ?_
  refine .seq ?_
  obtain ⟨r2, h2, h⟩ := h.ex
  refine AW.rS [(13, .bool (!r2))] [(0, .gone 1)] ?_ ?_
  ·simp [qz4c, -Int.pred_toNat]
   (repeat' apply And.intro) <;> try first | omega | (simp at * <;> omega)
   refine (qzcg a1  _ h2).ca (by simp [-Int.pred_toNat]) ?_
   (try simp [-Int.pred_toNat])
   all_goals exact zq1
  refine AW.ifF (!r2) rfl (by simp) (fun e => ?_) (fun e => ?_)
  ·replace h := h.pos e
   refine AW.rS [(4, .int .i64 1)] [(0, .gone 1)] ?_ ?_
   ·simp [wzcl, -Int.pred_toNat]
    all_goals exact zq1
   have hr := h.some
   subst hr
   refine AW.rt (rs := rs33) [(4, .int .i64 1)] [(0, .gone 1)] (by simp) (by simp) rfl rfl (by simp [rs33]) (by simp [rs33]; try rfl)
  ·replace h := h.neg e
   refine AW.skip ?_
   refine AW.rS [(4, .int .i64 0)] [(0, .gone 1)] ?_ ?_
   ·simp [qz5c, -Int.pred_toNat]
    all_goals exact zq1
   have hr := h.some
   subst hr
   refine AW.rt (rs := rs33) [(4, .int .i64 0)] [(0, .gone 1)] (by simp) (by simp) rfl rfl (by simp [rs33]) (by simp [rs33]; try rfl)
theorem qzam (x0 : qz6) (s1 : qzb)  (r : qza) (h : wza x0 s1 = some r) : qzq EE Tryz.prog 35 [.agg (qz6.cells x0), .agg (qzb.cells s1)] (.agg (qza.cells r)) := by
 refine Pure.still ?_ hEE (by simp [-qzh, qz6.cells, qzb.cells, qza.cells] <;> assumption) (by simp [-qzh, qz6.cells, qzb.cells, qza.cells])
 obtain ⟨c, hb, hc⟩ := ck35
 replace h := Ok.of h; unfold wza at h
 refine Pure.ofs (fn := Tryz.f35) (n := 17) rfl hb cr35 (hc 0) rfl rfl (by simp) ?_
 refine AW.rS [(2, .ptr 0 1 0), (3, .ptr 1 1 0), (4, .ptr 2 1 0)] [(0, .box 1 [.bool x0.level.Neg, .str x0.level.Num, .str x0.level.Den]), (1, .box 1 [.int .i64 s1.State, .int .i64 s1.Weight, .bool s1.Floor.Neg, .str s1.Floor.Num, .str s1.Floor.Den, .bool s1.Cap.Neg, .str s1.Cap.Num, .str s1.Cap.Den]), (2, .box 1 [.bool false, .str [], .str []])] ?_ ?_
 ·simp [qz8h, -Int.pred_toNat]
  all_goals exact zq1
 obtain ⟨r1, h1, h⟩ := h.ex
 obtain ⟨r2, h2, h⟩ := h.ex
 obtain ⟨r3, h3, h⟩ := h.ex
 obtain ⟨r4, h4, h⟩ := h.ex
 refine AW.dS [(4, .ptr 2 1 0)] [(0, .gone 1), (1, .gone 1), (2, .box 1 (qza.cells r4))] ?_ ?_
 ·simp [qz6q, -Int.pred_toNat]
  (repeat' apply And.intro) <;> try first | omega | (simp at * <;> omega)
  refine (qzv s1.Weight  _ h1).cd (by simp [-Int.pred_toNat]) ?_
  (try simp [-Int.pred_toNat])
  (repeat' apply And.intro) <;> try first | omega | (simp at * <;> omega)
  refine (qzic x0.level r1  _ h2).cd (by simp [-Int.pred_toNat]) ?_
  (try simp [-Int.pred_toNat])
  (repeat' apply And.intro) <;> try first | omega | (simp at * <;> omega)
  refine (qzmn r2 s1.Floor  _ h3).cd (by simp [-Int.pred_toNat]) ?_
  (try simp [-Int.pred_toNat])
  (repeat' apply And.intro) <;> try first | omega | (simp at * <;> omega)
  refine (qzmw r3 s1.Cap  _ h4).cd (by simp [-Int.pred_toNat]) ?_
  (try simp [-Int.pred_toNat])
  all_goals exact zq2
 have hr := h.some
 subst hr
 refine AW.rt (rs := rs35) [(4, .ptr 2 1 0)] [(0, .gone 1), (1, .gone 1), (2, .box 1 (qza.cells r4))] (by simp) (by simp) rfl rfl (by simp [rs35]) (by simp [rs35]; try rfl)
theorem qzdd (l0 : List qzb)  (r : qza) (h : jzn l0 = some r) : qzq EE Tryz.prog 36 [slcV 8 qzb.cells l0] (.agg (qza.cells r)) := by
 refine Pure.still ?_ hEE (by simp [-qzh, (fun l => qzj (st := 8) (c := qzb.cells) (l := l) qzb.noref), qza.cells] <;> assumption) (by simp [-qzh, (fun l => qzj (st := 8) (c := qzb.cells) (l := l) qzb.noref), qza.cells])
 obtain ⟨c, hb, hc⟩ := ck36
 replace h := Ok.of h; unfold jzn at h
 refine Pure.ofs (fn := Tryz.f36) (n := 6) rfl hb cr36 (hc 0) rfl rfl (by simp) ?_
 refine AW.rS [(0, slcV 8 qzb.cells l0), (2, .ptr 0 1 0)] [(0, .box 1 [.bool false, .str [], .str []])] ?_ ?_
 ·simp [qz8l, -Int.pred_toNat]
  all_goals exact zq1
 obtain ⟨r1, h1, h⟩ := h.ex
 obtain ⟨r2, h2, h⟩ := h.ex
 refine AW.rS [(2, .ptr 0 1 0)] [(0, .box 1 (qza.cells r2))] ?_ ?_
 ·simp [qz71, -Int.pred_toNat]
  (repeat' apply And.intro) <;> try first | omega | (simp at * <;> omega)
  refine (wzc l0 (fun a0 => jzx a0) 72 0 [] (by simp [jzc]) (fun a0 r h => ⟨by kernel_rfl, (qzhh  a0  r h).w (by simp [fnArgs])⟩) _ h1).ca (by simp [-Int.pred_toNat]) ?_
  (try simp [-Int.pred_toNat])
  (repeat' apply And.intro) <;> try first | omega | (simp at * <;> omega)
  refine (qzbg r1  _ h2).ca (by simp [-Int.pred_toNat]) ?_
  (try simp [-Int.pred_toNat])
  all_goals exact zq1
 have hr := h.some
 subst hr
 refine AW.rt (rs := rs36) [(2, .ptr 0 1 0)] [(0, .box 1 (qza.cells r2))] (by simp) (by simp) rfl rfl (by simp [rs36]) (by simp [rs36]; try rfl)
theorem qzhe (l0 : List qzb)  (r : qza) (h : jz1 l0 = some r) : qzq EE Tryz.prog 38 [slcV 8 qzb.cells l0] (.agg (qza.cells r)) := by
 refine Pure.still ?_ hEE (by simp [-qzh, (fun l => qzj (st := 8) (c := qzb.cells) (l := l) qzb.noref), qza.cells] <;> assumption) (by simp [-qzh, (fun l => qzj (st := 8) (c := qzb.cells) (l := l) qzb.noref), qza.cells])
 obtain ⟨c, hb, hc⟩ := ck38
 replace h := Ok.of h; unfold jz1 at h
 refine Pure.ofs (fn := Tryz.f38) (n := 6) rfl hb cr38 (hc 0) rfl rfl (by simp) ?_
 refine AW.rS [(0, slcV 8 qzb.cells l0), (2, .ptr 0 1 0)] [(0, .box 1 [.bool false, .str [], .str []])] ?_ ?_
 ·simp [wzae, -Int.pred_toNat]
  all_goals exact zq1
 obtain ⟨r1, h1, h⟩ := h.ex
 obtain ⟨r2, h2, h⟩ := h.ex
 refine AW.rS [(2, .ptr 0 1 0)] [(0, .box 1 (qza.cells r2))] ?_ ?_
 ·simp [qz7e, -Int.pred_toNat]
  (repeat' apply And.intro) <;> try first | omega | (simp at * <;> omega)
  refine (wzc l0 (fun a0 => jzb a0) 75 0 [] (by simp [jzc]) (fun a0 r h => ⟨by kernel_rfl, (qzgj  a0  r h).w (by simp [fnArgs])⟩) _ h1).ca (by simp [-Int.pred_toNat]) ?_
  (try simp [-Int.pred_toNat])
  (repeat' apply And.intro) <;> try first | omega | (simp at * <;> omega)
  refine (qzbg r1  _ h2).ca (by simp [-Int.pred_toNat]) ?_
  (try simp [-Int.pred_toNat])
  all_goals exact zq1
 have hr := h.some
 subst hr
 refine AW.rt (rs := rs38) [(2, .ptr 0 1 0)] [(0, .box 1 (qza.cells r2))] (by simp) (by simp) rfl rfl (by simp [rs38]) (by simp [rs38]; try rfl)
theorem kza (a0 : qza) (b1 : qza)  (r : qza) (h : wzs a0 b1 = some r) : qzq EE Tryz.prog 39 [.agg (qza.cells a0), .agg (qza.cells b1)] (.agg (qza.cells r)) := by
 refine Pure.still ?_ hEE (by simp [-qzh, qza.cells] <;> assumption) (by simp [-qzh, qza.cells])
 obtain ⟨c, hb, hc⟩ := ck39
 replace h := Ok.of h; unfold wzs at h
 refine Pure.ofs (fn := Tryz.f39) (n := 14) rfl hb cr39 (hc 0) rfl rfl (by simp) ?_
 refine AW.rS [(2, .ptr 0 1 0), (3, .ptr 1 1 0), (4, .ptr 2 1 0)] [(0, .box 1 [.bool a0.Neg, .str a0.Num, .str a0.Den]), (1, .box 1 [.bool b1.Neg, .str b1.Num, .str b1.Den]), (2, .box 1 [.bool false, .str [], .str []])] ?_ ?_
 ·simp [qz6f, -Int.pred_toNat]
  all_goals exact zq1
 obtain ⟨r1, h1, h⟩ := h.ex
 refine AW.rS [(4, .ptr 2 1 0), (5, .ptr 3 1 0)] [(0, .gone 1), (1, .gone 1), (2, .box 1 [.bool false, .str [], .str []]), (3, .box 1 (qza.cells r1.1))] ?_ ?_
 ·simp [qz8u, -Int.pred_toNat]
  (repeat' apply And.intro) <;> try first | omega | (simp at * <;> omega)
  refine (qzt1 a0 b1  _ h1).ca (by simp [-Int.pred_toNat]) ?_
  (try simp [-Int.pred_toNat])
  all_goals exact zq1
 refine AW.rS [(4, .ptr 2 1 0)] [(0, .gone 1), (1, .gone 1), (2, .box 1 (qza.cells r1.1)), (3, .gone 1)] ?_ ?_
 ·simp [wza2, -Int.pred_toNat]
  all_goals exact zq1
 have hr := h.some
 subst hr
 refine AW.rt (rs := rs39) [(4, .ptr 2 1 0)] [(0, .gone 1), (1, .gone 1), (2, .box 1 (qza.cells r1.1)), (3, .gone 1)] (by simp) (by simp) rfl rfl (by simp [rs39]) (by simp [rs39]; try rfl)
theorem qzr4 (l0 : List qzb) (level1 : qza)  (r : (List qza) × Int) (h : qzk4 l0 level1 = some r) : qzq EE Tryz.prog 10 [slcV 8 qzb.cells l0, .agg (qza.cells level1)] (.tup [slcV 3 qza.cells r.1, .int .i64 r.2]) := by
 refine Pure.still ?_ hEE (by simp [-qzh, (fun l => qzj (st := 8) (c := qzb.cells) (l := l) qzb.noref), (fun l => qzj (st := 3) (c := qza.cells) (l := l) qza.noref), qza.cells] <;> assumption) (by simp [-qzh, (fun l => qzj (st := 8) (c := qzb.cells) (l := l) qzb.noref), (fun l => qzj (st := 3) (c := qza.cells) (l := l) qza.noref), qza.cells])
 obtain ⟨c, hb, hc⟩ := ck10
 replace h := Ok.of h; unfold qzk4 at h
 refine Pure.ofs (fn := Tryz.f10) (n := 18) rfl hb cr10 (hc 0) rfl rfl (by simp) ?_
 refine AW.rS [(0, slcV 8 qzb.cells l0), (3, .ptr 0 1 0)] [(0, .box 1 [.bool level1.Neg, .str level1.Num, .str level1.Den])] ?_ ?_
 ·simp [wzcq, -Int.pred_toNat]
  all_goals exact zq1
 refine .seq ?_
 obtain ⟨r1, h1, h⟩ := h.ex
 refine AW.rS [(0, slcV 8 qzb.cells l0), (3, .ptr 0 1 0), (6, .int .i64 r1)] [(0, .box 1 [.bool level1.Neg, .str level1.Num, .str level1.Den])] ?_ ?_
 ·simp [wzbr, -Int.pred_toNat]
  (repeat' apply And.intro) <;> try first | omega | (simp at * <;> omega)
  refine (qzec l0 level1  _ h1).ca (by simp [-Int.pred_toNat]) ?_
  (try simp [-Int.pred_toNat])
  all_goals exact zq1
 refine AW.rS [(0, slcV 8 qzb.cells l0), (3, .ptr 0 1 0), (6, .int .i64 r1), (11, .bool (!decide (r1 = 0)))] [(0, .box 1 [.bool level1.Neg, .str level1.Num, .str level1.Den])] ?_ ?_
 ·simp [qz6z, -Int.pred_toNat]
  all_goals exact zq1
 refine AW.ifF (!decide (r1 = 0)) rfl (by simp) (fun e => ?_) (fun e => ?_)
 ·replace h := h.pos e
  refine AW.rS [(4, .nils), (5, .int .i64 r1)] [(0, .gone 1)] ?_ ?_
  ·simp [wza1, -Int.pred_toNat]
   all_goals exact zq1
  have hr := h.some
  subst hr
  refine AW.rt (rs := rs10) [(4, slcV 3 qza.cells []), (5, .int .i64 r1)] [(0, .gone 1)] (by simp) (by simp) rfl rfl (by simp [rs10]) (by simp [rs10]; try rfl)
 ·replace h := h.neg e
  refine AW.skip ?_
  obtain ⟨r2, h2, h⟩ := h.ex
  refine AW.rS [(4, slcV 3 qza.cells r2), (5, .int .i64 0)] [(0, .gone 1)] ?_ ?_
  ·simp [qz7o, -Int.pred_toNat]
   (repeat' apply And.intro) <;> try first | omega | (simp at * <;> omega)
   refine (wzc l0 (fun a0 => wza (qz6.mk level1) a0) 35 1 [.agg [.bool level1.Neg, .str level1.Num, .str level1.Den]] (by simp [jzc]) (fun a0 r h => ⟨by kernel_rfl, (qzam (qz6.mk level1) a0  r h).w (by simp [fnArgs])⟩) _ h2).ca (by simp [-Int.pred_toNat]) ?_
   (try simp [-Int.pred_toNat])
   all_goals exact zq1
  have hr := h.some
  subst hr
  refine AW.rt (rs := rs10) [(4, slcV 3 qza.cells r2), (5, .int .i64 0)] [(0, .gone 1)] (by simp) (by simp) rfl rfl (by simp [rs10]) (by simp [rs10]; try rfl)
abbrev jz3 (flow1 : qza) (l0 : List qzb) (r4 : List qza) (ep2 : Nat) (ep3 : Nat) (ep4 : Nat) (ep5 : Nat) (s : Int × qza) (ex : Nat × Nat × Nat) : List (Nat × AVal) := match s, ex with | (t39, b6), (ep7, ep8, ep9) => [(0, slcV 8 qzb.cells l0), (3, .ptr 0 1 0), (4, .ptr 1 1 0), (9, .ptr 6 1 0), (37, slcV 3 qza.cells r4), (38, .int .i64 (List.length r4 : Int)), (39, .int .i64 t39)]
abbrev jz4 (flow1 : qza) (l0 : List qzb) (r4 : List qza) (ep2 : Nat) (ep3 : Nat) (ep4 : Nat) (ep5 : Nat) (s : Int × qza) (ex : Nat × Nat × Nat) : List (Nat × AObj) := match s, ex with | (t39, b6), (ep7, ep8, ep9) => [(0, .box 1 [.bool flow1.Neg, .str flow1.Num, .str flow1.Den]), (1, .box 1 [.bool false, .str [], .str []]), (2, .gone ep2), (3, .gone ep3), (4, .gone ep4), (5, .gone (ep5 + 1)), (6, .box 1 (qza.cells b6)), (7, .gone ep7), (8, .gone ep8), (9, .gone ep9)]
abbrev qzb8 (flow1 : qza) (l0 : List qzb) (r4 : List qza) (ep2 : Nat) (ep3 : Nat) (ep4 : Nat) (ep5 : Nat) : qza ⊕ qza → Exit → ASt → Prop := fun o ex S' => match o with | .inl b6 => ∃ ep7 : Nat, ∃ ep8 : Nat, ∃ ep9 : Nat, ex = .exit 2 ∧ See EE S' ⟨tl [(4, .ptr 1 1 0), (9, .ptr 6 1 0)] 79, hl [(0, .box 1 [.bool flow1.Neg, .str flow1.Num, .str flow1.Den]), (1, .box 1 [.bool false, .str [], .str []]), (2, .gone ep2), (3, .gone ep3), (4, .gone ep4), (5, .gone (ep5 + 1)), (6, .box 1 (qza.cells b6)), (7, .gone ep7), (8, .gone ep8), (9, .gone ep9)], []⟩ | .inr o => ex = .ret ∧ Post EE rs37 (fun x _ => x = .agg (qza.cells o)) .ret S'
theorem qzg7 (flow1 : qza) (l0 : List qzb) (r4 : List qza) (ep2 : Nat) (ep3 : Nat) (ep4 : Nat) (ep5 : Nat) (t39 : Int) (b6 : qza) (ep7 : Nat) (ep8 : Nat) (ep9 : Nat) (QQ : (Int × qza) ⊕ (qza ⊕ qza) → Prop) (h : Ok (jzd flow1 l0 r4 (t39, b6)) QQ) : AW EE none Tryz.prog (wzbp 0) (fun ex S' => (∃ s' e', ex = .normal ∧ QQ (.inl s') ∧ See EE S' ⟨tl ((jz3 flow1 l0 r4 ep2 ep3 ep4 ep5) s' e') 79, hl ((jz4 flow1 l0 r4 ep2 ep3 ep4 ep5) s' e'), []⟩) ∨ (∃ o, QQ (.inr o) ∧ ex ≠ .normal ∧ (qzb8 flow1 l0 r4 ep2 ep3 ep4 ep5) o ex S')) ⟨tl [(0, slcV 8 qzb.cells l0), (3, .ptr 0 1 0), (4, .ptr 1 1 0), (9, .ptr 6 1 0), (37, slcV 3 qza.cells r4), (38, .int .i64 (List.length r4 : Int)), (39, .int .i64 t39)] 79, hl [(0, .box 1 [.bool flow1.Neg, .str flow1.Num, .str flow1.Den]), (1, .box 1 [.bool false, .str [], .str []]), (2, .gone ep2), (3, .gone ep3), (4, .gone ep4), (5, .gone (ep5 + 1)), (6, .box 1 (qza.cells b6)), (7, .gone ep7), (8, .gone ep8), (9, .gone ep9)], []⟩ := by
 unfold jzd at h
 refine AW.rS [(0, slcV 8 qzb.cells l0), (3, .ptr 0 1 0), (4, .ptr 1 1 0), (9, .ptr 6 1 0), (37, slcV 3 qza.cells r4), (38, .int .i64 (List.length r4 : Int)), (39, .int .i64 t39), (40, .bool (decide (t39 < (List.length r4 : Int))))] [(0, .box 1 [.bool flow1.Neg, .str flow1.Num, .str flow1.Den]), (1, .box 1 [.bool false, .str [], .str []]), (2, .gone ep2), (3, .gone ep3), (4, .gone ep4), (5, .gone (ep5 + 1)), (6, .box 1 (qza.cells b6)), (7, .gone ep7), (8, .gone ep8), (9, .gone ep9)] ?_ ?_
 ·simp [qz2f, -Int.pred_toNat]
  all_goals exact zq1
 refine .seq ?_
 refine AW.ifF (decide (t39 < (List.length r4 : Int))) rfl (by simp) (fun e => ?_) (fun e => ?_)
 ·replace h := h.pos e
  refine AW.skip ?_
  refine .seq ?_
  refine .block ?_
  obtain ⟨x2, h9, h⟩ := h.at
  refine AW.rS [(0, slcV 8 qzb.cells l0), (3, .ptr 0 1 0), (4, .ptr 1 1 0), (9, .ptr 6 1 0), (11, .ptr 7 (ep7 + 1) 0), (37, slcV 3 qza.cells r4), (38, .int .i64 (List.length r4 : Int)), (39, .int .i64 t39)] [(0, .box 1 [.bool flow1.Neg, .str flow1.Num, .str flow1.Den]), (1, .box 1 [.bool false, .str [], .str []]), (2, .gone ep2), (3, .gone ep3), (4, .gone ep4), (5, .gone (ep5 + 1)), (6, .box 1 (qza.cells b6)), (7, .box (ep7 + 1) [.bool x2.Neg, .str x2.Num, .str x2.Den]), (8, .gone ep8), (9, .gone ep9)] ?_ ?_
  ·obtain ⟨f4a, f4b, f4c⟩ := h9
   have f4d : qzd qza.cells r4 (Int.toNat t39) = qza.cells x2 := qzo f4c
   have f4e : Int.toNat t39 < List.length r4 := by omega
   simp [qz2b, -Int.pred_toNat, f4a, f4b, f4d, f4e]
   (repeat' apply And.intro) <;> first | omega | (simp at * <;> omega) | (intro _; intros; simp_all; done) | exact .mk (by simp [-Int.pred_toNat, f4a, f4b, f4d, f4e]) (by simp [-Int.pred_toNat, f4a, f4b, f4d, f4e]) rfl
  obtain ⟨r5, h10, h⟩ := h.ex
  obtain ⟨r6, h11, h⟩ := h.ex
  obtain ⟨r7, h12, h⟩ := h.ex
  obtain ⟨r8, h13, h⟩ := h.ex
  refine AW.dS [(0, slcV 8 qzb.cells l0), (3, .ptr 0 1 0), (4, .ptr 1 1 0), (9, .ptr 6 1 0), (11, .ptr 7 (ep7 + 1) 0), (12, .ptr 8 (ep8 + 1) 0), (13, .ptr 9 (ep9 + 1) 0), (37, slcV 3 qza.cells r4), (38, .int .i64 (List.length r4 : Int)), (39, .int .i64 t39)] [(0, .box 1 [.bool flow1.Neg, .str flow1.Num, .str flow1.Den]), (1, .box 1 [.bool false, .str [], .str []]), (2, .gone ep2), (3, .gone ep3), (4, .gone ep4), (5, .gone (ep5 + 1)), (6, .box 1 (qza.cells b6)), (7, .box (ep7 + 1) [.bool x2.Neg, .str x2.Num, .str x2.Den]), (8, .box (ep8 + 1) (qza.cells r6)), (9, .box (ep9 + 1) (qza.cells r8))] ?_ ?_
  ·simp [qz12, -Int.pred_toNat]
   (repeat' apply And.intro) <;> try first | omega | (simp at * <;> omega)
   refine (wzc l0 (fun a0 => wza (qz6.mk b6) a0) 35 1 [.agg [.bool b6.Neg, .str b6.Num, .str b6.Den]] (by simp [jzc]) (fun a0 r h => ⟨by kernel_rfl, (qzam (qz6.mk b6) a0  r h).w (by simp [fnArgs])⟩) _ h10).cd (by simp [-Int.pred_toNat]) ?_
   (try simp [-Int.pred_toNat])
   (repeat' apply And.intro) <;> try first | omega | (simp at * <;> omega)
   refine (qzbg r5  _ h11).cd (by simp [-Int.pred_toNat]) ?_
   (try simp [-Int.pred_toNat])
   (repeat' apply And.intro) <;> try first | omega | (simp at * <;> omega)
   refine (wzc l0 (fun a0 => wza (qz6.mk x2) a0) 35 1 [.agg [.bool x2.Neg, .str x2.Num, .str x2.Den]] (by simp [jzc]) (fun a0 r h => ⟨by kernel_rfl, (qzam (qz6.mk x2) a0  r h).w (by simp [fnArgs])⟩) _ h12).cd (by simp [-Int.pred_toNat]) ?_
   (try simp [-Int.pred_toNat])
   (repeat' apply And.intro) <;> try first | omega | (simp at * <;> omega)
   refine (qzbg r7  _ h13).cd (by simp [-Int.pred_toNat]) ?_
   (try simp [-Int.pred_toNat])
   all_goals exact zq2
  refine .seq ?_
  obtain ⟨r9, h14, h⟩ := h.ex
  refine AW.rS [(0, slcV 8 qzb.cells l0), (3, .ptr 0 1 0), (4, .ptr 1 1 0), (9, .ptr 6 1 0), (11, .ptr 7 (ep7 + 1) 0), (12, .ptr 8 (ep8 + 1) 0), (13, .ptr 9 (ep9 + 1) 0), (37, slcV 3 qza.cells r4), (38, .int .i64 (List.length r4 : Int)), (39, .int .i64 t39), (58, .bool (decide (r9 ≤ 0)))] [(0, .box 1 [.bool flow1.Neg, .str flow1.Num, .str flow1.Den]), (1, .box 1 [.bool false, .str [], .str []]), (2, .gone ep2), (3, .gone ep3), (4, .gone ep4), (5, .gone (ep5 + 1)), (6, .box 1 (qza.cells b6)), (7, .box (ep7 + 1) [.bool x2.Neg, .str x2.Num, .str x2.Den]), (8, .box (ep8 + 1) (qza.cells r6)), (9, .box (ep9 + 1) (qza.cells r8))] ?_ ?_
  ·simp [qzyf, -Int.pred_toNat]
   (repeat' apply And.intro) <;> try first | omega | (simp at * <;> omega)
   refine (jze flow1 r6  _ h14).ca (by simp [-Int.pred_toNat]) ?_
   (try simp [-Int.pred_toNat])
   all_goals exact zq1
  refine AW.ifF (decide (r9 ≤ 0)) rfl (by simp) (fun e => ?_) (fun e => ?_)
  ·replace h := h.pos e
   refine .exit ?_
   exact .inr ⟨.inl b6, h.some, by simp, ⟨(ep7 + 1), (ep8 + 1), (ep9 + 1), rfl, (.wk (by simp) (by simp) rfl)⟩⟩
  ·replace h := h.neg e
   refine AW.skip ?_
   refine .seq ?_
   obtain ⟨r10, h15, h⟩ := h.ex
   refine AW.rS [(0, slcV 8 qzb.cells l0), (3, .ptr 0 1 0), (4, .ptr 1 1 0), (9, .ptr 6 1 0), (11, .ptr 7 (ep7 + 1) 0), (12, .ptr 8 (ep8 + 1) 0), (13, .ptr 9 (ep9 + 1) 0), (37, slcV 3 qza.cells r4), (38, .int .i64 (List.length r4 : Int)), (39, .int .i64 t39), (62, .bool (decide (r10 ≤ 0)))] [(0, .box 1 [.bool flow1.Neg, .str flow1.Num, .str flow1.Den]), (1, .box 1 [.bool false, .str [], .str []]), (2, .gone ep2), (3, .gone ep3), (4, .gone ep4), (5, .gone (ep5 + 1)), (6, .box 1 (qza.cells b6)), (7, .box (ep7 + 1) [.bool x2.Neg, .str x2.Num, .str x2.Den]), (8, .box (ep8 + 1) (qza.cells r6)), (9, .box (ep9 + 1) (qza.cells r8))] ?_ ?_
   ·simp [qz0r, -Int.pred_toNat]
    (repeat' apply And.intro) <;> try first | omega | (simp at * <;> omega)
    refine (jze flow1 r8  _ h15).ca (by simp [-Int.pred_toNat]) ?_
    (try simp [-Int.pred_toNat])
    all_goals exact zq1
   refine AW.ifF (decide (r10 ≤ 0)) rfl (by simp) (fun e => ?_) (fun e => ?_)
   ·replace h := h.pos e
    obtain ⟨r11, h16, h⟩ := h.ex
    obtain ⟨r12, h17, h⟩ := h.ex
    obtain ⟨r13, h18, h⟩ := h.ex
    obtain ⟨r14, h19, h⟩ := h.ex
    obtain ⟨r15, h20, h⟩ := h.ex
    obtain ⟨r16, h21, h⟩ := h.ex
    refine AW.dS [(4, .ptr 1 1 0)] [(0, .gone 1), (1, .box 1 (qza.cells r16)), (2, .gone ep2), (3, .gone ep3), (4, .gone ep4), (5, .gone (ep5 + 1)), (6, .gone 1), (7, .gone (ep7 + 1)), (8, .gone (ep8 + 1)), (9, .gone (ep9 + 1))] ?_ ?_
    ·simp [qz2k, -Int.pred_toNat]
     (repeat' apply And.intro) <;> try first | omega | (simp at * <;> omega)
     refine (qze9 flow1 r6  _ h16).cd (by simp [-Int.pred_toNat]) ?_
     (try simp [-Int.pred_toNat])
     (repeat' apply And.intro) <;> try first | omega | (simp at * <;> omega)
     refine (qze9 r8 r6  _ h17).cd (by simp [-Int.pred_toNat]) ?_
     (try simp [-Int.pred_toNat])
     (repeat' apply And.intro) <;> try first | omega | (simp at * <;> omega)
     refine (kza r11 r12  _ h18).cd (by simp [-Int.pred_toNat]) ?_
     (try simp [-Int.pred_toNat])
     (repeat' apply And.intro) <;> try first | omega | (simp at * <;> omega)
     refine (qze9 x2 b6  _ h19).cd (by simp [-Int.pred_toNat]) ?_
     (try simp [-Int.pred_toNat])
     (repeat' apply And.intro) <;> try first | omega | (simp at * <;> omega)
     refine (qzic r13 r14  _ h20).cd (by simp [-Int.pred_toNat]) ?_
     (try simp [-Int.pred_toNat])
     (repeat' apply And.intro) <;> try first | omega | (simp at * <;> omega)
     refine (qzev b6 r15  _ h21).cd (by simp [-Int.pred_toNat]) ?_
     (try simp [-Int.pred_toNat])
     all_goals exact zq2
    exact .ret (.inr ⟨.inr r16, h.some, by simp, rfl, .wk (rs := rs37) [(4, .ptr 1 1 0)] [(0, .gone 1), (1, .box 1 (qza.cells r16)), (2, .gone ep2), (3, .gone ep3), (4, .gone ep4), (5, .gone (ep5 + 1)), (6, .gone 1), (7, .gone (ep7 + 1)), (8, .gone (ep8 + 1)), (9, .gone (ep9 + 1))] (by simp) (by simp) rfl (by simp [rs37]) (by simp [rs37]; try rfl)⟩)
   ·replace h := h.neg e
    refine AW.skip ?_
    refine AW.rE [(0, slcV 8 qzb.cells l0), (3, .ptr 0 1 0), (4, .ptr 1 1 0), (9, .ptr 6 1 0), (37, slcV 3 qza.cells r4), (38, .int .i64 (List.length r4 : Int)), (39, .int .i64 t39)] [(0, .box 1 [.bool flow1.Neg, .str flow1.Num, .str flow1.Den]), (1, .box 1 [.bool false, .str [], .str []]), (2, .gone ep2), (3, .gone ep3), (4, .gone ep4), (5, .gone (ep5 + 1)), (6, .box 1 [.bool x2.Neg, .str x2.Num, .str x2.Den]), (7, .gone (ep7 + 1)), (8, .gone (ep8 + 1)), (9, .gone (ep9 + 1))] ?_ (fun S' hs3 => ?_)
    ·simp [qzyp, -Int.pred_toNat]
     all_goals exact zq1
    refine .see hs3 ?_
    obtain ⟨h22, h⟩ := h.ck
    refine AW.rE [(0, slcV 8 qzb.cells l0), (3, .ptr 0 1 0), (4, .ptr 1 1 0), (9, .ptr 6 1 0), (37, slcV 3 qza.cells r4), (38, .int .i64 (List.length r4 : Int)), (39, .int .i64 (t39 + 1))] [(0, .box 1 [.bool flow1.Neg, .str flow1.Num, .str flow1.Den]), (1, .box 1 [.bool false, .str [], .str []]), (2, .gone ep2), (3, .gone ep3), (4, .gone ep4), (5, .gone (ep5 + 1)), (6, .box 1 [.bool x2.Neg, .str x2.Num, .str x2.Den]), (7, .gone (ep7 + 1)), (8, .gone (ep8 + 1)), (9, .gone (ep9 + 1))] ?_ (fun S' hs4 => ?_)
    ·have f5 := qzr h22
     simp [qz2r, -Int.pred_toNat, f5]
     (repeat' apply And.intro) <;> first | omega | (simp at * <;> omega) | (intro _; intros; simp_all; done) | exact .mk (by simp [-Int.pred_toNat, f5]) (by simp [-Int.pred_toNat, f5]) rfl
    exact .inl ⟨((t39 + 1), x2), ((ep7 + 1), (ep8 + 1), (ep9 + 1)), rfl, h.some, (hs4.trans (.wk (by simp [jz3]) (by simp [jz4]) rfl))⟩
 ·replace h := h.neg e
  refine .exit ?_
  exact .inr ⟨.inl b6, h.some, by simp, ⟨ep7, ep8, ep9, rfl, (.wk (by simp) (by simp) rfl)⟩⟩
abbrev jz6 (flow1 : qza) (l0 : List qzb) (s : Int × (List qza)) (ex : Nat × Nat × Nat × Nat) : List (Nat × AVal) := match s, ex with | (t16, l5), (ep2, ep3, ep4, ep5) => [(0, slcV 8 qzb.cells l0), (3, .ptr 0 1 0), (4, .ptr 1 1 0), (5, ownV 5 ep5 l5), (14, slcV 8 qzb.cells l0), (15, .int .i64 (List.length l0 : Int)), (16, .int .i64 t16)]
abbrev jz5 (flow1 : qza) (l0 : List qzb) (s : Int × (List qza)) (ex : Nat × Nat × Nat × Nat) : List (Nat × AObj) := match s, ex with | (t16, l5), (ep2, ep3, ep4, ep5) => [(0, .box 1 [.bool flow1.Neg, .str flow1.Num, .str flow1.Den]), (1, .box 1 [.bool false, .str [], .str []]), (2, .gone ep2), (3, .gone ep3), (4, .gone ep4), (5, ownO ep5 3 qza.cells l5)]
abbrev qzb6 (flow1 : qza) (l0 : List qzb) : (List qza) → Exit → ASt → Prop := fun o ex S' => match o with | l5 => ∃ ep2 : Nat, ∃ ep3 : Nat, ∃ ep4 : Nat, ∃ ep5 : Nat, ex = .exit 0 ∧ See EE S' ⟨tl [(0, slcV 8 qzb.cells l0), (3, .ptr 0 1 0), (4, .ptr 1 1 0), (5, ownV 5 ep5 l5)] 79, hl [(0, .box 1 [.bool flow1.Neg, .str flow1.Num, .str flow1.Den]), (1, .box 1 [.bool false, .str [], .str []]), (2, .gone ep2), (3, .gone ep3), (4, .gone ep4), (5, ownO ep5 3 qza.cells l5)], []⟩
theorem qzg2 (flow1 : qza) (l0 : List qzb) (t16 : Int) (l5 : List qza) (ep2 : Nat) (ep3 : Nat) (ep4 : Nat) (ep5 : Nat) (QQ : (Int × (List qza)) ⊕ (List qza) → Prop) (h : Ok (jzf l0 (t16, l5)) QQ) : AW EE none Tryz.prog (qz4n 0) (fun ex S' => (∃ s' e', ex = .normal ∧ QQ (.inl s') ∧ See EE S' ⟨tl ((jz6 flow1 l0) s' e') 79, hl ((jz5 flow1 l0) s' e'), []⟩) ∨ (∃ o, QQ (.inr o) ∧ ex ≠ .normal ∧ (qzb6 flow1 l0) o ex S')) ⟨tl [(0, slcV 8 qzb.cells l0), (3, .ptr 0 1 0), (4, .ptr 1 1 0), (5, ownV 5 ep5 l5), (14, slcV 8 qzb.cells l0), (15, .int .i64 (List.length l0 : Int)), (16, .int .i64 t16)] 79, hl [(0, .box 1 [.bool flow1.Neg, .str flow1.Num, .str flow1.Den]), (1, .box 1 [.bool false, .str [], .str []]), (2, .gone ep2), (3, .gone ep3), (4, .gone ep4), (5, ownO ep5 3 qza.cells l5)], []⟩ := by
 unfold jzf at h
 refine AW.rS [(0, slcV 8 qzb.cells l0), (3, .ptr 0 1 0), (4, .ptr 1 1 0), (5, ownV 5 ep5 l5), (14, slcV 8 qzb.cells l0), (15, .int .i64 (List.length l0 : Int)), (16, .int .i64 t16), (17, .bool (decide (t16 < (List.length l0 : Int))))] [(0, .box 1 [.bool flow1.Neg, .str flow1.Num, .str flow1.Den]), (1, .box 1 [.bool false, .str [], .str []]), (2, .gone ep2), (3, .gone ep3), (4, .gone ep4), (5, ownO ep5 3 qza.cells l5)] ?_ ?_
 ·simp [qz8r, -Int.pred_toNat]
  all_goals exact zq1
 refine .seq ?_
 refine AW.ifF (decide (t16 < (List.length l0 : Int))) rfl (by simp) (fun e => ?_) (fun e => ?_)
 ·replace h := h.pos e
  refine AW.skip ?_
  refine .seq ?_
  refine .block ?_
  obtain ⟨x1, h1, h⟩ := h.at
  refine AW.rS [(0, slcV 8 qzb.cells l0), (3, .ptr 0 1 0), (4, .ptr 1 1 0), (5, ownV 5 ep5 l5), (7, .ptr 2 (ep2 + 1) 0), (14, slcV 8 qzb.cells l0), (15, .int .i64 (List.length l0 : Int)), (16, .int .i64 t16)] [(0, .box 1 [.bool flow1.Neg, .str flow1.Num, .str flow1.Den]), (1, .box 1 [.bool false, .str [], .str []]), (2, .box (ep2 + 1) [.int .i64 x1.State, .int .i64 x1.Weight, .bool x1.Floor.Neg, .str x1.Floor.Num, .str x1.Floor.Den, .bool x1.Cap.Neg, .str x1.Cap.Num, .str x1.Cap.Den]), (3, .gone ep3), (4, .gone ep4), (5, ownO ep5 3 qza.cells l5)] ?_ ?_
  ·obtain ⟨f1a, f1b, f1c⟩ := h1
   have f1d : qzd qzb.cells l0 (Int.toNat t16) = qzb.cells x1 := qzo f1c
   have f1e : Int.toNat t16 < List.length l0 := by omega
   simp [qz34, -Int.pred_toNat, f1a, f1b, f1d, f1e]
   (repeat' apply And.intro) <;> first | omega | (simp at * <;> omega) | (intro _; intros; simp_all; done) | exact .mk (by simp [-Int.pred_toNat, f1a, f1b, f1d, f1e]) (by simp [-Int.pred_toNat, f1a, f1b, f1d, f1e]) rfl
  obtain ⟨r1, h2, h⟩ := h.ex
  refine AW.rS [(0, slcV 8 qzb.cells l0), (3, .ptr 0 1 0), (4, .ptr 1 1 0), (5, ownV 5 ep5 l5), (7, .ptr 2 (ep2 + 1) 0), (8, .ptr 3 (ep3 + 1) 0), (14, slcV 8 qzb.cells l0), (15, .int .i64 (List.length l0 : Int)), (16, .int .i64 t16)] [(0, .box 1 [.bool flow1.Neg, .str flow1.Num, .str flow1.Den]), (1, .box 1 [.bool false, .str [], .str []]), (2, .box (ep2 + 1) [.int .i64 x1.State, .int .i64 x1.Weight, .bool x1.Floor.Neg, .str x1.Floor.Num, .str x1.Floor.Den, .bool x1.Cap.Neg, .str x1.Cap.Num, .str x1.Cap.Den]), (3, .box (ep3 + 1) (qza.cells r1)), (4, .gone ep4), (5, ownO ep5 3 qza.cells l5)] ?_ ?_
  ·simp [qz4j, -Int.pred_toNat]
   (repeat' apply And.intro) <;> try first | omega | (simp at * <;> omega)
   refine (qzv x1.Weight  _ h2).ca (by simp [-Int.pred_toNat]) ?_
   (try simp [-Int.pred_toNat])
   all_goals exact zq1
  obtain ⟨r2, h3, h⟩ := h.ex
  obtain ⟨r3, h4, h⟩ := h.ex
  obtain ⟨h5, h⟩ := h.ck
  refine AW.dE [(0, slcV 8 qzb.cells l0), (3, .ptr 0 1 0), (4, .ptr 1 1 0), (5, ownV 5 (ep5 + 1) (l5 ++ [r2, r3])), (14, slcV 8 qzb.cells l0), (15, .int .i64 (List.length l0 : Int)), (16, .int .i64 t16)] [(0, .box 1 [.bool flow1.Neg, .str flow1.Num, .str flow1.Den]), (1, .box 1 [.bool false, .str [], .str []]), (2, .gone (ep2 + 1)), (3, .gone (ep3 + 1)), (4, .gone (ep4 + 1)), (5, ownO (ep5 + 1) 3 qza.cells (l5 ++ [r2, r3]))] ?_ (fun S' hs1 => ?_)
  ·have f2 := h5
   have f2m := f2
   (try simp [-Int.pred_toNat] at f2m)
   rcases hl : l5 with _ | ⟨y, l⟩
   ·(try simp [hl] at f2)
    simp [qzwt, -Int.pred_toNat, f2, f2m, hl]
    (repeat' apply And.intro) <;> try first | omega | (simp at * <;> omega)
    refine (kza x1.Floor r1  _ h3).cd (by simp [-Int.pred_toNat, f2, f2m]) ?_
    (try simp [-Int.pred_toNat, f2, f2m, hl])
    (repeat' apply And.intro) <;> try first | omega | (simp at * <;> omega)
    refine (kza x1.Cap r1  _ h4).cd (by simp [-Int.pred_toNat, f2, f2m]) ?_
    (try simp [-Int.pred_toNat, f2, f2m, hl])
    (repeat' apply And.intro) <;> first | omega | (simp at * <;> omega) | kernel_rfl | (intro _; intros; simp_all; done) | exact .mk (by simp [-Int.pred_toNat, f2, f2m, hl]) (by simp [-Int.pred_toNat, f2, f2m, hl]) rfl
   ·(try simp [hl] at f2)
    simp [qzwt, -Int.pred_toNat, f2, f2m, hl]
    (repeat' apply And.intro) <;> try first | omega | (simp at * <;> omega)
    refine (kza x1.Floor r1  _ h3).cd (by simp [-Int.pred_toNat, f2, f2m]) ?_
    (try simp [-Int.pred_toNat, f2, f2m, hl])
    (repeat' apply And.intro) <;> try first | omega | (simp at * <;> omega)
    refine (kza x1.Cap r1  _ h4).cd (by simp [-Int.pred_toNat, f2, f2m]) ?_
    (try simp [-Int.pred_toNat, f2, f2m, hl])
    (repeat' apply And.intro) <;> first | omega | kernel_rfl | skip
    refine .mk (by simp [-Int.pred_toNat, f2, f2m, hl]) ?_ rfl
    simp [-Int.pred_toNat, f2, f2m, hl]
    intro k hk
    split <;> rename_i hk2
    ·rw [yz1 hk2]; exact .refl _
    ·rw [yze hk2]
     have hj : k - (l.length + 1) < 2 := by omega
     revert hj; generalize k - (l.length + 1) = j; revert j; simp
  refine .see hs1 ?_
  obtain ⟨h7, h⟩ := h.ck
  refine AW.rE [(0, slcV 8 qzb.cells l0), (3, .ptr 0 1 0), (4, .ptr 1 1 0), (5, ownV 5 (ep5 + 1) (l5 ++ [r2, r3])), (14, slcV 8 qzb.cells l0), (15, .int .i64 (List.length l0 : Int)), (16, .int .i64 (t16 + 1))] [(0, .box 1 [.bool flow1.Neg, .str flow1.Num, .str flow1.Den]), (1, .box 1 [.bool false, .str [], .str []]), (2, .gone (ep2 + 1)), (3, .gone (ep3 + 1)), (4, .gone (ep4 + 1)), (5, ownO (ep5 + 1) 3 qza.cells (l5 ++ [r2, r3]))] ?_ (fun S' hs2 => ?_)
  ·have f3 := qzr h7
   simp [qz40, -Int.pred_toNat, f3]
   (repeat' apply And.intro) <;> first | omega | (simp at * <;> omega) | (intro _; intros; simp_all; done) | exact .mk (by simp [-Int.pred_toNat, f3]) (by simp [-Int.pred_toNat, f3]) rfl
  exact .inl ⟨((t16 + 1), (l5 ++ [r2, r3])), ((ep2 + 1), (ep3 + 1), (ep4 + 1), (ep5 + 1)), rfl, h.some, (hs2.trans (.wk (by simp [jz6]) (by simp [jz5]) rfl))⟩
 ·replace h := h.neg e
  refine .exit ?_
  exact .inr ⟨l5, h.some, by simp, ⟨ep2, ep3, ep4, ep5, rfl, (.wk (by simp) (by simp) rfl)⟩⟩
theorem qzcp (l0 : List qzb) (flow1 : qza)  (r : qza) (h : wzq l0 flow1 = some r) : qzq EE Tryz.prog 37 [slcV 8 qzb.cells l0, .agg (qza.cells flow1)] (.agg (qza.cells r)) := by
 refine Pure.still ?_ hEE (by simp [-qzh, (fun l => qzj (st := 8) (c := qzb.cells) (l := l) qzb.noref), qza.cells] <;> assumption) (by simp [-qzh, (fun l => qzj (st := 8) (c := qzb.cells) (l := l) qzb.noref), qza.cells])
 obtain ⟨c, hb, hc⟩ := ck37
 replace h := Ok.of h; unfold wzq at h
 refine Pure.ofs (fn := Tryz.f37) (n := 79) rfl hb cr37 (hc 0) rfl rfl (by simp) ?_
 refine AW.rS [(0, slcV 8 qzb.cells l0), (3, .ptr 0 1 0), (4, .ptr 1 1 0)] [(0, .box 1 [.bool flow1.Neg, .str flow1.Num, .str flow1.Den]), (1, .box 1 [.bool false, .str [], .str []])] ?_ ?_
 ·simp [wzbj, -Int.pred_toNat]
  all_goals exact zq1
 refine AW.rS [(0, slcV 8 qzb.cells l0), (3, .ptr 0 1 0), (4, .ptr 1 1 0), (5, .nils)] [(0, .box 1 [.bool flow1.Neg, .str flow1.Num, .str flow1.Den]), (1, .box 1 [.bool false, .str [], .str []])] ?_ ?_
 ·simp [qz7m, -Int.pred_toNat]
  all_goals exact zq1
 refine .seq ?_
 refine AW.rS [(0, slcV 8 qzb.cells l0), (3, .ptr 0 1 0), (4, .ptr 1 1 0), (5, .nils), (14, slcV 8 qzb.cells l0), (15, .int .i64 (List.length l0 : Int)), (16, .int .i64 0)] [(0, .box 1 [.bool flow1.Neg, .str flow1.Num, .str flow1.Den]), (1, .box 1 [.bool false, .str [], .str []])] ?_ ?_
 ·simp [qz4m, -Int.pred_toNat]
  all_goals exact zq1
 refine .block ?_
 refine AW.lpF (ε := Nat × Nat × Nat × Nat) (0, 0, 0, 0) h.bd (jz6 flow1 l0) (jz5 flow1 l0) (qzb6 flow1 l0) (by simp [jz6]) (by simp [jz5]) rfl ?_ ?_
 ·rintro ⟨t16, l5⟩ ⟨ep2, ep3, ep4, ep5⟩ QQ h
  exact qzg2 flow1 l0 t16 l5 ep2 ep3 ep4 ep5 QQ h
 ·rintro l5 h ex S' hs
  obtain ⟨ep2, ep3, ep4, ep5, rfl, hs⟩ := hs
  refine .see hs ?_
  obtain ⟨r4, h8, h⟩ := h.ex
  refine AW.rS [(0, slcV 8 qzb.cells l0), (3, .ptr 0 1 0), (4, .ptr 1 1 0), (5, ownV 5 ep5 r4)] [(0, .box 1 [.bool flow1.Neg, .str flow1.Num, .str flow1.Den]), (1, .box 1 [.bool false, .str [], .str []]), (2, .gone ep2), (3, .gone ep3), (4, .gone ep4), (5, ownO ep5 3 qza.cells r4)] ?_ ?_
  ·simp [qz9z, -Int.pred_toNat]
   (repeat' apply And.intro) <;> try first | omega | (simp at * <;> omega)
   refine ATr.mono (qzkd 5 ep5 l5 _ h8 _ ?_) ?_
   ·simp [hl, qz8]
   rintro v h' ⟨rfl, rfl, hov⟩
   simp [-Int.pred_toNat, hov]
   all_goals exact zq1
  refine AW.rS [(0, slcV 8 qzb.cells l0), (3, .ptr 0 1 0), (4, .ptr 1 1 0), (5, ownV 5 ep5 r4), (9, .ptr 6 1 0)] [(0, .box 1 [.bool flow1.Neg, .str flow1.Num, .str flow1.Den]), (1, .box 1 [.bool false, .str [], .str []]), (2, .gone ep2), (3, .gone ep3), (4, .gone ep4), (5, ownO ep5 3 qza.cells r4), (6, .box 1 [.bool false, .str [], .str []])] ?_ ?_
  ·simp [qz7w, -Int.pred_toNat]
   all_goals exact zq1
  refine .seq ?_
  refine AW.frzO 5 ep5 3 qza.cells r4 [(0, slcV 8 qzb.cells l0), (3, .ptr 0 1 0), (4, .ptr 1 1 0), (5, slcV 3 qza.cells r4), (9, .ptr 6 1 0)] [(0, .box 1 [.bool flow1.Neg, .str flow1.Num, .str flow1.Den]), (1, .box 1 [.bool false, .str [], .str []]), (2, .gone ep2), (3, .gone ep3), (4, .gone ep4), (5, .gone (ep5 + 1)), (6, .box 1 [.bool false, .str [], .str []])] rfl (fun e => ⟨by simp [e], by simp [e], rfl⟩) (fun y k e o ho => ⟨by simp [e, ho], by simp [e, ho], rfl⟩) ?_
  refine AW.rS [(0, slcV 8 qzb.cells l0), (3, .ptr 0 1 0), (4, .ptr 1 1 0), (9, .ptr 6 1 0), (37, slcV 3 qza.cells r4), (38, .int .i64 (List.length r4 : Int)), (39, .int .i64 0)] [(0, .box 1 [.bool flow1.Neg, .str flow1.Num, .str flow1.Den]), (1, .box 1 [.bool false, .str [], .str []]), (2, .gone ep2), (3, .gone ep3), (4, .gone ep4), (5, .gone (ep5 + 1)), (6, .box 1 [.bool false, .str [], .str []])] ?_ ?_
  ·simp [qz03, -Int.pred_toNat]
   all_goals exact zq1
  refine .block ?_
  refine AW.lpF (ε := Nat × Nat × Nat) (0, 0, 0) h.bd (jz3 flow1 l0 r4 ep2 ep3 ep4 ep5) (jz4 flow1 l0 r4 ep2 ep3 ep4 ep5) (qzb8 flow1 l0 r4 ep2 ep3 ep4 ep5) (by simp [jz3]) (by simp [jz4]) rfl ?_ ?_
  ·rintro ⟨t39, b6⟩ ⟨ep7, ep8, ep9⟩ QQ h
   exact qzg7 flow1 l0 r4 ep2 ep3 ep4 ep5 t39 b6 ep7 ep8 ep9 QQ h
  ·intro o h ex S' hs
   rcases o with b6 | o
   ·obtain ⟨ep7, ep8, ep9, rfl, hs⟩ := hs
    refine .see hs ?_
    refine AW.rS [(4, .ptr 1 1 0)] [(0, .gone 1), (1, .box 1 (qza.cells b6)), (2, .gone ep2), (3, .gone ep3), (4, .gone ep4), (5, .gone (ep5 + 1)), (6, .gone 1), (7, .gone ep7), (8, .gone ep8), (9, .gone ep9)] ?_ ?_
    ·simp [qz2u, -Int.pred_toNat]
     all_goals exact zq1
    have hr := h.some
    subst hr
    refine AW.rt (rs := rs37) [(4, .ptr 1 1 0)] [(0, .gone 1), (1, .box 1 (qza.cells b6)), (2, .gone ep2), (3, .gone ep3), (4, .gone ep4), (5, .gone (ep5 + 1)), (6, .gone 1), (7, .gone ep7), (8, .gone ep8), (9, .gone ep9)] (by simp) (by simp) rfl rfl (by simp [rs37]) (by simp [rs37]; try rfl)
   ·obtain ⟨rfl, hs⟩ := hs
    cases h.some
    exact hs
end Go.Am

