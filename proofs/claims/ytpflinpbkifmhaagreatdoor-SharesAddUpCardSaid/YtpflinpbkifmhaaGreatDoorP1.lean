/- Part P1 of the proof that the last part closes: contracts of the functions of this seat. No condition. -/
import Derived.Test.YtpflinpbkifmhaaGreatDoorF1
import Derived.Test.YtpflinpbkifmhaaGreatDoorG1
import Derived.Test.YtpflinpbkifmhaaGreatDoorX1
import Derived.Test.YtpflinpbkifmhaaGreatDoorA5
import Derived.Test.YtpflinpbkifmhaaGreatDoorH1
set_option linter.unusedVariables false
set_option linter.unusedSimpArgs false
set_option maxRecDepth 100000
namespace Go.Am
open Go.Proofs
attribute [local simp] areg aop dreg dop AOp.req argv argU AOp.args wze AOp.unAll Req.val Req.when putT putH qzdb ablk qzfc qzbd qzg6 vzl qzcj qzif qzid qzh7 qzh1 qzhy qzko qzhz qzji qzim qzgg qznh qzj2 qzkg qzjx IntKind.bits vz1 ARes.ok ARes.val vz5 cut AOp.quiet
attribute [local simp] qzc0 qzbz qzcz qze2 qzer qzep kzp qz1 qzh2 qzij
attribute [local simp] qzm6 qzj7 qzhq qzih qzm4 look qz8 zipA wm wh
attribute [local simp] qzm7 qzpn qzpz qzmg qzpx qzmf qzpo qzqa qzpi qzqk qzpm w_fn qznc qzjs qzjh qzhs qzj1 qzmh qzmi AObj.ep AObj.plain AObj.owned
attribute [local simp] wz9 qzbw qzeu qzdp qzey qzd2 qze5 qzfk qze7 qzdi qzdk qzd0 qzgy qzcq qzg5 qzc6 qzfa vz6 lay jzv ldv wzu qz5 kz1 qz9 qzgh wzd AVal.kind
attribute [local simp] AVal.one_int AVal.one_bool AVal.one_str AVal.one_nils AVal.one_slc AVal.one_vec AVal.one_ptr AVal.one_eptr AVal.one_cptr AVal.one_nilp AVal.one_fn AVal.one_nilfn AVal.one_mp AVal.one_nilmp
attribute [local simp] qzkh qzkv qzh8 qzh4 qzkt qzjr qzii qzik qzjn qzkm qzjf qzjw qzkl qzje qzh6 qzhx qzin qzig qzh5 qzio qzm9 qzna qzgf qzgr qzmt qzmr qzgn qzgz qzj6 qzj9 qzjv qzka qzju qzki qzkr qzku
attribute [local simp] qzh cI cB cS cL qzc3 qzdh qzdz qzb7 qzg1 qzh0 qzgc qziq fzm fzh fzv fzl fz1 qzjm qzhw qzjp qzjl qzjk List.range_succ qzd5 qze0 qzfg qzco qzdq qzdu qzag qzdw qzd4
attribute [local simp] qzj0
attribute [local simp] qza.cells
attribute [local simp] qzb.cells
attribute [local simp] qze.cells
attribute [local simp] kzi.cells
attribute [local simp] qz6.cells
attribute [local simp] qzf.cells
attribute [local simp] jzi.cells
attribute [local simp] vzs.cells
attribute [local simp] vzu.cells
attribute [local simp] kzj.cells
attribute [local simp] jzh.cells
attribute [local simp] jzk.cells
set_option maxHeartbeats 4000000
attribute [local simp] qzcs qzdm fnArgs
def EE : Nat → AVal := fun _ => .top
theorem hEE : ∀ i, qzt (EE i) := fun _ => .top
theorem zq1 {p : Prop} (h : p := by (repeat' apply And.intro) <;> first | omega | (simp at * <;> omega) | (intro _; intros; simp_all; done) | exact .mk (by simp [-Int.pred_toNat]) (by simp [-Int.pred_toNat]) rfl) : p := h
theorem zq2 {p : Prop} (h : p := by (repeat' apply And.intro) <;> first | omega | (simp at * <;> omega) | kernel_rfl | (intro _; intros; simp_all; done) | exact .mk (by simp [-Int.pred_toNat]) (by simp [-Int.pred_toNat]) rfl) : p := h
theorem qzk8 (id ep : Nat) (l r : List Int) (h : yzz l = some r) (H : qzl) (hid : H id = ownO ep 1 (cI .u8) l) : ATr EE Tryz.prog 119 [ownV id ep l] H (fun v h' => v = .tup [] ∧ h' = hset H id (ownO ep 1 (cI .u8) r) ∧ ownV id ep l = ownV id ep r) := by
 unfold yzz at h
 cases hx : decide (List.length l ≤ 4611686018427387904)
 ·rw [hx] at h; cases h
 rw [hx] at h
 have hr : r = l.reverse := (Option.some.inj h).symm
 subst hr
 simp only [decide_eq_true_eq] at hx
 have main := wzcu (E := EE) Tryz.laysE35 (fun n => .int .u8 n) (Value.int .u8) (fun _ => rfl) (fun g w x v hv => by cases hv; rfl) (fun g w x => .int _ _) (H := H) (id := id) (ep := ep) (l := l) hid (by omega)
 exact main.mono fun v h' ⟨a, b⟩ => ⟨a, b, qzvh (by simp)⟩
theorem qzcu (b : Nat) (l r : List Int) (h : vzi l = some r) (X : AVal) (H : qzl) (hp : (H b).plain) (hs : qzaz 1 (cI .u32) l X H b) : ATr EE Tryz.prog 116 [X] H (fun v h' => ∃ f', v = .vec b ((H b).ep + 2) 0 (List.length r) ∧ h' = hset H b (.vec ((H b).ep + 2) 1 (List.length r) f') ∧ ∀ k, k < List.length r → Ws (f' k) (qzd (cI .u32) r k)) := by
 obtain ⟨c, hb, hc⟩ := wzf8
 have hh : r = l ∧ 0 < List.length l ∧ List.length l * 4 ≤ 140737488355328 := by
  unfold vzi at h
  cases hx : (decide (0 < List.length l) && decide (List.length l * 4 ≤ 140737488355328))
  ·rw [hx] at h; cases h
  ·rw [hx] at h; simp only [Bool.and_eq_true, decide_eq_true_eq] at hx; cases h; exact ⟨rfl, hx⟩
 obtain ⟨rfl, hn, hby⟩ := hh
 refine ATr.of (fn := Tryz.f116) rfl hb wzfv (hc b) 7 rfl ?_
 refine AW.sr (by simp [qzz0, List.replicate]; rfl) ?_
 rcases hs with ⟨f, rfl, hf⟩ | ⟨id, ep, lo, m, f, rfl, hid, hlo, hne, hf⟩
 ·refine .seq ?_
  refine AW.sr (by simp [qzsp, hn]; rfl) ?_
  refine AW.if' false (by simp) (fun e => by cases e) (fun _ => AW.skip ?_)
  refine AW.sr (by simp [qzso, -AObj.plain, -AObj.ep, hset, hp, qz5, jzv, vz6, kz1, wzu, hby]; first | rfl | exact ⟨rfl, rfl⟩ | exact ⟨hp, rfl, rfl⟩) ?_
  refine .ret (Post.here (by simp [qzpj]) rfl ⟨f, by simp [qzpj], ?_, hf⟩)
  funext j
  simp only [hset]
  by_cases hj : j = b <;> simp [hj]
 ·refine .seq ?_
  refine AW.sr (by simp [qzsp, hid]; rfl) ?_
  refine AW.if' false (by simp) (fun e => by cases e) (fun _ => AW.skip ?_)
  refine AW.sr (by simp [qzso, -AObj.plain, -AObj.ep, hset, hp, qz5, jzv, vz6, kz1, wzu, hby, hid, hne, hlo]; first | rfl | exact ⟨rfl, rfl⟩ | exact ⟨hp, rfl, rfl⟩) ?_
  refine .ret (Post.here (by simp [qzpj]) rfl ⟨fun k => f (lo + k), by simp [qzpj], ?_, hf⟩)
  funext j
  simp only [hset]
  by_cases hj : j = b <;> simp [hj]
abbrev qza7 (a0 : List qza) (b1 : List qza) (s : Int) (ex : Unit) : List (Nat × AVal) := match s, ex with | k5, () => [(0, slcV 3 qza.cells a0), (1, slcV 3 qza.cells b1), (5, .int .i64 k5)]
abbrev qza5 (a0 : List qza) (b1 : List qza) (s : Int) (ex : Unit) : List (Nat × AObj) := match s, ex with | k5, () => []
abbrev qzhd (a0 : List qza) (b1 : List qza) : Unit ⊕ Bool → Exit → ASt → Prop := fun o ex S' => match o with | .inl () => ex = .exit 0 ∧ See EE S' ⟨tl [] 26, hl [], []⟩ | .inr o => ex = .ret ∧ Post EE rs18 (fun x _ => x = .bool o) .ret S'
theorem qzng (a0 : List qza) (b1 : List qza) (k5 : Int) (QQ : Int ⊕ (Unit ⊕ Bool) → Prop) (h : Ok (qze3 a0 b1 k5) QQ) : AW EE none Tryz.prog (qz7a 0) (fun ex S' => (∃ s' e', ex = .normal ∧ QQ (.inl s') ∧ See EE S' ⟨tl ((qza7 a0 b1) s' e') 26, hl ((qza5 a0 b1) s' e'), []⟩) ∨ (∃ o, QQ (.inr o) ∧ ex ≠ .normal ∧ (qzhd a0 b1) o ex S')) ⟨tl [(0, slcV 3 qza.cells a0), (1, slcV 3 qza.cells b1), (5, .int .i64 k5)] 26, hl [], []⟩ := by
 unfold qze3 at h
 refine .seq ?_
 refine AW.rS [(0, slcV 3 qza.cells a0), (1, slcV 3 qza.cells b1), (5, .int .i64 k5), (14, .bool (decide (k5 < (List.length a0 : Int))))] [] ?_ ?_
 ·simp [qz6i, -Int.pred_toNat]
  all_goals exact zq1
 refine AW.ifF (decide (k5 < (List.length a0 : Int))) rfl (by simp) (fun e => ?_) (fun e => ?_)
 ·replace h := h.pos e
  refine AW.skip ?_
  refine .seq ?_
  refine .block ?_
  obtain ⟨x1, h1, h⟩ := h.at
  obtain ⟨x2, h2, h⟩ := h.at
  refine AW.dS [(0, slcV 3 qza.cells a0), (1, slcV 3 qza.cells b1), (5, .int .i64 k5), (25, .bool (!((x1.Neg == x2.Neg) && (decide (x1.Num = x2.Num) && (decide (x1.Den = x2.Den) && true)))))] [] ?_ ?_
  ·obtain ⟨f1a, f1b, f1c⟩ := h1
   have f1d : qzd qza.cells a0 (Int.toNat k5) = qza.cells x1 := qzo f1c
   have f1e : Int.toNat k5 < List.length a0 := by omega
   obtain ⟨f2a, f2b, f2c⟩ := h2
   have f2d : qzd qza.cells b1 (Int.toNat k5) = qza.cells x2 := qzo f2c
   have f2e : Int.toNat k5 < List.length b1 := by omega
   simp [qz4a, -Int.pred_toNat, f1a, f1b, f1d, f1e, f2a, f2b, f2d, f2e]
   (repeat' apply And.intro) <;> first | omega | (simp at * <;> omega) | kernel_rfl | (intro _; intros; simp_all; done) | exact .mk (by simp [-Int.pred_toNat, f1a, f1b, f1d, f1e, f2a, f2b, f2d, f2e]) (by simp [-Int.pred_toNat, f1a, f1b, f1d, f1e, f2a, f2b, f2d, f2e]) rfl
  refine AW.ifF (!((x1.Neg == x2.Neg) && (decide (x1.Num = x2.Num) && (decide (x1.Den = x2.Den) && true)))) rfl (by simp) (fun e => ?_) (fun e => ?_)
  ·replace h := h.pos e
   refine AW.rS [(4, .bool false)] [] ?_ ?_
   ·simp [qz5z, -Int.pred_toNat]
    all_goals exact zq1
   exact .ret (.inr ⟨.inr false, h.some, by simp, rfl, .wk (rs := rs18) [(4, .bool false)] [] (by simp) (by simp) rfl (by simp [rs18]) (by simp [rs18]; try rfl)⟩)
  ·replace h := h.neg e
   refine AW.skip ?_
   obtain ⟨h3, h⟩ := h.ck
   refine AW.rE [(0, slcV 3 qza.cells a0), (1, slcV 3 qza.cells b1), (5, .int .i64 (k5 + 1))] [] ?_ (fun S' hs1 => ?_)
   ·have f3 := qzr h3
    simp [wzb2, -Int.pred_toNat, f3]
    (repeat' apply And.intro) <;> first | omega | (simp at * <;> omega) | (intro _; intros; simp_all; done) | exact .mk (by simp [-Int.pred_toNat, f3]) (by simp [-Int.pred_toNat, f3]) rfl
   exact .inl ⟨(k5 + 1), (), rfl, h.some, (hs1.trans (.wk (by simp [qza7]) (by simp [qza5]) rfl))⟩
 ·replace h := h.neg e
  refine .exit ?_
  exact .inr ⟨.inl (), h.some, by simp, ⟨rfl, (.wk (by simp) (by simp) rfl)⟩⟩
theorem qzar (a0 : List qza) (b1 : List qza)  (r : Bool) (h : qzba a0 b1 = some r) : qzq EE Tryz.prog 18 [slcV 3 qza.cells a0, slcV 3 qza.cells b1] (.bool r) := by
 refine Pure.still ?_ hEE (by simp [-qzh, (fun l => qzj (st := 3) (c := qza.cells) (l := l) qza.noref)] <;> assumption) (by simp [-qzh, (fun l => qzj (st := 3) (c := qza.cells) (l := l) qza.noref)])
 obtain ⟨c, hb, hc⟩ := ck18
 replace h := Ok.of h; unfold qzba at h
 refine Pure.ofs (fn := Tryz.f18) (n := 26) rfl hb cr18 (hc 0) rfl rfl (by simp) ?_
 refine AW.rS [(0, slcV 3 qza.cells a0), (1, slcV 3 qza.cells b1)] [] ?_ ?_
 ·simp [qz7s, -Int.pred_toNat]
  all_goals exact zq1
 refine .seq ?_
 refine AW.rS [(0, slcV 3 qza.cells a0), (1, slcV 3 qza.cells b1), (10, .bool (!decide ((List.length a0 : Int) = (List.length b1 : Int))))] [] ?_ ?_
 ·simp [wzch, -Int.pred_toNat]
  all_goals exact zq1
 refine AW.ifF (!decide ((List.length a0 : Int) = (List.length b1 : Int))) rfl (by simp) (fun e => ?_) (fun e => ?_)
 ·replace h := h.pos e
  refine AW.rS [(4, .bool false)] [] ?_ ?_
  ·simp [qz8g, -Int.pred_toNat]
   all_goals exact zq1
  have hr := h.some
  subst hr
  refine AW.rt (rs := rs18) [(4, .bool false)] [] (by simp) (by simp) rfl rfl (by simp [rs18]) (by simp [rs18]; try rfl)
 ·replace h := h.neg e
  refine AW.skip ?_
  refine .seq ?_
  refine AW.rS [(0, slcV 3 qza.cells a0), (1, slcV 3 qza.cells b1), (5, .int .i64 0)] [] ?_ ?_
  ·simp [qz33, -Int.pred_toNat]
   all_goals exact zq1
  refine .block ?_
  refine AW.lpF (ε := Unit) () h.bd (qza7 a0 b1) (qza5 a0 b1) (qzhd a0 b1) (by simp [qza7]) (by simp [qza5]) rfl ?_ ?_
  ·rintro k5 ⟨⟩ QQ h
   exact qzng a0 b1 k5 QQ h
  ·intro o h ex S' hs
   rcases o with ⟨⟩ | o
   ·obtain ⟨rfl, hs⟩ := hs
    refine .see hs ?_
    refine AW.rS [(4, .bool true)] [] ?_ ?_
    ·simp [qz7p, -Int.pred_toNat]
     all_goals exact zq1
    have hr := h.some
    subst hr
    refine AW.rt (rs := rs18) [(4, .bool true)] [] (by simp) (by simp) rfl rfl (by simp [rs18]) (by simp [rs18]; try rfl)
   ·obtain ⟨rfl, hs⟩ := hs
    cases h.some
    exact hs
abbrev kzg (l0 : List qzb) (of1 : qzb → Option qza) (of1_f : FuncId) (of1_b : Nat) (of1_c : List AVal) (s : Int × (List qza)) (ex : Nat × Nat × Nat) : List (Nat × AVal) := match s, ex with | (t10, l2), (ep0, ep1, ep2) => [(1, .fn of1_f of1_b of1_c), (5, ownV 2 ep2 l2), (8, slcV 8 qzb.cells l0), (9, .int .i64 (List.length l0 : Int)), (10, .int .i64 t10)]
abbrev kzh (l0 : List qzb) (of1 : qzb → Option qza) (of1_f : FuncId) (of1_b : Nat) (of1_c : List AVal) (s : Int × (List qza)) (ex : Nat × Nat × Nat) : List (Nat × AObj) := match s, ex with | (t10, l2), (ep0, ep1, ep2) => [(0, .gone ep0), (1, .gone ep1), (2, ownO ep2 3 qza.cells l2)]
abbrev qzch (l0 : List qzb) (of1 : qzb → Option qza) (of1_f : FuncId) (of1_b : Nat) (of1_c : List AVal) : (List qza) → Exit → ASt → Prop := fun o ex S' => match o with | l2 => ∃ ep0 : Nat, ∃ ep1 : Nat, ∃ ep2 : Nat, ex = .exit 0 ∧ See EE S' ⟨tl [(5, ownV 2 ep2 l2)] 22, hl [(0, .gone ep0), (1, .gone ep1), (2, ownO ep2 3 qza.cells l2)], []⟩
theorem qzg9 (l0 : List qzb) (of1 : qzb → Option qza) (of1_f : FuncId) (of1_b : Nat) (of1_c : List AVal) (of1_n : ∀ x, x ∈ of1_c → qzt x) (of1_h : ∀ a0 r, of1 a0 = some r → FnOk EE Tryz.prog of1_f of1_b of1_c [.agg (qzb.cells a0)] (.agg (qza.cells r))) (t10 : Int) (l2 : List qza) (ep0 : Nat) (ep1 : Nat) (ep2 : Nat) (QQ : (Int × (List qza)) ⊕ (List qza) → Prop) (h : Ok (jzr l0 of1 (t10, l2)) QQ) : AW EE none Tryz.prog (qz9x 0) (fun ex S' => (∃ s' e', ex = .normal ∧ QQ (.inl s') ∧ See EE S' ⟨tl ((kzg l0 of1 of1_f of1_b of1_c) s' e') 22, hl ((kzh l0 of1 of1_f of1_b of1_c) s' e'), []⟩) ∨ (∃ o, QQ (.inr o) ∧ ex ≠ .normal ∧ (qzch l0 of1 of1_f of1_b of1_c) o ex S')) ⟨tl [(1, .fn of1_f of1_b of1_c), (5, ownV 2 ep2 l2), (8, slcV 8 qzb.cells l0), (9, .int .i64 (List.length l0 : Int)), (10, .int .i64 t10)] 22, hl [(0, .gone ep0), (1, .gone ep1), (2, ownO ep2 3 qza.cells l2)], []⟩ := by
 unfold jzr at h
 refine AW.rS [(1, .fn of1_f of1_b of1_c), (5, ownV 2 ep2 l2), (8, slcV 8 qzb.cells l0), (9, .int .i64 (List.length l0 : Int)), (10, .int .i64 t10), (11, .bool (decide (t10 < (List.length l0 : Int))))] [(0, .gone ep0), (1, .gone ep1), (2, ownO ep2 3 qza.cells l2)] ?_ ?_
 ·simp [wzap, -Int.pred_toNat]
  all_goals exact zq1
 refine .seq ?_
 refine AW.ifF (decide (t10 < (List.length l0 : Int))) rfl (by simp) (fun e => ?_) (fun e => ?_)
 ·replace h := h.pos e
  refine AW.skip ?_
  refine .seq ?_
  refine .block ?_
  obtain ⟨x1, h1, h⟩ := h.at
  refine AW.rS [(1, .fn of1_f of1_b of1_c), (5, ownV 2 ep2 l2), (7, .ptr 0 (ep0 + 1) 0), (8, slcV 8 qzb.cells l0), (9, .int .i64 (List.length l0 : Int)), (10, .int .i64 t10)] [(0, .box (ep0 + 1) [.int .i64 x1.State, .int .i64 x1.Weight, .bool x1.Floor.Neg, .str x1.Floor.Num, .str x1.Floor.Den, .bool x1.Cap.Neg, .str x1.Cap.Num, .str x1.Cap.Den]), (1, .gone ep1), (2, ownO ep2 3 qza.cells l2)] ?_ ?_
  ·obtain ⟨f1a, f1b, f1c⟩ := h1
   have f1d : qzd qzb.cells l0 (Int.toNat t10) = qzb.cells x1 := qzo f1c
   have f1e : Int.toNat t10 < List.length l0 := by omega
   simp [qz6o, -Int.pred_toNat, f1a, f1b, f1d, f1e]
   (repeat' apply And.intro) <;> first | omega | (simp at * <;> omega) | (intro _; intros; simp_all; done) | exact .mk (by simp [-Int.pred_toNat, f1a, f1b, f1d, f1e]) (by simp [-Int.pred_toNat, f1a, f1b, f1d, f1e]) rfl
  obtain ⟨r1, h2, h⟩ := h.ex
  obtain ⟨h3, h⟩ := h.ck
  refine AW.rE [(1, .fn of1_f of1_b of1_c), (5, ownV 2 (ep2 + 1) (l2 ++ [r1])), (8, slcV 8 qzb.cells l0), (9, .int .i64 (List.length l0 : Int)), (10, .int .i64 t10)] [(0, .gone (ep0 + 1)), (1, .gone (ep1 + 1)), (2, ownO (ep2 + 1) 3 qza.cells (l2 ++ [r1]))] ?_ (fun S' hs1 => ?_)
  ·have f2 := h3
   have f2m := f2
   (try simp [-Int.pred_toNat] at f2m)
   rcases hl : l2 with _ | ⟨y, l⟩
   ·(try simp [hl] at f2)
    simp [qzwp, -Int.pred_toNat, f2, f2m, hl]
    (repeat' apply And.intro) <;> try first | omega | (simp at * <;> omega)
    ·exact (of1_h x1 _ h2).1
    refine (of1_h x1 _ h2).2.ca (by simp [-Int.pred_toNat, f2, f2m]) ?_
    (try simp [-Int.pred_toNat, f2, f2m, hl])
    (repeat' apply And.intro) <;> first | omega | (simp at * <;> omega) | (intro _; intros; simp_all; done) | exact .mk (by simp [-Int.pred_toNat, f2, f2m, hl]) (by simp [-Int.pred_toNat, f2, f2m, hl]) rfl
   ·(try simp [hl] at f2)
    simp [qzwp, -Int.pred_toNat, f2, f2m, hl]
    (repeat' apply And.intro) <;> try first | omega | (simp at * <;> omega)
    ·exact (of1_h x1 _ h2).1
    refine (of1_h x1 _ h2).2.ca (by simp [-Int.pred_toNat, f2, f2m]) ?_
    (try simp [-Int.pred_toNat, f2, f2m, hl])
    (repeat' apply And.intro) <;> first | omega | skip
    refine .mk (by simp [-Int.pred_toNat, f2, f2m, hl]) ?_ rfl
    simp [-Int.pred_toNat, f2, f2m, hl]
    intro k hk
    split <;> rename_i hk2
    ·rw [yz1 hk2]; exact .refl _
    ·rw [yze hk2]
     have hj : k - (l.length + 1) < 1 := by omega
     revert hj; generalize k - (l.length + 1) = j; revert j; simp
  refine .see hs1 ?_
  obtain ⟨h5, h⟩ := h.ck
  refine AW.rE [(1, .fn of1_f of1_b of1_c), (5, ownV 2 (ep2 + 1) (l2 ++ [r1])), (8, slcV 8 qzb.cells l0), (9, .int .i64 (List.length l0 : Int)), (10, .int .i64 (t10 + 1))] [(0, .gone (ep0 + 1)), (1, .gone (ep1 + 1)), (2, ownO (ep2 + 1) 3 qza.cells (l2 ++ [r1]))] ?_ (fun S' hs2 => ?_)
  ·have f3 := qzr h5
   simp [wzcr, -Int.pred_toNat, f3]
   (repeat' apply And.intro) <;> first | omega | (simp at * <;> omega) | (intro _; intros; simp_all; done) | exact .mk (by simp [-Int.pred_toNat, f3]) (by simp [-Int.pred_toNat, f3]) rfl
  exact .inl ⟨((t10 + 1), (l2 ++ [r1])), ((ep0 + 1), (ep1 + 1), (ep2 + 1)), rfl, h.some, (hs2.trans (.wk (by simp [kzg]) (by simp [kzh]) rfl))⟩
 ·replace h := h.neg e
  refine .exit ?_
  exact .inr ⟨l2, h.some, by simp, ⟨ep0, ep1, ep2, rfl, (.wk (by simp) (by simp) rfl)⟩⟩
theorem wzc (l0 : List qzb) (of1 : qzb → Option qza) (of1_f : FuncId) (of1_b : Nat) (of1_c : List AVal) (of1_n : ∀ x, x ∈ of1_c → qzt x) (of1_h : ∀ a0 r, of1 a0 = some r → FnOk EE Tryz.prog of1_f of1_b of1_c [.agg (qzb.cells a0)] (.agg (qza.cells r))) (r : List qza) (h : qzu l0 of1 = some r) : qzq EE Tryz.prog 34 [slcV 8 qzb.cells l0, .fn of1_f of1_b of1_c] (slcV 3 qza.cells r) := by
 refine Pure.still ?_ hEE (by simp [-qzh, (fun l => qzj (st := 8) (c := qzb.cells) (l := l) qzb.noref), (fun l => qzj (st := 3) (c := qza.cells) (l := l) qza.noref), kzp, of1_n] <;> assumption) (by simp [-qzh, (fun l => qzj (st := 8) (c := qzb.cells) (l := l) qzb.noref), (fun l => qzj (st := 3) (c := qza.cells) (l := l) qza.noref), kzp, of1_n])
 obtain ⟨c, hb, hc⟩ := ck34
 replace h := Ok.of h; unfold qzu at h
 refine Pure.ofs (fn := Tryz.f34) (n := 22) rfl hb cr34 (hc 0) rfl rfl (by simp) ?_
 refine AW.rS [(0, slcV 8 qzb.cells l0), (1, .fn of1_f of1_b of1_c)] [] ?_ ?_
 ·simp [qz49, -Int.pred_toNat]
  all_goals exact zq1
 refine AW.rS [(0, slcV 8 qzb.cells l0), (1, .fn of1_f of1_b of1_c), (5, .nils)] [] ?_ ?_
 ·simp [wzah, -Int.pred_toNat]
  all_goals exact zq1
 refine .seq ?_
 refine AW.rS [(1, .fn of1_f of1_b of1_c), (5, .nils), (8, slcV 8 qzb.cells l0), (9, .int .i64 (List.length l0 : Int)), (10, .int .i64 0)] [] ?_ ?_
 ·simp [qz5f, -Int.pred_toNat]
  all_goals exact zq1
 refine .block ?_
 refine AW.lpF (ε := Nat × Nat × Nat) (0, 0, 0) h.bd (kzg l0 of1 of1_f of1_b of1_c) (kzh l0 of1 of1_f of1_b of1_c) (qzch l0 of1 of1_f of1_b of1_c) (by simp [kzg]) (by simp [kzh]) rfl ?_ ?_
 ·rintro ⟨t10, l2⟩ ⟨ep0, ep1, ep2⟩ QQ h
  exact qzg9 l0 of1 of1_f of1_b of1_c of1_n of1_h t10 l2 ep0 ep1 ep2 QQ h
 ·rintro l2 h ex S' hs
  obtain ⟨ep0, ep1, ep2, rfl, hs⟩ := hs
  refine .see hs ?_
  refine AW.rS [(4, ownV 2 ep2 l2)] [(0, .gone ep0), (1, .gone ep1), (2, ownO ep2 3 qza.cells l2)] ?_ ?_
  ·simp [qz44, -Int.pred_toNat]
   all_goals exact zq1
  refine AW.frzO 2 ep2 3 qza.cells l2 [(4, slcV 3 qza.cells l2)] [(0, .gone ep0), (1, .gone ep1), (2, .gone (ep2 + 1))] rfl (fun e => ⟨by simp [e], by simp [e], rfl⟩) (fun y k e o ho => ⟨by simp [e, ho], by simp [e, ho], rfl⟩) ?_
  have hr := h.some
  subst hr
  refine AW.rt (rs := rs34) [(4, slcV 3 qza.cells l2)] [(0, .gone ep0), (1, .gone ep1), (2, .gone (ep2 + 1))] (by simp) (by simp) rfl rfl (by simp [rs34]) (by simp [rs34]; try rfl)
theorem qzl4 (s0 : qzb)  (r : qza) (h : yz0 s0 = some r) : qzq EE Tryz.prog 41 [.agg (qzb.cells s0)] (.agg (qza.cells r)) := by
 refine Pure.still ?_ hEE (by simp [-qzh, qzb.cells, qza.cells] <;> assumption) (by simp [-qzh, qzb.cells, qza.cells])
 obtain ⟨c, hb, hc⟩ := ck41
 replace h := Ok.of h; unfold yz0 at h
 refine Pure.ofs (fn := Tryz.f41) (n := 5) rfl hb cr41 (hc 0) rfl rfl (by simp) ?_
 refine AW.rS [(1, .ptr 0 1 0), (2, .ptr 1 1 0)] [(0, .box 1 [.int .i64 s0.State, .int .i64 s0.Weight, .bool s0.Floor.Neg, .str s0.Floor.Num, .str s0.Floor.Den, .bool s0.Cap.Neg, .str s0.Cap.Num, .str s0.Cap.Den]), (1, .box 1 [.bool false, .str [], .str []])] ?_ ?_
 ·simp [qz84, -Int.pred_toNat]
  all_goals exact zq1
 refine AW.rS [(2, .ptr 1 1 0)] [(0, .gone 1), (1, .box 1 [.bool s0.Cap.Neg, .str s0.Cap.Num, .str s0.Cap.Den])] ?_ ?_
 ·simp [qz60, -Int.pred_toNat]
  all_goals exact zq1
 have hr := h.some
 subst hr
 refine AW.rt (rs := rs41) [(2, .ptr 1 1 0)] [(0, .gone 1), (1, .box 1 (qza.cells s0.Cap))] (by simp) (by simp) rfl rfl (by simp [rs41]) (by simp [rs41]; try rfl)
theorem qzmp (x0 : qzb) (c0 : qzb)  (r : Bool) (h : qzan x0 c0 = some r) : qzq EE Tryz.prog 53 [.agg (qzb.cells x0), .cptr (fun k => (qzb.cells c0).getD k .top) 8 0] (.bool r) := by
 refine Pure.still ?_ hEE (by simp [-qzh, jzc, qzb.cells] <;> assumption) (by simp [-qzh, jzc, qzb.cells])
 obtain ⟨c, hb, hc⟩ := ck53
 replace h := Ok.of h; unfold qzan at h
 refine Pure.ofs (fn := Tryz.f53) (n := 9) rfl hb cr53 (hc 0) rfl rfl (by simp) ?_
 refine AW.rS [(1, .cptr (fun k => [.int .i64 c0.State, .int .i64 c0.Weight, .bool c0.Floor.Neg, .str c0.Floor.Num, .str c0.Floor.Den, .bool c0.Cap.Neg, .str c0.Cap.Num, .str c0.Cap.Den].getD k .top) 8 0), (2, .ptr 0 1 0)] [(0, .box 1 [.int .i64 x0.State, .int .i64 x0.Weight, .bool x0.Floor.Neg, .str x0.Floor.Num, .str x0.Floor.Den, .bool x0.Cap.Neg, .str x0.Cap.Num, .str x0.Cap.Den])] ?_ ?_
 ·simp [qz62, -Int.pred_toNat]
  all_goals exact zq1
 refine AW.rS [(3, .bool (decide (x0.State = c0.State)))] [(0, .gone 1)] ?_ ?_
 ·simp [wzby, -Int.pred_toNat]
  all_goals exact zq1
 have hr := h.some
 subst hr
 refine AW.rt (rs := rs53) [(3, .bool (decide (x0.State = c0.State)))] [(0, .gone 1)] (by simp) (by simp) rfl rfl (by simp [rs53]) (by simp [rs53]; try rfl)
abbrev qzaa (s10 : List qza) (s21 : List qza) (s : Int) (ex : Unit) : List (Nat × AVal) := match s, ex with | t13, () => [(0, slcV 3 qza.cells s10), (1, slcV 3 qza.cells s21), (12, .int .i64 (List.length s10 : Int)), (13, .int .i64 t13)]
abbrev qzae (s10 : List qza) (s21 : List qza) (s : Int) (ex : Unit) : List (Nat × AObj) := match s, ex with | t13, () => []
abbrev qzfr (s10 : List qza) (s21 : List qza) : Unit ⊕ Bool → Exit → ASt → Prop := fun o ex S' => match o with | .inl () => ex = .exit 0 ∧ See EE S' ⟨tl [] 26, hl [], []⟩ | .inr o => ex = .ret ∧ Post EE rs55 (fun x _ => x = .bool o) .ret S'
theorem qzlc (s10 : List qza) (s21 : List qza) (t13 : Int) (QQ : Int ⊕ (Unit ⊕ Bool) → Prop) (h : Ok (yzi s10 s21 t13) QQ) : AW EE none Tryz.prog (wzbc 0) (fun ex S' => (∃ s' e', ex = .normal ∧ QQ (.inl s') ∧ See EE S' ⟨tl ((qzaa s10 s21) s' e') 26, hl ((qzae s10 s21) s' e'), []⟩) ∨ (∃ o, QQ (.inr o) ∧ ex ≠ .normal ∧ (qzfr s10 s21) o ex S')) ⟨tl [(0, slcV 3 qza.cells s10), (1, slcV 3 qza.cells s21), (12, .int .i64 (List.length s10 : Int)), (13, .int .i64 t13)] 26, hl [], []⟩ := by
 unfold yzi at h
 refine AW.rS [(0, slcV 3 qza.cells s10), (1, slcV 3 qza.cells s21), (12, .int .i64 (List.length s10 : Int)), (13, .int .i64 t13), (14, .bool (decide (t13 < (List.length s10 : Int))))] [] ?_ ?_
 ·simp [qz6g, -Int.pred_toNat]
  all_goals exact zq1
 refine .seq ?_
 refine AW.ifF (decide (t13 < (List.length s10 : Int))) rfl (by simp) (fun e => ?_) (fun e => ?_)
 ·replace h := h.pos e
  refine AW.skip ?_
  refine .seq ?_
  refine .block ?_
  refine AW.rS [(0, slcV 3 qza.cells s10), (1, slcV 3 qza.cells s21), (5, .int .i64 t13), (12, .int .i64 (List.length s10 : Int)), (13, .int .i64 t13)] [] ?_ ?_
  ·simp [wzbx, -Int.pred_toNat]
   all_goals exact zq1
  obtain ⟨x1, h1, h⟩ := h.at
  obtain ⟨x2, h2, h⟩ := h.at
  refine AW.dS [(0, slcV 3 qza.cells s10), (1, slcV 3 qza.cells s21), (12, .int .i64 (List.length s10 : Int)), (13, .int .i64 t13), (24, .bool (!((x1.Neg == x2.Neg) && (decide (x1.Num = x2.Num) && (decide (x1.Den = x2.Den) && true)))))] [] ?_ ?_
  ·obtain ⟨f1a, f1b, f1c⟩ := h1
   have f1d : qzd qza.cells s10 (Int.toNat t13) = qza.cells x1 := qzo f1c
   have f1e : Int.toNat t13 < List.length s10 := by omega
   obtain ⟨f2a, f2b, f2c⟩ := h2
   have f2d : qzd qza.cells s21 (Int.toNat t13) = qza.cells x2 := qzo f2c
   have f2e : Int.toNat t13 < List.length s21 := by omega
   simp [qz8t, -Int.pred_toNat, f1a, f1b, f1d, f1e, f2a, f2b, f2d, f2e]
   (repeat' apply And.intro) <;> first | omega | (simp at * <;> omega) | kernel_rfl | (intro _; intros; simp_all; done) | exact .mk (by simp [-Int.pred_toNat, f1a, f1b, f1d, f1e, f2a, f2b, f2d, f2e]) (by simp [-Int.pred_toNat, f1a, f1b, f1d, f1e, f2a, f2b, f2d, f2e]) rfl
  refine AW.ifF (!((x1.Neg == x2.Neg) && (decide (x1.Num = x2.Num) && (decide (x1.Den = x2.Den) && true)))) rfl (by simp) (fun e => ?_) (fun e => ?_)
  ·replace h := h.pos e
   refine AW.rS [(4, .bool false)] [] ?_ ?_
   ·simp [qz4q, -Int.pred_toNat]
    all_goals exact zq1
   exact .ret (.inr ⟨.inr false, h.some, by simp, rfl, .wk (rs := rs55) [(4, .bool false)] [] (by simp) (by simp) rfl (by simp [rs55]) (by simp [rs55]; try rfl)⟩)
  ·replace h := h.neg e
   refine AW.skip ?_
   obtain ⟨h3, h⟩ := h.ck
   refine AW.rE [(0, slcV 3 qza.cells s10), (1, slcV 3 qza.cells s21), (12, .int .i64 (List.length s10 : Int)), (13, .int .i64 (t13 + 1))] [] ?_ (fun S' hs1 => ?_)
   ·have f3 := qzr h3
    simp [qz66, -Int.pred_toNat, f3]
    (repeat' apply And.intro) <;> first | omega | (simp at * <;> omega) | (intro _; intros; simp_all; done) | exact .mk (by simp [-Int.pred_toNat, f3]) (by simp [-Int.pred_toNat, f3]) rfl
   exact .inl ⟨(t13 + 1), (), rfl, h.some, (hs1.trans (.wk (by simp [qzaa]) (by simp [qzae]) rfl))⟩
 ·replace h := h.neg e
  refine .exit ?_
  exact .inr ⟨.inl (), h.some, by simp, ⟨rfl, (.wk (by simp) (by simp) rfl)⟩⟩
theorem qzn8 (s10 : List qza) (s21 : List qza)  (r : Bool) (h : qzbb s10 s21 = some r) : qzq EE Tryz.prog 55 [slcV 3 qza.cells s10, slcV 3 qza.cells s21] (.bool r) := by
 refine Pure.still ?_ hEE (by simp [-qzh, (fun l => qzj (st := 3) (c := qza.cells) (l := l) qza.noref)] <;> assumption) (by simp [-qzh, (fun l => qzj (st := 3) (c := qza.cells) (l := l) qza.noref)])
 obtain ⟨c, hb, hc⟩ := ck55
 replace h := Ok.of h; unfold qzbb at h
 refine Pure.ofs (fn := Tryz.f55) (n := 26) rfl hb cr55 (hc 0) rfl rfl (by simp) ?_
 refine AW.rS [(0, slcV 3 qza.cells s10), (1, slcV 3 qza.cells s21)] [] ?_ ?_
 ·simp [wzac, -Int.pred_toNat]
  all_goals exact zq1
 refine .seq ?_
 refine AW.rS [(0, slcV 3 qza.cells s10), (1, slcV 3 qza.cells s21), (10, .bool (!decide ((List.length s10 : Int) = (List.length s21 : Int))))] [] ?_ ?_
 ·simp [wzbd, -Int.pred_toNat]
  all_goals exact zq1
 refine AW.ifF (!decide ((List.length s10 : Int) = (List.length s21 : Int))) rfl (by simp) (fun e => ?_) (fun e => ?_)
 ·replace h := h.pos e
  refine AW.rS [(4, .bool false)] [] ?_ ?_
  ·simp [wzb5, -Int.pred_toNat]
   all_goals exact zq1
  have hr := h.some
  subst hr
  refine AW.rt (rs := rs55) [(4, .bool false)] [] (by simp) (by simp) rfl rfl (by simp [rs55]) (by simp [rs55]; try rfl)
 ·replace h := h.neg e
  refine AW.skip ?_
  refine .seq ?_
  refine AW.rS [(0, slcV 3 qza.cells s10), (1, slcV 3 qza.cells s21), (12, .int .i64 (List.length s10 : Int)), (13, .int .i64 0)] [] ?_ ?_
  ·simp [qz57, -Int.pred_toNat]
   all_goals exact zq1
  refine .block ?_
  refine AW.lpF (ε := Unit) () h.bd (qzaa s10 s21) (qzae s10 s21) (qzfr s10 s21) (by simp [qzaa]) (by simp [qzae]) rfl ?_ ?_
  ·rintro t13 ⟨⟩ QQ h
   exact qzlc s10 s21 t13 QQ h
  ·intro o h ex S' hs
   rcases o with ⟨⟩ | o
   ·obtain ⟨rfl, hs⟩ := hs
    refine .see hs ?_
    refine AW.rS [(4, .bool true)] [] ?_ ?_
    ·simp [qz89, -Int.pred_toNat]
     all_goals exact zq1
    have hr := h.some
    subst hr
    refine AW.rt (rs := rs55) [(4, .bool true)] [] (by simp) (by simp) rfl rfl (by simp [rs55]) (by simp [rs55]; try rfl)
   ·obtain ⟨rfl, hs⟩ := hs
    cases h.some
    exact hs
theorem qzj3 (a0 : List UInt8)  (r : Bool) (h : qzcb a0 = some r) : qzq EE Tryz.prog 59 [.str a0] (.bool r) := by
 refine Pure.still ?_ hEE (by simp <;> assumption) (by simp)
 obtain ⟨c, hb, hc⟩ := ck59
 replace h := Ok.of h; unfold qzcb at h
 refine Pure.ofs (fn := Tryz.f59) (n := 10) rfl hb cr59 (hc 0) rfl rfl (by simp) ?_
 refine AW.rS [(0, .str a0)] [] ?_ ?_
 ·simp [qz88, -Int.pred_toNat]
  all_goals exact zq1
 obtain ⟨h1, h⟩ := h.ck
 refine AW.rS [(2, .bool (bif (decide (a0 = [])) then true else (!decide ((wzw a0 0) = 0))))] [] ?_ ?_
 ·rcases Bool.eq_false_or_eq_true (!(decide (a0 = []))) with e1 | e1
  ·have e1n := e1
   (try simp at e1n)
   obtain ⟨f1a, f1b⟩ := qznu (ck_g h1 e1)
   simp [qzww, -Int.pred_toNat, e1, e1n, f1a, f1b]
   (repeat' apply And.intro) <;> first | omega | (simp at * <;> omega) | (intro _; intros; simp_all; done) | exact .mk (by simp [-Int.pred_toNat, e1, e1n, f1a, f1b]) (by simp [-Int.pred_toNat, e1, e1n, f1a, f1b]) rfl
  ·have e1n := e1
   (try simp at e1n)
   simp [qzww, -Int.pred_toNat, e1, e1n]
   (repeat' apply And.intro) <;> first | omega | (simp at * <;> omega) | (intro _; intros; simp_all; done) | exact .mk (by simp [-Int.pred_toNat, e1, e1n]) (by simp [-Int.pred_toNat, e1, e1n]) rfl
 have hr := h.some
 subst hr
 refine AW.rt (rs := rs59) [(2, .bool (bif (decide (a0 = [])) then true else (!decide ((wzw a0 0) = 0))))] [] (by simp) (by simp) rfl rfl (by simp [rs59]) (by simp [rs59]; try rfl)
theorem qzff (n0 : Int)  (r : Bool) (h : yzy n0 = some r) : qzq EE Tryz.prog 68 [.int .i64 n0] (.bool r) := by
 refine Pure.still ?_ hEE (by simp <;> assumption) (by simp)
 obtain ⟨c, hb, hc⟩ := ck68
 replace h := Ok.of h; unfold yzy at h
 refine Pure.ofs (fn := Tryz.f68) (n := 9) rfl hb cr68 (hc 0) rfl rfl (by simp) ?_
 refine AW.rS [(0, .int .i64 n0)] [] ?_ ?_
 ·simp [qz39, -Int.pred_toNat]
  all_goals exact zq1
 refine AW.rS [(2, .bool (bif (decide ((-999999999999999) ≤ n0)) then (decide (n0 ≤ 999999999999999)) else false))] [] ?_ ?_
 ·simp [qz4x, -Int.pred_toNat]
  all_goals exact zq1
 have hr := h.some
 subst hr
 refine AW.rt (rs := rs68) [(2, .bool (bif (decide ((-999999999999999) ≤ n0)) then (decide (n0 ≤ 999999999999999)) else false))] [] (by simp) (by simp) rfl rfl (by simp [rs68]) (by simp [rs68]; try rfl)
theorem qzj5 (a0 : qza) (most1 : Int)  (r : Bool) (h : qzdt a0 most1 = some r) : qzq EE Tryz.prog 70 [.agg (qza.cells a0), .int .i64 most1] (.bool r) := by
 refine Pure.still ?_ hEE (by simp [-qzh, qza.cells] <;> assumption) (by simp [-qzh, qza.cells])
 obtain ⟨c, hb, hc⟩ := ck70
 replace h := Ok.of h; unfold qzdt at h
 refine Pure.ofs (fn := Tryz.f70) (n := 17) rfl hb cr70 (hc 0) rfl rfl (by simp) ?_
 refine AW.rS [(1, .int .i64 most1), (2, .ptr 0 1 0)] [(0, .box 1 [.bool a0.Neg, .str a0.Num, .str a0.Den])] ?_ ?_
 ·simp [qz7b, -Int.pred_toNat]
  all_goals exact zq1
 refine AW.rS [(4, .bool (bif (decide ((List.length a0.Num : Int) ≤ most1)) then (decide ((List.length a0.Den : Int) ≤ most1)) else false))] [(0, .gone 1)] ?_ ?_
 ·simp [wzcg, -Int.pred_toNat]
  all_goals exact zq1
 have hr := h.some
 subst hr
 refine AW.rt (rs := rs70) [(4, .bool (bif (decide ((List.length a0.Num : Int) ≤ most1)) then (decide ((List.length a0.Den : Int) ≤ most1)) else false))] [(0, .gone 1)] (by simp) (by simp) rfl rfl (by simp [rs70]) (by simp [rs70]; try rfl)
theorem qzhh (s0 : qzb)  (r : qza) (h : jzx s0 = some r) : qzq EE Tryz.prog 72 [.agg (qzb.cells s0)] (.agg (qza.cells r)) := by
 refine Pure.still ?_ hEE (by simp [-qzh, qzb.cells, qza.cells] <;> assumption) (by simp [-qzh, qzb.cells, qza.cells])
 obtain ⟨c, hb, hc⟩ := ck72
 replace h := Ok.of h; unfold jzx at h
 refine Pure.ofs (fn := Tryz.f72) (n := 5) rfl hb cr72 (hc 0) rfl rfl (by simp) ?_
 refine AW.rS [(1, .ptr 0 1 0), (2, .ptr 1 1 0)] [(0, .box 1 [.int .i64 s0.State, .int .i64 s0.Weight, .bool s0.Floor.Neg, .str s0.Floor.Num, .str s0.Floor.Den, .bool s0.Cap.Neg, .str s0.Cap.Num, .str s0.Cap.Den]), (1, .box 1 [.bool false, .str [], .str []])] ?_ ?_
 ·simp [qz6y, -Int.pred_toNat]
  all_goals exact zq1
 refine AW.rS [(2, .ptr 1 1 0)] [(0, .gone 1), (1, .box 1 [.bool s0.Cap.Neg, .str s0.Cap.Num, .str s0.Cap.Den])] ?_ ?_
 ·simp [wzb9, -Int.pred_toNat]
  all_goals exact zq1
 have hr := h.some
 subst hr
 refine AW.rt (rs := rs72) [(2, .ptr 1 1 0)] [(0, .gone 1), (1, .box 1 (qza.cells s0.Cap))] (by simp) (by simp) rfl rfl (by simp [rs72]) (by simp [rs72]; try rfl)
theorem qzgj (s0 : qzb)  (r : qza) (h : jzb s0 = some r) : qzq EE Tryz.prog 75 [.agg (qzb.cells s0)] (.agg (qza.cells r)) := by
 refine Pure.still ?_ hEE (by simp [-qzh, qzb.cells, qza.cells] <;> assumption) (by simp [-qzh, qzb.cells, qza.cells])
 obtain ⟨c, hb, hc⟩ := ck75
 replace h := Ok.of h; unfold jzb at h
 refine Pure.ofs (fn := Tryz.f75) (n := 5) rfl hb cr75 (hc 0) rfl rfl (by simp) ?_
 refine AW.rS [(1, .ptr 0 1 0), (2, .ptr 1 1 0)] [(0, .box 1 [.int .i64 s0.State, .int .i64 s0.Weight, .bool s0.Floor.Neg, .str s0.Floor.Num, .str s0.Floor.Den, .bool s0.Cap.Neg, .str s0.Cap.Num, .str s0.Cap.Den]), (1, .box 1 [.bool false, .str [], .str []])] ?_ ?_
 ·simp [wzck, -Int.pred_toNat]
  all_goals exact zq1
 refine AW.rS [(2, .ptr 1 1 0)] [(0, .gone 1), (1, .box 1 [.bool s0.Floor.Neg, .str s0.Floor.Num, .str s0.Floor.Den])] ?_ ?_
 ·simp [wzai, -Int.pred_toNat]
  all_goals exact zq1
 have hr := h.some
 subst hr
 refine AW.rt (rs := rs75) [(2, .ptr 1 1 0)] [(0, .gone 1), (1, .box 1 (qza.cells s0.Floor))] (by simp) (by simp) rfl rfl (by simp [rs75]) (by simp [rs75]; try rfl)
abbrev kz8 (f1 : qzb → Option Bool) (s0 : List qzb) (f1_f : FuncId) (f1_b : Nat) (f1_c : List AVal) (s : Int) (ex : Unit) : List (Nat × AVal) := match s, ex with | t8, () => [(0, slcV 8 qzb.cells s0), (1, .fn f1_f f1_b f1_c), (7, .int .i64 (List.length s0 : Int)), (8, .int .i64 t8)]
abbrev kz9 (f1 : qzb → Option Bool) (s0 : List qzb) (f1_f : FuncId) (f1_b : Nat) (f1_c : List AVal) (s : Int) (ex : Unit) : List (Nat × AObj) := match s, ex with | t8, () => []
abbrev qzde (f1 : qzb → Option Bool) (s0 : List qzb) (f1_f : FuncId) (f1_b : Nat) (f1_c : List AVal) : Unit ⊕ Int → Exit → ASt → Prop := fun o ex S' => match o with | .inl () => ex = .exit 0 ∧ See EE S' ⟨tl [] 19, hl [], []⟩ | .inr o => ex = .ret ∧ Post EE rs87 (fun x _ => x = .int .i64 o) .ret S'
theorem qzh3 (f1 : qzb → Option Bool) (s0 : List qzb) (f1_f : FuncId) (f1_b : Nat) (f1_c : List AVal) (f1_n : ∀ x, x ∈ f1_c → qzt x) (f1_h : ∀ a0 r, f1 a0 = some r → FnOk EE Tryz.prog f1_f f1_b f1_c [.agg (qzb.cells a0)] (.bool r)) (t8 : Int) (QQ : Int ⊕ (Unit ⊕ Int) → Prop) (h : Ok (kze f1 s0 t8) QQ) : AW EE none Tryz.prog (qz8v 0) (fun ex S' => (∃ s' e', ex = .normal ∧ QQ (.inl s') ∧ See EE S' ⟨tl ((kz8 f1 s0 f1_f f1_b f1_c) s' e') 19, hl ((kz9 f1 s0 f1_f f1_b f1_c) s' e'), []⟩) ∨ (∃ o, QQ (.inr o) ∧ ex ≠ .normal ∧ (qzde f1 s0 f1_f f1_b f1_c) o ex S')) ⟨tl [(0, slcV 8 qzb.cells s0), (1, .fn f1_f f1_b f1_c), (7, .int .i64 (List.length s0 : Int)), (8, .int .i64 t8)] 19, hl [], []⟩ := by
 unfold kze at h
 refine AW.rS [(0, slcV 8 qzb.cells s0), (1, .fn f1_f f1_b f1_c), (7, .int .i64 (List.length s0 : Int)), (8, .int .i64 t8), (9, .bool (decide (t8 < (List.length s0 : Int))))] [] ?_ ?_
 ·simp [qz9y, -Int.pred_toNat]
  all_goals exact zq1
 refine .seq ?_
 refine AW.ifF (decide (t8 < (List.length s0 : Int))) rfl (by simp) (fun e => ?_) (fun e => ?_)
 ·replace h := h.pos e
  refine AW.skip ?_
  refine .seq ?_
  refine .block ?_
  refine AW.rS [(0, slcV 8 qzb.cells s0), (1, .fn f1_f f1_b f1_c), (5, .int .i64 t8), (7, .int .i64 (List.length s0 : Int)), (8, .int .i64 t8)] [] ?_ ?_
  ·simp [qz70, -Int.pred_toNat]
   all_goals exact zq1
  obtain ⟨x1, h1, h⟩ := h.at
  obtain ⟨r1, h2, h⟩ := h.ex
  refine AW.rS [(0, slcV 8 qzb.cells s0), (1, .fn f1_f f1_b f1_c), (5, .int .i64 t8), (7, .int .i64 (List.length s0 : Int)), (8, .int .i64 t8), (16, .bool r1)] [] ?_ ?_
  ·obtain ⟨f1a, f1b, f1c⟩ := h1
   have f1d : qzd qzb.cells s0 (Int.toNat t8) = qzb.cells x1 := qzo f1c
   have f1e : Int.toNat t8 < List.length s0 := by omega
   simp [qz5l, -Int.pred_toNat, f1a, f1b, f1d, f1e]
   (repeat' apply And.intro) <;> try first | omega | (simp at * <;> omega)
   ·exact (f1_h x1 _ h2).1
   refine (f1_h x1 _ h2).2.ca (by simp [-Int.pred_toNat, f1a, f1b, f1d, f1e]) ?_
   (try simp [-Int.pred_toNat, f1a, f1b, f1d, f1e])
   (repeat' apply And.intro) <;> first | omega | (simp at * <;> omega) | (intro _; intros; simp_all; done) | exact .mk (by simp [-Int.pred_toNat, f1a, f1b, f1d, f1e]) (by simp [-Int.pred_toNat, f1a, f1b, f1d, f1e]) rfl
  refine AW.ifF r1 rfl (by simp) (fun e => ?_) (fun e => ?_)
  ·replace h := h.pos e
   refine AW.rS [(4, .int .i64 t8)] [] ?_ ?_
   ·simp [qz7q, -Int.pred_toNat]
    all_goals exact zq1
   exact .ret (.inr ⟨.inr t8, h.some, by simp, rfl, .wk (rs := rs87) [(4, .int .i64 t8)] [] (by simp) (by simp) rfl (by simp [rs87]) (by simp [rs87]; try rfl)⟩)
  ·replace h := h.neg e
   refine AW.skip ?_
   obtain ⟨h3, h⟩ := h.ck
   refine AW.rE [(0, slcV 8 qzb.cells s0), (1, .fn f1_f f1_b f1_c), (7, .int .i64 (List.length s0 : Int)), (8, .int .i64 (t8 + 1))] [] ?_ (fun S' hs1 => ?_)
   ·have f2 := qzr h3
    simp [qz5m, -Int.pred_toNat, f2]
    (repeat' apply And.intro) <;> first | omega | (simp at * <;> omega) | (intro _; intros; simp_all; done) | exact .mk (by simp [-Int.pred_toNat, f2]) (by simp [-Int.pred_toNat, f2]) rfl
   exact .inl ⟨(t8 + 1), (), rfl, h.some, (hs1.trans (.wk (by simp [kz8]) (by simp [kz9]) rfl))⟩
 ·replace h := h.neg e
  refine .exit ?_
  exact .inr ⟨.inl (), h.some, by simp, ⟨rfl, (.wk (by simp) (by simp) rfl)⟩⟩
theorem qzkk (s0 : List qzb) (f1 : qzb → Option Bool) (f1_f : FuncId) (f1_b : Nat) (f1_c : List AVal) (f1_n : ∀ x, x ∈ f1_c → qzt x) (f1_h : ∀ a0 r, f1 a0 = some r → FnOk EE Tryz.prog f1_f f1_b f1_c [.agg (qzb.cells a0)] (.bool r)) (r : Int) (h : qzas s0 f1 = some r) : qzq EE Tryz.prog 87 [slcV 8 qzb.cells s0, .fn f1_f f1_b f1_c] (.int .i64 r) := by
 refine Pure.still ?_ hEE (by simp [-qzh, (fun l => qzj (st := 8) (c := qzb.cells) (l := l) qzb.noref), kzp, f1_n] <;> assumption) (by simp [-qzh, (fun l => qzj (st := 8) (c := qzb.cells) (l := l) qzb.noref), kzp, f1_n])
 obtain ⟨c, hb, hc⟩ := ck87
 replace h := Ok.of h; unfold qzas at h
 refine Pure.ofs (fn := Tryz.f87) (n := 19) rfl hb cr87 (hc 0) rfl rfl (by simp) ?_
 refine AW.rS [(0, slcV 8 qzb.cells s0), (1, .fn f1_f f1_b f1_c)] [] ?_ ?_
 ·simp [qz94, -Int.pred_toNat]
  all_goals exact zq1
 refine .seq ?_
 refine AW.rS [(0, slcV 8 qzb.cells s0), (1, .fn f1_f f1_b f1_c), (7, .int .i64 (List.length s0 : Int)), (8, .int .i64 0)] [] ?_ ?_
 ·simp [qz35, -Int.pred_toNat]
  all_goals exact zq1
 refine .block ?_
 refine AW.lpF (ε := Unit) () h.bd (kz8 f1 s0 f1_f f1_b f1_c) (kz9 f1 s0 f1_f f1_b f1_c) (qzde f1 s0 f1_f f1_b f1_c) (by simp [kz8]) (by simp [kz9]) rfl ?_ ?_
 ·rintro t8 ⟨⟩ QQ h
  exact qzh3 f1 s0 f1_f f1_b f1_c f1_n f1_h t8 QQ h
 ·intro o h ex S' hs
  rcases o with ⟨⟩ | o
  ·obtain ⟨rfl, hs⟩ := hs
   refine .see hs ?_
   refine AW.rS [(4, .int .i64 (-1))] [] ?_ ?_
   ·simp [qz80, -Int.pred_toNat]
    all_goals exact zq1
   have hr := h.some
   subst hr
   refine AW.rt (rs := rs87) [(4, .int .i64 (-1))] [] (by simp) (by simp) rfl rfl (by simp [rs87]) (by simp [rs87]; try rfl)
  ·obtain ⟨rfl, hs⟩ := hs
   cases h.some
   exact hs
abbrev yzc  (s : (List Int)) (ex : Unit) : List (Nat × AVal) := match s, ex with | x0', () => [(0, slcV 1 (cI .u32) x0')]
abbrev yzd  (s : (List Int)) (ex : Unit) : List (Nat × AObj) := match s, ex with | x0', () => []
abbrev qzeq  : (List Int) → Exit → ASt → Prop := fun o ex S' => match o with | x0' => ex = .exit 0 ∧ See EE S' ⟨tl [(0, slcV 1 (cI .u32) x0')] 21, hl [], []⟩
theorem qzja  (x0' : List Int) (QQ : (List Int) ⊕ (List Int) → Prop) (h : Ok (vzd x0') QQ) : AW EE none Tryz.prog (qz2v 0) (fun ex S' => (∃ s' e', ex = .normal ∧ QQ (.inl s') ∧ See EE S' ⟨tl ((yzc ) s' e') 21, hl ((yzd ) s' e'), []⟩) ∨ (∃ o, QQ (.inr o) ∧ ex ≠ .normal ∧ (qzeq ) o ex S')) ⟨tl [(0, slcV 1 (cI .u32) x0')] 21, hl [], []⟩ := by
 unfold vzd at h
 refine .seq ?_
 obtain ⟨h1, h⟩ := h.ck
 obtain ⟨x1, h2, h⟩ := h.ex
 refine AW.rS [(0, slcV 1 (cI .u32) x0'), (14, .bool (bif (decide (0 < (List.length x0' : Int))) then (decide (x1 = 0)) else false))] [] ?_ ?_
 ·rcases Bool.eq_false_or_eq_true (decide (0 < (List.length x0' : Int))) with e1 | e1
  ·have e1n := e1
   (try simp at e1n)
   have f1 := qzr (ck_g h1 e1)
   obtain ⟨f2a, f2b, f2c⟩ := qzlv (gd_t e1 h2)
   have f2d : qzd (cI .u32) x0' (Int.toNat ((List.length x0' : Int) - 1)) = (cI .u32) x1 := qzo f2c
   have f2e : Int.toNat ((List.length x0' : Int) - 1) < List.length x0' := by omega
   simp [qztx, -Int.pred_toNat, e1, e1n, f1, f2a, f2b, f2d, f2e]
   (repeat' apply And.intro) <;> first | omega | (simp at * <;> omega) | (intro _; intros; simp_all; done) | exact .mk (by simp [-Int.pred_toNat, e1, e1n, f1, f2a, f2b, f2d, f2e]) (by simp [-Int.pred_toNat, e1, e1n, f1, f2a, f2b, f2d, f2e]) rfl
  ·have e1n := e1
   (try simp at e1n)
   simp [qztx, -Int.pred_toNat, e1, e1n]
   (repeat' apply And.intro) <;> first | omega | (simp at * <;> omega) | (intro _; intros; simp_all; done) | exact .mk (by simp [-Int.pred_toNat, e1, e1n]) (by simp [-Int.pred_toNat, e1, e1n]) rfl
 refine AW.ifF (bif (decide (0 < (List.length x0' : Int))) then (decide (x1 = 0)) else false) rfl (by simp) (fun e => ?_) (fun e => ?_)
 ·replace h := h.pos e
  refine AW.skip ?_
  refine .block ?_
  obtain ⟨h3, h⟩ := h.ck
  obtain ⟨h4, h⟩ := h.ck
  refine AW.rE [(0, slcV 1 (cI .u32) (sub x0' 0 ((List.length x0' : Int) - 1)))] [] ?_ (fun S' hs1 => ?_)
  ·have f3 := qzr h3
   have f4s := vzn h4
   obtain ⟨f4a, f4b, f4c⟩ := vz4 h4
   simp [qz2i, -Int.pred_toNat, f3, f4s, f4a, f4b, f4c]
   (repeat' apply And.intro) <;> first | omega | (simp at * <;> omega) | (intro _; intros; simp_all; done) | exact .mk (by simp [-Int.pred_toNat, f3, f4s, f4a, f4b, f4c] <;> first | (intro k hk; simpa using kzw (c := (cI .u32)) h4 k (by omega))) (by simp [-Int.pred_toNat, f3, f4s, f4a, f4b, f4c] <;> first | (intro k hk; simpa using kzw (c := (cI .u32)) h4 k (by omega))) rfl
  exact .inl ⟨(sub x0' 0 ((List.length x0' : Int) - 1)), (), rfl, h.some, (hs1.trans (.wk (by simp [yzc]) (by simp [yzd]) rfl))⟩
 ·replace h := h.neg e
  refine .exit ?_
  exact .inr ⟨x0', h.some, by simp, ⟨rfl, (.wk (by simp) (by simp) rfl)⟩⟩
theorem qz4 (x0 : List Int)  (r : List Int) (h : qzx x0 = some r) : qzq EE Tryz.prog 114 [slcV 1 (cI .u32) x0] (slcV 1 (cI .u32) r) := by
 refine Pure.still ?_ hEE (by simp [-qzh, (fun l => qzj (st := 1) (c := (cI .u32)) (l := l) (fun a => qz1 (n := a)))] <;> assumption) (by simp [-qzh, (fun l => qzj (st := 1) (c := (cI .u32)) (l := l) (fun a => qz1 (n := a)))])
 obtain ⟨c, hb, hc⟩ := wzgd
 replace h := Ok.of h; unfold qzx at h
 refine Pure.ofs (fn := Tryz.f114) (n := 21) rfl hb wzfr (hc 0) rfl rfl (by simp) ?_
 refine AW.rS [(0, slcV 1 (cI .u32) x0)] [] ?_ ?_
 ·simp [qzzy, -Int.pred_toNat]
  all_goals exact zq1
 refine .seq ?_
 refine .block ?_
 refine AW.lpF (ε := Unit) () h.bd (yzc ) (yzd ) (qzeq ) (by simp [yzc]) (by simp [yzd]) rfl ?_ ?_
 ·rintro x0' ⟨⟩ QQ h
  exact qzja x0' QQ h
 ·rintro x0' h ex S' hs
  obtain ⟨rfl, hs⟩ := hs
  refine .see hs ?_
  refine AW.rS [(2, slcV 1 (cI .u32) x0')] [] ?_ ?_
  ·simp [qz1k, -Int.pred_toNat]
   all_goals exact zq1
  have hr := h.some
  subst hr
  refine AW.rt (rs := qzr7) [(2, slcV 1 (cI .u32) x0')] [] (by simp) (by simp) rfl rfl (by simp [qzr7]) (by simp [qzr7]; try rfl)
theorem qza3 (x0 : List Int) (k1 : Int)  (r : Int) (h : kzc x0 k1 = some r) : qzq EE Tryz.prog 136 [slcV 1 (cI .u32) x0, .int .i64 k1] (.int .u64 r) := by
 refine Pure.still ?_ hEE (by simp [-qzh, (fun l => qzj (st := 1) (c := (cI .u32)) (l := l) (fun a => qz1 (n := a)))] <;> assumption) (by simp [-qzh, (fun l => qzj (st := 1) (c := (cI .u32)) (l := l) (fun a => qz1 (n := a)))])
 obtain ⟨c, hb, hc⟩ := wzgq
 replace h := Ok.of h; unfold kzc at h
 refine Pure.ofs (fn := Tryz.f136) (n := 14) rfl hb wzgx (hc 0) rfl rfl (by simp) ?_
 refine AW.rS [(0, slcV 1 (cI .u32) x0), (1, .int .i64 k1)] [] ?_ ?_
 ·simp [qz1s, -Int.pred_toNat]
  all_goals exact zq1
 refine .seq ?_
 refine AW.rS [(0, slcV 1 (cI .u32) x0), (1, .int .i64 k1), (8, .bool (decide (k1 < (List.length x0 : Int))))] [] ?_ ?_
 ·simp [qz23, -Int.pred_toNat]
  all_goals exact zq1
 refine AW.ifF (decide (k1 < (List.length x0 : Int))) rfl (by simp) (fun e => ?_) (fun e => ?_)
 ·replace h := h.pos e
  obtain ⟨x1, h1, h⟩ := h.at
  refine AW.rS [(4, .int .u64 (x1 % 18446744073709551616))] [] ?_ ?_
  ·obtain ⟨f1a, f1b, f1c⟩ := h1
   have f1d : qzd (cI .u32) x0 (Int.toNat k1) = (cI .u32) x1 := qzo f1c
   have f1e : Int.toNat k1 < List.length x0 := by omega
   simp [qz0w, -Int.pred_toNat, f1a, f1b, f1d, f1e]
   (repeat' apply And.intro) <;> first | omega | (simp at * <;> omega) | (intro _; intros; simp_all; done) | exact .mk (by simp [-Int.pred_toNat, f1a, f1b, f1d, f1e] <;> first | (intro k hk; rw [qzn _ k (by first | simpa using hk | omega)]; simp)) (by simp [-Int.pred_toNat, f1a, f1b, f1d, f1e] <;> first | (intro k hk; rw [qzn _ k (by first | simpa using hk | omega)]; simp)) rfl
  have hr := h.some
  subst hr
  refine AW.rt (rs := qzk6) [(4, .int .u64 (x1 % 18446744073709551616))] [] (by simp) (by simp) rfl rfl (by simp [qzk6]) (by simp [qzk6]; try rfl)
 ·replace h := h.neg e
  refine AW.skip ?_
  refine AW.rS [(4, .int .u64 0)] [] ?_ ?_
  ·simp [qz0m, -Int.pred_toNat]
   all_goals exact zq1
  have hr := h.some
  subst hr
  refine AW.rt (rs := qzk6) [(4, .int .u64 0)] [] (by simp) (by simp) rfl rfl (by simp [qzk6]) (by simp [qzk6]; try rfl)
theorem qzjq (x0 : Int)  (r : Bool) (h : qzcc x0 = some r) : qzq EE Tryz.prog 144 [.int .i64 x0] (.bool r) := by
 refine Pure.still ?_ hEE (by simp <;> assumption) (by simp)
 obtain ⟨c, hb, hc⟩ := wzgn
 replace h := Ok.of h; unfold qzcc at h
 refine Pure.ofs (fn := Tryz.f144) (n := 6) rfl hb wzgy (hc 0) rfl rfl (by simp) ?_
 refine AW.rS [(0, .int .i64 x0)] [] ?_ ?_
 ·simp [qz06, -Int.pred_toNat]
  all_goals exact zq1
 refine AW.rS [(2, .bool (!decide (x0 = x0)))] [] ?_ ?_
 ·simp [qzy0, -Int.pred_toNat]
  all_goals exact zq1
 have hr := h.some
 subst hr
 refine AW.rt (rs := qzsa) [(2, .bool (!decide (x0 = x0)))] [] (by simp) (by simp) rfl rfl (by simp [qzsa]) (by simp [qzsa]; try rfl)
theorem qzie (x0 : Int)  (r : Bool) (h : qzai x0 = some r) : qzq EE Tryz.prog 145 [.int .u32 x0] (.bool r) := by
 refine Pure.still ?_ hEE (by simp <;> assumption) (by simp)
 obtain ⟨c, hb, hc⟩ := wzgh
 replace h := Ok.of h; unfold qzai at h
 refine Pure.ofs (fn := Tryz.f145) (n := 6) rfl hb wzg7 (hc 0) rfl rfl (by simp) ?_
 refine AW.rS [(0, .int .u32 x0)] [] ?_ ?_
 ·simp [qz1c, -Int.pred_toNat]
  all_goals exact zq1
 refine AW.rS [(2, .bool (!decide (x0 = x0)))] [] ?_ ?_
 ·simp [qzyv, -Int.pred_toNat]
  all_goals exact zq1
 have hr := h.some
 subst hr
 refine AW.rt (rs := qzsc) [(2, .bool (!decide (x0 = x0)))] [] (by simp) (by simp) rfl rfl (by simp [qzsc]) (by simp [qzsc]; try rfl)
abbrev jzt (c1 : Int) (s : (List UInt8)) (ex : Unit) : List (Nat × AVal) := match s, ex with | s0', () => [(0, .str s0'), (1, .int .u8 c1)]
abbrev jzu (c1 : Int) (s : (List UInt8)) (ex : Unit) : List (Nat × AObj) := match s, ex with | s0', () => []
abbrev qzbj (c1 : Int) : (List UInt8) → Exit → ASt → Prop := fun o ex S' => match o with | s0' => ex = .exit 0 ∧ See EE S' ⟨tl [(0, .str s0')] 17, hl [], []⟩
theorem qzf0 (c1 : Int) (s0' : List UInt8) (QQ : (List UInt8) ⊕ (List UInt8) → Prop) (h : Ok (wz7 c1 s0') QQ) : AW EE none Tryz.prog (qzxw 0) (fun ex S' => (∃ s' e', ex = .normal ∧ QQ (.inl s') ∧ See EE S' ⟨tl ((jzt c1) s' e') 17, hl ((jzu c1) s' e'), []⟩) ∨ (∃ o, QQ (.inr o) ∧ ex ≠ .normal ∧ (qzbj c1) o ex S')) ⟨tl [(0, .str s0'), (1, .int .u8 c1)] 17, hl [], []⟩ := by
 unfold wz7 at h
 refine .seq ?_
 obtain ⟨h1, h⟩ := h.ck
 refine AW.rS [(0, .str s0'), (1, .int .u8 c1), (13, .bool (bif (decide (0 < (List.length s0' : Int))) then (decide ((wzw s0' 0) = c1)) else false))] [] ?_ ?_
 ·rcases Bool.eq_false_or_eq_true (decide (0 < (List.length s0' : Int))) with e1 | e1
  ·have e1n := e1
   (try simp at e1n)
   obtain ⟨f1a, f1b⟩ := qznu (ck_g h1 e1)
   simp [qzui, -Int.pred_toNat, e1, e1n, f1a, f1b]
   (repeat' apply And.intro) <;> first | omega | (simp at * <;> omega) | (intro _; intros; simp_all; done) | exact .mk (by simp [-Int.pred_toNat, e1, e1n, f1a, f1b]) (by simp [-Int.pred_toNat, e1, e1n, f1a, f1b]) rfl
  ·have e1n := e1
   (try simp at e1n)
   simp [qzui, -Int.pred_toNat, e1, e1n]
   (repeat' apply And.intro) <;> first | omega | (simp at * <;> omega) | (intro _; intros; simp_all; done) | exact .mk (by simp [-Int.pred_toNat, e1, e1n]) (by simp [-Int.pred_toNat, e1, e1n]) rfl
 refine AW.ifF (bif (decide (0 < (List.length s0' : Int))) then (decide ((wzw s0' 0) = c1)) else false) rfl (by simp) (fun e => ?_) (fun e => ?_)
 ·replace h := h.pos e
  refine AW.skip ?_
  refine .block ?_
  obtain ⟨h2, h⟩ := h.ck
  refine AW.rE [(0, .str (sub s0' 1 (List.length s0' : Int))), (1, .int .u8 c1)] [] ?_ (fun S' hs1 => ?_)
  ·have f2s := vzn h2
   have f2t : List.take (Int.toNat ((List.length s0' : Int) - 1)) (List.drop (Int.toNat 1) s0') = sub s0' 1 (List.length s0' : Int) := rfl
   (try simp [-Int.pred_toNat] at f2t)
   obtain ⟨f2a, f2b, f2c⟩ := vz4 h2
   simp [qz2a, -Int.pred_toNat, f2s, f2t, f2a, f2b, f2c]
   (repeat' apply And.intro) <;> first | omega | (simp at * <;> omega) | (intro _; intros; simp_all; done) | exact .mk (by simp [-Int.pred_toNat, f2s, f2t, f2a, f2b, f2c] <;> first | rfl) (by simp [-Int.pred_toNat, f2s, f2t, f2a, f2b, f2c] <;> first | rfl) rfl
  exact .inl ⟨(sub s0' 1 (List.length s0' : Int)), (), rfl, h.some, (hs1.trans (.wk (by simp [jzt]) (by simp [jzu]) rfl))⟩
 ·replace h := h.neg e
  refine .exit ?_
  exact .inr ⟨s0', h.some, by simp, ⟨rfl, (.wk (by simp) (by simp) rfl)⟩⟩
theorem qzhi (s0 : List UInt8) (c1 : Int)  (r : List UInt8) (h : jzz s0 c1 = some r) : qzq EE Tryz.prog 146 [.str s0, .int .u8 c1] (.str r) := by
 refine Pure.still ?_ hEE (by simp <;> assumption) (by simp)
 obtain ⟨c, hb, hc⟩ := wzg5
 replace h := Ok.of h; unfold jzz at h
 refine Pure.ofs (fn := Tryz.f146) (n := 17) rfl hb wzg2 (hc 0) rfl rfl (by simp) ?_
 refine AW.rS [(0, .str s0), (1, .int .u8 c1)] [] ?_ ?_
 ·simp [qzxu, -Int.pred_toNat]
  all_goals exact zq1
 refine .seq ?_
 refine .block ?_
 refine AW.lpF (ε := Unit) () h.bd (jzt c1) (jzu c1) (qzbj c1) (by simp [jzt]) (by simp [jzu]) rfl ?_ ?_
 ·rintro s0' ⟨⟩ QQ h
  exact qzf0 c1 s0' QQ h
 ·rintro s0' h ex S' hs
  obtain ⟨rfl, hs⟩ := hs
  refine .see hs ?_
  refine AW.rS [(4, .str s0')] [] ?_ ?_
  ·simp [qz1g, -Int.pred_toNat]
   all_goals exact zq1
  have hr := h.some
  subst hr
  refine AW.rt (rs := qzsi) [(4, .str s0')] [] (by simp) (by simp) rfl rfl (by simp [qzsi]) (by simp [qzsi]; try rfl)
abbrev qzbs (l0 : List qzb) (s : Int) (ex : Unit) : List (Nat × AVal) := match s, ex with | k3, () => [(0, slcV 8 qzb.cells l0), (3, .int .i64 k3)]
abbrev qzbo (l0 : List qzb) (s : Int) (ex : Unit) : List (Nat × AObj) := match s, ex with | k3, () => []
abbrev qzis (l0 : List qzb) : Unit ⊕ Bool → Exit → ASt → Prop := fun o ex S' => match o with | .inl () => ex = .exit 0 ∧ See EE S' ⟨tl [] 33, hl [], []⟩ | .inr o => ex = .ret ∧ Post EE rs30 (fun x _ => x = .bool o) .ret S'
theorem qzn5 (l0 : List qzb) (k3 : Int) (QQ : Int ⊕ (Unit ⊕ Bool) → Prop) (h : Ok (qzbf l0 k3) QQ) : AW EE none Tryz.prog (qz8s 0) (fun ex S' => (∃ s' e', ex = .normal ∧ QQ (.inl s') ∧ See EE S' ⟨tl ((qzbs l0) s' e') 33, hl ((qzbo l0) s' e'), []⟩) ∨ (∃ o, QQ (.inr o) ∧ ex ≠ .normal ∧ (qzis l0) o ex S')) ⟨tl [(0, slcV 8 qzb.cells l0), (3, .int .i64 k3)] 33, hl [], []⟩ := by
 unfold qzbf at h
 refine .seq ?_
 refine AW.rS [(0, slcV 8 qzb.cells l0), (3, .int .i64 k3), (12, .bool (decide (k3 < (List.length l0 : Int))))] [] ?_ ?_
 ·simp [qz97, -Int.pred_toNat]
  all_goals exact zq1
 refine AW.ifF (decide (k3 < (List.length l0 : Int))) rfl (by simp) (fun e => ?_) (fun e => ?_)
 ·replace h := h.pos e
  refine AW.skip ?_
  refine .seq ?_
  refine .block ?_
  obtain ⟨x1, h1, h⟩ := h.at
  obtain ⟨r1, h2, h⟩ := h.ex
  refine AW.rS [(0, slcV 8 qzb.cells l0), (3, .int .i64 k3), (4, .bool r1)] [] ?_ ?_
  ·obtain ⟨f1a, f1b, f1c⟩ := h1
   have f1d : qzd qzb.cells l0 (Int.toNat k3) = qzb.cells x1 := qzo f1c
   have f1e : Int.toNat k3 < List.length l0 := by omega
   simp [qz32, -Int.pred_toNat, f1a, f1b, f1d, f1e]
   (repeat' apply And.intro) <;> try first | omega | (simp at * <;> omega)
   refine (qzj5 x1.Floor 20  _ h2).ca (by simp [-Int.pred_toNat, f1a, f1b, f1d, f1e]) ?_
   (try simp [-Int.pred_toNat, f1a, f1b, f1d, f1e])
   (repeat' apply And.intro) <;> first | omega | (simp at * <;> omega) | (intro _; intros; simp_all; done) | exact .mk (by simp [-Int.pred_toNat, f1a, f1b, f1d, f1e]) (by simp [-Int.pred_toNat, f1a, f1b, f1d, f1e]) rfl
  obtain ⟨x2, h3, h⟩ := h.at
  obtain ⟨r2, h4, h⟩ := h.ex
  refine AW.rS [(0, slcV 8 qzb.cells l0), (3, .int .i64 k3), (4, .bool r1), (5, .bool r2)] [] ?_ ?_
  ·obtain ⟨f2a, f2b, f2c⟩ := h3
   have f2d : qzd qzb.cells l0 (Int.toNat k3) = qzb.cells x2 := qzo f2c
   have f2e : Int.toNat k3 < List.length l0 := by omega
   simp [qz9b, -Int.pred_toNat, f2a, f2b, f2d, f2e]
   (repeat' apply And.intro) <;> try first | omega | (simp at * <;> omega)
   refine (qzj5 x2.Cap 20  _ h4).ca (by simp [-Int.pred_toNat, f2a, f2b, f2d, f2e]) ?_
   (try simp [-Int.pred_toNat, f2a, f2b, f2d, f2e])
   (repeat' apply And.intro) <;> first | omega | (simp at * <;> omega) | (intro _; intros; simp_all; done) | exact .mk (by simp [-Int.pred_toNat, f2a, f2b, f2d, f2e]) (by simp [-Int.pred_toNat, f2a, f2b, f2d, f2e]) rfl
  refine AW.rS [(0, slcV 8 qzb.cells l0), (3, .int .i64 k3), (32, .bool (bif (!r1) then true else (!r2)))] [] ?_ ?_
  ·simp [qz4y, -Int.pred_toNat]
   all_goals exact zq1
  refine AW.ifF (bif (!r1) then true else (!r2)) rfl (by simp) (fun e => ?_) (fun e => ?_)
  ·replace h := h.pos e
   refine AW.rS [(2, .bool false)] [] ?_ ?_
   ·simp [qz6s, -Int.pred_toNat]
    all_goals exact zq1
   exact .ret (.inr ⟨.inr false, h.some, by simp, rfl, .wk (rs := rs30) [(2, .bool false)] [] (by simp) (by simp) rfl (by simp [rs30]) (by simp [rs30]; try rfl)⟩)
  ·replace h := h.neg e
   refine AW.skip ?_
   obtain ⟨h5, h⟩ := h.ck
   refine AW.rE [(0, slcV 8 qzb.cells l0), (3, .int .i64 (k3 + 1))] [] ?_ (fun S' hs1 => ?_)
   ·have f3 := qzr h5
    simp [wzab, -Int.pred_toNat, f3]
    (repeat' apply And.intro) <;> first | omega | (simp at * <;> omega) | (intro _; intros; simp_all; done) | exact .mk (by simp [-Int.pred_toNat, f3]) (by simp [-Int.pred_toNat, f3]) rfl
   exact .inl ⟨(k3 + 1), (), rfl, h.some, (hs1.trans (.wk (by simp [qzbs]) (by simp [qzbo]) rfl))⟩
 ·replace h := h.neg e
  refine .exit ?_
  exact .inr ⟨.inl (), h.some, by simp, ⟨rfl, (.wk (by simp) (by simp) rfl)⟩⟩
theorem qzqs (l0 : List qzb)  (r : Bool) (h : qzdx l0 = some r) : qzq EE Tryz.prog 30 [slcV 8 qzb.cells l0] (.bool r) := by
 refine Pure.still ?_ hEE (by simp [-qzh, (fun l => qzj (st := 8) (c := qzb.cells) (l := l) qzb.noref)] <;> assumption) (by simp [-qzh, (fun l => qzj (st := 8) (c := qzb.cells) (l := l) qzb.noref)])
 obtain ⟨c, hb, hc⟩ := ck30
 replace h := Ok.of h; unfold qzdx at h
 refine Pure.ofs (fn := Tryz.f30) (n := 33) rfl hb cr30 (hc 0) rfl rfl (by simp) ?_
 refine AW.rS [(0, slcV 8 qzb.cells l0)] [] ?_ ?_
 ·simp [wza8, -Int.pred_toNat]
  all_goals exact zq1
 refine .seq ?_
 refine AW.rS [(0, slcV 8 qzb.cells l0), (8, .bool (decide (10 < (List.length l0 : Int))))] [] ?_ ?_
 ·simp [qz73, -Int.pred_toNat]
  all_goals exact zq1
 refine AW.ifF (decide (10 < (List.length l0 : Int))) rfl (by simp) (fun e => ?_) (fun e => ?_)
 ·replace h := h.pos e
  refine AW.rS [(2, .bool false)] [] ?_ ?_
  ·simp [qz96, -Int.pred_toNat]
   all_goals exact zq1
  have hr := h.some
  subst hr
  refine AW.rt (rs := rs30) [(2, .bool false)] [] (by simp) (by simp) rfl rfl (by simp [rs30]) (by simp [rs30]; try rfl)
 ·replace h := h.neg e
  refine AW.skip ?_
  refine .seq ?_
  refine AW.rS [(0, slcV 8 qzb.cells l0), (3, .int .i64 0)] [] ?_ ?_
  ·simp [qz30, -Int.pred_toNat]
   all_goals exact zq1
  refine .block ?_
  refine AW.lpF (ε := Unit) () h.bd (qzbs l0) (qzbo l0) (qzis l0) (by simp [qzbs]) (by simp [qzbo]) rfl ?_ ?_
  ·rintro k3 ⟨⟩ QQ h
   exact qzn5 l0 k3 QQ h
  ·intro o h ex S' hs
   rcases o with ⟨⟩ | o
   ·obtain ⟨rfl, hs⟩ := hs
    refine .see hs ?_
    refine AW.rS [(2, .bool true)] [] ?_ ?_
    ·simp [qz2x, -Int.pred_toNat]
     all_goals exact zq1
    have hr := h.some
    subst hr
    refine AW.rt (rs := rs30) [(2, .bool true)] [] (by simp) (by simp) rfl rfl (by simp [rs30]) (by simp [rs30]; try rfl)
   ·obtain ⟨rfl, hs⟩ := hs
    cases h.some
    exact hs
theorem qzir (s0 : List qzb) (f1 : qzb → Option Bool) (f1_f : FuncId) (f1_b : Nat) (f1_c : List AVal) (f1_n : ∀ x, x ∈ f1_c → qzt x) (f1_h : ∀ a0 r, f1 a0 = some r → FnOk EE Tryz.prog f1_f f1_b f1_c [.agg (qzb.cells a0)] (.bool r)) (r : Bool) (h : jz8 s0 f1 = some r) : qzq EE Tryz.prog 52 [slcV 8 qzb.cells s0, .fn f1_f f1_b f1_c] (.bool r) := by
 refine Pure.still ?_ hEE (by simp [-qzh, (fun l => qzj (st := 8) (c := qzb.cells) (l := l) qzb.noref), kzp, f1_n] <;> assumption) (by simp [-qzh, (fun l => qzj (st := 8) (c := qzb.cells) (l := l) qzb.noref), kzp, f1_n])
 obtain ⟨c, hb, hc⟩ := ck52
 replace h := Ok.of h; unfold jz8 at h
 refine Pure.ofs (fn := Tryz.f52) (n := 9) rfl hb cr52 (hc 0) rfl rfl (by simp) ?_
 refine AW.rS [(0, slcV 8 qzb.cells s0), (1, .fn f1_f f1_b f1_c)] [] ?_ ?_
 ·simp [qz5d, -Int.pred_toNat]
  all_goals exact zq1
 obtain ⟨r1, h1, h⟩ := h.ex
 refine AW.rS [(4, .bool (decide (0 ≤ r1)))] [] ?_ ?_
 ·simp [qz46, -Int.pred_toNat]
  (repeat' apply And.intro) <;> try first | omega | (simp at * <;> omega)
  refine (qzkk s0 f1 f1_f f1_b f1_c f1_n (fun a0 r h => f1_h a0 r h) _ h1).ca (by simp [-Int.pred_toNat]) ?_
  (try simp [-Int.pred_toNat])
  all_goals exact zq1
 have hr := h.some
 subst hr
 refine AW.rt (rs := rs52) [(4, .bool (decide (0 ≤ r1)))] [] (by simp) (by simp) rfl rfl (by simp [rs52]) (by simp [rs52]; try rfl)
abbrev qzcl (a0 : List UInt8) (end4 : Int) (l2 : List Int) (ep0 : Nat) (ep1 : Nat) (ep2 : Nat) (s : Int × Int) (ex : Unit) : List (Nat × AVal) := match s, ex with | (digit5, t22), () => [(0, .str a0), (3, ownV 2 ep2 l2), (4, .int .i64 end4), (5, .int .u32 digit5), (20, slcV 1 (cI .u8) (bytes (sub a0 (max 0 (end4 - 4)) end4))), (21, .int .i64 (List.length (bytes (sub a0 (max 0 (end4 - 4)) end4)) : Int)), (22, .int .i64 t22)]
abbrev qzcm (a0 : List UInt8) (end4 : Int) (l2 : List Int) (ep0 : Nat) (ep1 : Nat) (ep2 : Nat) (s : Int × Int) (ex : Unit) : List (Nat × AObj) := match s, ex with | (digit5, t22), () => [(0, .gone (ep0 + 1)), (1, .gone ep1), (2, ownO ep2 1 (cI .u32) l2)]
abbrev qzi7 (a0 : List UInt8) (end4 : Int) (l2 : List Int) (ep0 : Nat) (ep1 : Nat) (ep2 : Nat) : Int → Exit → ASt → Prop := fun o ex S' => match o with | digit5 => ex = .exit 2 ∧ See EE S' ⟨tl [(0, .str a0), (3, ownV 2 ep2 l2), (4, .int .i64 end4), (5, .int .u32 digit5)] 38, hl [(0, .gone (ep0 + 1)), (1, .gone ep1), (2, ownO ep2 1 (cI .u32) l2)], []⟩
theorem qzos (a0 : List UInt8) (end4 : Int) (l2 : List Int) (ep0 : Nat) (ep1 : Nat) (ep2 : Nat) (digit5 : Int) (t22 : Int) (QQ : (Int × Int) ⊕ Int → Prop) (h : Ok (qzb2 a0 end4 (digit5, t22)) QQ) : AW EE none Tryz.prog (qz4i 0) (fun ex S' => (∃ s' e', ex = .normal ∧ QQ (.inl s') ∧ See EE S' ⟨tl ((qzcl a0 end4 l2 ep0 ep1 ep2) s' e') 38, hl ((qzcm a0 end4 l2 ep0 ep1 ep2) s' e'), []⟩) ∨ (∃ o, QQ (.inr o) ∧ ex ≠ .normal ∧ (qzi7 a0 end4 l2 ep0 ep1 ep2) o ex S')) ⟨tl [(0, .str a0), (3, ownV 2 ep2 l2), (4, .int .i64 end4), (5, .int .u32 digit5), (20, slcV 1 (cI .u8) (bytes (sub a0 (max 0 (end4 - 4)) end4))), (21, .int .i64 (List.length (bytes (sub a0 (max 0 (end4 - 4)) end4)) : Int)), (22, .int .i64 t22)] 38, hl [(0, .gone (ep0 + 1)), (1, .gone ep1), (2, ownO ep2 1 (cI .u32) l2)], []⟩ := by
 unfold qzb2 at h
 refine AW.rS [(0, .str a0), (3, ownV 2 ep2 l2), (4, .int .i64 end4), (5, .int .u32 digit5), (20, slcV 1 (cI .u8) (bytes (sub a0 (max 0 (end4 - 4)) end4))), (21, .int .i64 (List.length (bytes (sub a0 (max 0 (end4 - 4)) end4)) : Int)), (22, .int .i64 t22), (23, .bool (decide (t22 < (List.length (bytes (sub a0 (max 0 (end4 - 4)) end4)) : Int))))] [(0, .gone (ep0 + 1)), (1, .gone ep1), (2, ownO ep2 1 (cI .u32) l2)] ?_ ?_
 ·simp [qz8a, -Int.pred_toNat]
  all_goals exact zq1
 refine .seq ?_
 refine AW.ifF (decide (t22 < (List.length (bytes (sub a0 (max 0 (end4 - 4)) end4)) : Int))) rfl (by simp) (fun e => ?_) (fun e => ?_)
 ·replace h := h.pos e
  refine AW.skip ?_
  refine .seq ?_
  refine .block ?_
  obtain ⟨x1, h3, h⟩ := h.at
  refine AW.rS [(0, .str a0), (3, ownV 2 ep2 l2), (4, .int .i64 end4), (5, .int .u32 digit5), (7, .int .u8 x1), (20, slcV 1 (cI .u8) (bytes (sub a0 (max 0 (end4 - 4)) end4))), (21, .int .i64 (List.length (bytes (sub a0 (max 0 (end4 - 4)) end4)) : Int)), (22, .int .i64 t22)] [(0, .gone (ep0 + 1)), (1, .gone ep1), (2, ownO ep2 1 (cI .u32) l2)] ?_ ?_
  ·obtain ⟨f3a, f3b, f3c⟩ := h3
   have f3d : qzd (cI .u8) (bytes (sub a0 (max 0 (end4 - 4)) end4)) (Int.toNat t22) = (cI .u8) x1 := qzo f3c
   have f3e : Int.toNat t22 < List.length (bytes (sub a0 (max 0 (end4 - 4)) end4)) := by omega
   simp [qz5a, -Int.pred_toNat, f3a, f3b, f3d, f3e]
   (repeat' apply And.intro) <;> first | omega | (simp at * <;> omega) | (intro _; intros; simp_all; done) | exact .mk (by simp [-Int.pred_toNat, f3a, f3b, f3d, f3e]) (by simp [-Int.pred_toNat, f3a, f3b, f3d, f3e]) rfl
  refine AW.rE [(0, .str a0), (3, ownV 2 ep2 l2), (4, .int .i64 end4), (5, .int .u32 (bitI .or .u32 ((digit5 * 256) % 4294967296) (x1 % 4294967296))), (20, slcV 1 (cI .u8) (bytes (sub a0 (max 0 (end4 - 4)) end4))), (21, .int .i64 (List.length (bytes (sub a0 (max 0 (end4 - 4)) end4)) : Int)), (22, .int .i64 t22)] [(0, .gone (ep0 + 1)), (1, .gone ep1), (2, ownO ep2 1 (cI .u32) l2)] ?_ (fun S' hs1 => ?_)
  ·simp [qz68, -Int.pred_toNat]
   (repeat' apply And.intro) <;> first | omega | (simp at * <;> omega) | (intro _; intros; simp_all; done) | exact .mk (by simp [-Int.pred_toNat] <;> first | (intro k hk; rw [qzn _ k (by first | simpa using hk | omega)]; simp)) (by simp [-Int.pred_toNat] <;> first | (intro k hk; rw [qzn _ k (by first | simpa using hk | omega)]; simp)) rfl
  refine .see hs1 ?_
  obtain ⟨h4, h⟩ := h.ck
  refine AW.rE [(0, .str a0), (3, ownV 2 ep2 l2), (4, .int .i64 end4), (5, .int .u32 (bitI .or .u32 ((digit5 * 256) % 4294967296) (x1 % 4294967296))), (20, slcV 1 (cI .u8) (bytes (sub a0 (max 0 (end4 - 4)) end4))), (21, .int .i64 (List.length (bytes (sub a0 (max 0 (end4 - 4)) end4)) : Int)), (22, .int .i64 (t22 + 1))] [(0, .gone (ep0 + 1)), (1, .gone ep1), (2, ownO ep2 1 (cI .u32) l2)] ?_ (fun S' hs2 => ?_)
  ·have f4 := qzr h4
   simp [qz0j, -Int.pred_toNat, f4]
   (repeat' apply And.intro) <;> first | omega | (simp at * <;> omega) | (intro _; intros; simp_all; done) | exact .mk (by simp [-Int.pred_toNat, f4]) (by simp [-Int.pred_toNat, f4]) rfl
  exact .inl ⟨((bitI .or .u32 ((digit5 * 256) % 4294967296) (x1 % 4294967296)), (t22 + 1)), (), rfl, h.some, (hs2.trans (.wk (by simp [qzcl]) (by simp [qzcm]) rfl))⟩
 ·replace h := h.neg e
  refine .exit ?_
  exact .inr ⟨digit5, h.some, by simp, ⟨rfl, (.wk (by simp) (by simp) rfl)⟩⟩
abbrev qzci (a0 : List UInt8) (s : Int × (List Int)) (ex : Nat × Nat × Nat) : List (Nat × AVal) := match s, ex with | (end4, l2), (ep0, ep1, ep2) => [(0, .str a0), (3, ownV 2 ep2 l2), (4, .int .i64 end4)]
abbrev qzck (a0 : List UInt8) (s : Int × (List Int)) (ex : Nat × Nat × Nat) : List (Nat × AObj) := match s, ex with | (end4, l2), (ep0, ep1, ep2) => [(0, .gone ep0), (1, .gone ep1), (2, ownO ep2 1 (cI .u32) l2)]
abbrev qzix (a0 : List UInt8) : (List Int) → Exit → ASt → Prop := fun o ex S' => match o with | l2 => ∃ ep0 : Nat, ∃ ep1 : Nat, ∃ ep2 : Nat, ex = .exit 0 ∧ See EE S' ⟨tl [(3, ownV 2 ep2 l2)] 38, hl [(0, .gone ep0), (1, .gone ep1), (2, ownO ep2 1 (cI .u32) l2)], []⟩
theorem qzo4 (a0 : List UInt8) (end4 : Int) (l2 : List Int) (ep0 : Nat) (ep1 : Nat) (ep2 : Nat) (QQ : (Int × (List Int)) ⊕ (List Int) → Prop) (h : Ok (qzb4 a0 (end4, l2)) QQ) : AW EE none Tryz.prog (qz5j 0) (fun ex S' => (∃ s' e', ex = .normal ∧ QQ (.inl s') ∧ See EE S' ⟨tl ((qzci a0) s' e') 38, hl ((qzck a0) s' e'), []⟩) ∨ (∃ o, QQ (.inr o) ∧ ex ≠ .normal ∧ (qzix a0) o ex S')) ⟨tl [(0, .str a0), (3, ownV 2 ep2 l2), (4, .int .i64 end4)] 38, hl [(0, .gone ep0), (1, .gone ep1), (2, ownO ep2 1 (cI .u32) l2)], []⟩ := by
 unfold qzb4 at h
 refine .seq ?_
 refine AW.rS [(0, .str a0), (3, ownV 2 ep2 l2), (4, .int .i64 end4), (11, .bool (decide (0 < end4)))] [(0, .gone ep0), (1, .gone ep1), (2, ownO ep2 1 (cI .u32) l2)] ?_ ?_
 ·simp [wzba, -Int.pred_toNat]
  all_goals exact zq1
 refine AW.ifF (decide (0 < end4)) rfl (by simp) (fun e => ?_) (fun e => ?_)
 ·replace h := h.pos e
  refine AW.skip ?_
  refine .seq ?_
  refine .block ?_
  refine AW.rS [(0, .str a0), (3, ownV 2 ep2 l2), (4, .int .i64 end4), (5, .int .u32 0)] [(0, .gone ep0), (1, .gone ep1), (2, ownO ep2 1 (cI .u32) l2)] ?_ ?_
  ·simp [wzaq, -Int.pred_toNat]
   all_goals exact zq1
  refine .seq ?_
  obtain ⟨h1, h⟩ := h.ck
  obtain ⟨h2, h⟩ := h.ck
  refine AW.rS [(0, .str a0), (3, ownV 2 ep2 l2), (4, .int .i64 end4), (5, .int .u32 0), (20, slcV 1 (cI .u8) (bytes (sub a0 (max 0 (end4 - 4)) end4))), (21, .int .i64 (List.length (bytes (sub a0 (max 0 (end4 - 4)) end4)) : Int)), (22, .int .i64 0)] [(0, .gone (ep0 + 1)), (1, .gone ep1), (2, ownO ep2 1 (cI .u32) l2)] ?_ ?_
  ·have f1 := qzr h1
   have f2s := vzn h2
   have f2t : List.take (Int.toNat (end4 - (max 0 (end4 - 4)))) (List.drop (Int.toNat (max 0 (end4 - 4))) a0) = sub a0 (max 0 (end4 - 4)) end4 := rfl
   (try simp [-Int.pred_toNat] at f2t)
   obtain ⟨f2a, f2b, f2c⟩ := vz4 h2
   simp [qz4g, -Int.pred_toNat, f1, f2s, f2t, f2a, f2b, f2c]
   (repeat' apply And.intro) <;> first | omega | (simp at * <;> omega) | (intro _; intros; simp_all; done) | exact .mk (by simp [-Int.pred_toNat, f1, f2s, f2t, f2a, f2b, f2c] <;> first | (intro k hk; rw [qzn _ k (by first | simpa using hk | omega)]; simp) | rfl) (by simp [-Int.pred_toNat, f1, f2s, f2t, f2a, f2b, f2c] <;> first | (intro k hk; rw [qzn _ k (by first | simpa using hk | omega)]; simp) | rfl) rfl
  refine .block ?_
  refine AW.lpF (ε := Unit) () h.bd (qzcl a0 end4 l2 ep0 ep1 ep2) (qzcm a0 end4 l2 ep0 ep1 ep2) (qzi7 a0 end4 l2 ep0 ep1 ep2) (by simp [qzcl]) (by simp [qzcm]) rfl ?_ ?_
  ·rintro ⟨digit5, t22⟩ ⟨⟩ QQ h
   exact qzos a0 end4 l2 ep0 ep1 ep2 digit5 t22 QQ h
  ·rintro digit5 h ex S' hs
   obtain ⟨rfl, hs⟩ := hs
   refine .see hs ?_
   obtain ⟨h5, h⟩ := h.ck
   refine AW.rE [(0, .str a0), (3, ownV 2 (ep2 + 1) (l2 ++ [digit5])), (4, .int .i64 end4)] [(0, .gone (ep0 + 1)), (1, .gone (ep1 + 1)), (2, ownO (ep2 + 1) 1 (cI .u32) (l2 ++ [digit5]))] ?_ (fun S' hs3 => ?_)
   ·have f5 := h5
    have f5m := f5
    (try simp [-Int.pred_toNat] at f5m)
    rcases hl : l2 with _ | ⟨y, l⟩
    ·(try simp [hl] at f5)
     simp [qzte, -Int.pred_toNat, f5, f5m, hl]
     (repeat' apply And.intro) <;> first | omega | (simp at * <;> omega) | (intro _; intros; simp_all; done) | exact .mk (by simp [-Int.pred_toNat, f5, f5m, hl]) (by simp [-Int.pred_toNat, f5, f5m, hl]) rfl
    ·(try simp [hl] at f5)
     simp [qzte, -Int.pred_toNat, f5, f5m, hl]
     (repeat' apply And.intro) <;> first | omega | skip
     refine .mk (by simp [-Int.pred_toNat, f5, f5m, hl]) ?_ rfl
     simp [-Int.pred_toNat, f5, f5m, hl]
     intro k hk
     split <;> rename_i hk2
     ·rw [yz1 hk2]; exact .refl _
     ·rw [yze hk2]
      have hj : k - (l.length + 1) < 1 := by omega
      revert hj; generalize k - (l.length + 1) = j; revert j; simp
   refine .see hs3 ?_
   obtain ⟨h7, h⟩ := h.ck
   refine AW.rE [(0, .str a0), (3, ownV 2 (ep2 + 1) (l2 ++ [digit5])), (4, .int .i64 (end4 - 4))] [(0, .gone (ep0 + 1)), (1, .gone (ep1 + 1)), (2, ownO (ep2 + 1) 1 (cI .u32) (l2 ++ [digit5]))] ?_ (fun S' hs4 => ?_)
   ·have f6 := qzr h7
    simp [wzbn, -Int.pred_toNat, f6]
    (repeat' apply And.intro) <;> first | omega | (simp at * <;> omega) | (intro _; intros; simp_all; done) | exact .mk (by simp [-Int.pred_toNat, f6]) (by simp [-Int.pred_toNat, f6]) rfl
   exact .inl ⟨((end4 - 4), (l2 ++ [digit5])), ((ep0 + 1), (ep1 + 1), (ep2 + 1)), rfl, h.some, (hs4.trans (.wk (by simp [qzci]) (by simp [qzck]) rfl))⟩
 ·replace h := h.neg e
  refine .exit ?_
  exact .inr ⟨l2, h.some, by simp, ⟨ep0, ep1, ep2, rfl, (.wk (by simp) (by simp) rfl)⟩⟩
theorem wzo (a0 : List UInt8)  (r : List Int) (h : wzn a0 = some r) : qzq EE Tryz.prog 94 [.str a0] (slcV 1 (cI .u32) r) := by
 refine Pure.still ?_ hEE (by simp [-qzh, (fun l => qzj (st := 1) (c := (cI .u32)) (l := l) (fun a => qz1 (n := a)))] <;> assumption) (by simp [-qzh, (fun l => qzj (st := 1) (c := (cI .u32)) (l := l) (fun a => qz1 (n := a)))])
 obtain ⟨c, hb, hc⟩ := ck94
 replace h := Ok.of h; unfold wzn at h
 refine Pure.ofs (fn := Tryz.f94) (n := 38) rfl hb cr94 (hc 0) rfl rfl (by simp) ?_
 refine AW.rS [(0, .str a0)] [] ?_ ?_
 ·simp [qz9n, -Int.pred_toNat]
  all_goals exact zq1
 refine AW.rS [(0, .str a0), (3, .nils)] [] ?_ ?_
 ·simp [qz95, -Int.pred_toNat]
  all_goals exact zq1
 refine .seq ?_
 refine AW.rS [(0, .str a0), (3, .nils), (4, .int .i64 (List.length a0 : Int))] [] ?_ ?_
 ·simp [wzbf, -Int.pred_toNat]
  all_goals exact zq1
 refine .block ?_
 refine AW.lpF (ε := Nat × Nat × Nat) (0, 0, 0) h.bd (qzci a0) (qzck a0) (qzix a0) (by simp [qzci]) (by simp [qzck]) rfl ?_ ?_
 ·rintro ⟨end4, l2⟩ ⟨ep0, ep1, ep2⟩ QQ h
  exact qzo4 a0 end4 l2 ep0 ep1 ep2 QQ h
 ·rintro l2 h ex S' hs
  obtain ⟨ep0, ep1, ep2, rfl, hs⟩ := hs
  refine .see hs ?_
  refine AW.frzO 2 ep2 1 (cI .u32) l2 [(3, slcV 1 (cI .u32) l2)] [(0, .gone ep0), (1, .gone ep1), (2, .gone (ep2 + 1))] rfl (fun e => ⟨by simp [e], by simp [e], rfl⟩) (fun y k e o ho => ⟨by simp [e, ho], by simp [e, ho], rfl⟩) ?_
  obtain ⟨r1, h8, h⟩ := h.ex
  refine AW.rS [(2, slcV 1 (cI .u32) r1)] [(0, .gone ep0), (1, .gone ep1), (2, .gone (ep2 + 1))] ?_ ?_
  ·simp [qzzs, -Int.pred_toNat]
   (repeat' apply And.intro) <;> try first | omega | (simp at * <;> omega)
   refine (qz4 l2  _ h8).ca (by simp [-Int.pred_toNat]) ?_
   (try simp [-Int.pred_toNat])
   all_goals exact zq1
  have hr := h.some
  subst hr
  refine AW.rt (rs := rs94) [(2, slcV 1 (cI .u32) r1)] [(0, .gone ep0), (1, .gone ep1), (2, .gone (ep2 + 1))] (by simp) (by simp) rfl rfl (by simp [rs94]) (by simp [rs94]; try rfl)
abbrev vzy (by1 : Int) (x0 : List Int) (s : Int × Int × (List Int)) (ex : Unit) : List (Nat × AVal) := match s, ex with | (rest7, k8, l0), () => [(0, slcV 1 (cI .u32) x0), (1, .int .u32 by1), (6, .vec 0 1 0 (List.length l0)), (7, .int .u64 rest7), (8, .int .i64 k8)]
abbrev vz0 (by1 : Int) (x0 : List Int) (s : Int × Int × (List Int)) (ex : Unit) : List (Nat × AObj) := match s, ex with | (rest7, k8, l0), () => [(0, .vec 1 1 (List.length l0) (qzd (cI .u32) l0))]
abbrev qzds (by1 : Int) (x0 : List Int) : Int × (List Int) → Exit → ASt → Prop := fun o ex S' => match o with | (rest7, l0) => ex = .exit 0 ∧ See EE S' ⟨tl [(6, .vec 0 1 0 (List.length l0)), (7, .int .u64 rest7)] 43, hl [(0, .vec 1 1 (List.length l0) (qzd (cI .u32) l0))], []⟩
theorem qzit (by1 : Int) (x0 : List Int) (rest7 : Int) (k8 : Int) (l0 : List Int) (QQ : (Int × Int × (List Int)) ⊕ (Int × (List Int)) → Prop) (h : Ok (kzs by1 x0 (rest7, k8, l0)) QQ) : AW EE none Tryz.prog (qz0e 0) (fun ex S' => (∃ s' e', ex = .normal ∧ QQ (.inl s') ∧ See EE S' ⟨tl ((vzy by1 x0) s' e') 43, hl ((vz0 by1 x0) s' e'), []⟩) ∨ (∃ o, QQ (.inr o) ∧ ex ≠ .normal ∧ (qzds by1 x0) o ex S')) ⟨tl [(0, slcV 1 (cI .u32) x0), (1, .int .u32 by1), (6, .vec 0 1 0 (List.length l0)), (7, .int .u64 rest7), (8, .int .i64 k8)] 43, hl [(0, .vec 1 1 (List.length l0) (qzd (cI .u32) l0))], []⟩ := by
 unfold kzs at h
 refine .seq ?_
 refine AW.rS [(0, slcV 1 (cI .u32) x0), (1, .int .u32 by1), (6, .vec 0 1 0 (List.length l0)), (7, .int .u64 rest7), (8, .int .i64 k8), (16, .bool (decide (0 ≤ k8)))] [(0, .vec 1 1 (List.length l0) (qzd (cI .u32) l0))] ?_ ?_
 ·simp [qz0t, -Int.pred_toNat]
  all_goals exact zq1
 refine AW.ifF (decide (0 ≤ k8)) rfl (by simp) (fun e => ?_) (fun e => ?_)
 ·replace h := h.pos e
  refine AW.skip ?_
  refine .seq ?_
  refine .block ?_
  obtain ⟨x1, h3, h⟩ := h.at
  refine AW.rS [(0, slcV 1 (cI .u32) x0), (1, .int .u32 by1), (6, .vec 0 1 0 (List.length l0)), (7, .int .u64 (bitI .or .u64 ((rest7 * 4294967296) % 18446744073709551616) (x1 % 18446744073709551616))), (8, .int .i64 k8)] [(0, .vec 1 1 (List.length l0) (qzd (cI .u32) l0))] ?_ ?_
  ·obtain ⟨f3a, f3b, f3c⟩ := h3
   have f3d : qzd (cI .u32) x0 (Int.toNat k8) = (cI .u32) x1 := qzo f3c
   have f3e : Int.toNat k8 < List.length x0 := by omega
   simp [qz1u, -Int.pred_toNat, f3a, f3b, f3d, f3e]
   (repeat' apply And.intro) <;> first | omega | (simp at * <;> omega) | (intro _; intros; simp_all; done) | exact .mk (by simp [-Int.pred_toNat, f3a, f3b, f3d, f3e] <;> first | (intro k hk; rw [qzn _ k (by first | simpa using hk | omega)]; simp)) (by simp [-Int.pred_toNat, f3a, f3b, f3d, f3e] <;> first | (intro k hk; rw [qzn _ k (by first | simpa using hk | omega)]; simp)) rfl
  obtain ⟨h4, h⟩ := h.ck
  obtain ⟨h5, h⟩ := h.ck
  obtain ⟨x2, h6, h⟩ := h.at
  refine AW.dE [(0, slcV 1 (cI .u32) x0), (1, .int .u32 by1), (6, .vec 0 1 0 (List.length (List.set l0 (Int.toNat k8) ((((bitI .or .u64 ((rest7 * 4294967296) % 18446744073709551616) (x1 % 18446744073709551616)).tdiv (by1 % 18446744073709551616)) % 18446744073709551616) % 4294967296)))), (7, .int .u64 ((bitI .or .u64 ((rest7 * 4294967296) % 18446744073709551616) (x1 % 18446744073709551616)).tmod (by1 % 18446744073709551616))), (8, .int .i64 k8)] [(0, .vec 1 1 (List.length (List.set l0 (Int.toNat k8) ((((bitI .or .u64 ((rest7 * 4294967296) % 18446744073709551616) (x1 % 18446744073709551616)).tdiv (by1 % 18446744073709551616)) % 18446744073709551616) % 4294967296))) (qzd (cI .u32) (List.set l0 (Int.toNat k8) ((((bitI .or .u64 ((rest7 * 4294967296) % 18446744073709551616) (x1 % 18446744073709551616)).tdiv (by1 % 18446744073709551616)) % 18446744073709551616) % 4294967296))))] ?_ (fun S' hs1 => ?_)
  ·have f4 := h4
   have f5 := h5
   obtain ⟨f6a, f6b, f6c⟩ := h6
   have f6d : qzd (cI .u32) l0 (Int.toNat k8) = (cI .u32) x2 := qzo f6c
   have f6e : Int.toNat k8 < List.length l0 := by omega
   simp [qz0a, -Int.pred_toNat, f4, f5, f6a, f6b, f6d, f6e]
   (repeat' apply And.intro) <;> first | omega | (simp at * <;> omega) | kernel_rfl | (intro _; intros; simp_all; done) | exact .mk (by simp [-Int.pred_toNat, f4, f5, f6a, f6b, f6d, f6e] <;> first | (intro k hk; split <;> simp) | (intro k hk; rw [qzn _ k (by first | simpa using hk | omega)]; simp)) (by simp [-Int.pred_toNat, f4, f5, f6a, f6b, f6d, f6e] <;> first | (intro k hk; split <;> simp) | (intro k hk; rw [qzn _ k (by first | simpa using hk | omega)]; simp)) rfl
  refine .see hs1 ?_
  obtain ⟨h8, h⟩ := h.ck
  refine AW.rE [(0, slcV 1 (cI .u32) x0), (1, .int .u32 by1), (6, .vec 0 1 0 (List.length (List.set l0 (Int.toNat k8) ((((bitI .or .u64 ((rest7 * 4294967296) % 18446744073709551616) (x1 % 18446744073709551616)).tdiv (by1 % 18446744073709551616)) % 18446744073709551616) % 4294967296)))), (7, .int .u64 ((bitI .or .u64 ((rest7 * 4294967296) % 18446744073709551616) (x1 % 18446744073709551616)).tmod (by1 % 18446744073709551616))), (8, .int .i64 (k8 - 1))] [(0, .vec 1 1 (List.length (List.set l0 (Int.toNat k8) ((((bitI .or .u64 ((rest7 * 4294967296) % 18446744073709551616) (x1 % 18446744073709551616)).tdiv (by1 % 18446744073709551616)) % 18446744073709551616) % 4294967296))) (qzd (cI .u32) (List.set l0 (Int.toNat k8) ((((bitI .or .u64 ((rest7 * 4294967296) % 18446744073709551616) (x1 % 18446744073709551616)).tdiv (by1 % 18446744073709551616)) % 18446744073709551616) % 4294967296))))] ?_ (fun S' hs2 => ?_)
  ·have f7 := qzr h8
   simp [qz17, -Int.pred_toNat, f7]
   (repeat' apply And.intro) <;> first | omega | (simp at * <;> omega) | (intro _; intros; simp_all; done) | exact .mk (by simp [-Int.pred_toNat, f7]) (by simp [-Int.pred_toNat, f7]) rfl
  exact .inl ⟨(((bitI .or .u64 ((rest7 * 4294967296) % 18446744073709551616) (x1 % 18446744073709551616)).tmod (by1 % 18446744073709551616)), (k8 - 1), (List.set l0 (Int.toNat k8) ((((bitI .or .u64 ((rest7 * 4294967296) % 18446744073709551616) (x1 % 18446744073709551616)).tdiv (by1 % 18446744073709551616)) % 18446744073709551616) % 4294967296))), (), rfl, h.some, (hs2.trans (.wk (by simp [vzy]) (by simp [vz0]) rfl))⟩
 ·replace h := h.neg e
  refine .exit ?_
  exact .inr ⟨(rest7, l0), h.some, by simp, ⟨rfl, (.wk (by simp) (by simp) rfl)⟩⟩
theorem qzez (x0 : List Int) (by1 : Int)  (r : (List Int) × Int) (h : jzs x0 by1 = some r) : qzq EE Tryz.prog 113 [slcV 1 (cI .u32) x0, .int .u32 by1] (.tup [slcV 1 (cI .u32) r.1, .int .u32 r.2]) := by
 refine Pure.still ?_ hEE (by simp [-qzh, (fun l => qzj (st := 1) (c := (cI .u32)) (l := l) (fun a => qz1 (n := a)))] <;> assumption) (by simp [-qzh, (fun l => qzj (st := 1) (c := (cI .u32)) (l := l) (fun a => qz1 (n := a)))])
 obtain ⟨c, hb, hc⟩ := wzf9
 replace h := Ok.of h; unfold jzs at h
 refine Pure.ofs (fn := Tryz.f113) (n := 43) rfl hb wzgm (hc 0) rfl rfl (by simp) ?_
 refine AW.rS [(0, slcV 1 (cI .u32) x0), (1, .int .u32 by1)] [] ?_ ?_
 ·simp [qz01, -Int.pred_toNat]
  all_goals exact zq1
 obtain ⟨h1, h⟩ := h.ck
 refine AW.rS [(0, slcV 1 (cI .u32) x0), (1, .int .u32 by1), (6, .vec 0 1 0 (List.length (List.replicate (Int.toNat (List.length x0 : Int)) 0))), (7, .int .u64 0)] [(0, .vec 1 1 (List.length (List.replicate (Int.toNat (List.length x0 : Int)) 0)) (qzd (cI .u32) (List.replicate (Int.toNat (List.length x0 : Int)) 0)))] ?_ ?_
 ·obtain ⟨f1a, f1b⟩ := qztk h1
  simp [qz0q, -Int.pred_toNat, f1a, f1b]
  (repeat' apply And.intro) <;> first | omega | (simp at * <;> omega) | (intro _; intros; simp_all; done) | exact .mk (by simp [-Int.pred_toNat, f1a, f1b] <;> first | (intro k hk; rw [kzl (by simpa using hk)]; simp)) (by simp [-Int.pred_toNat, f1a, f1b] <;> first | (intro k hk; rw [kzl (by simpa using hk)]; simp)) rfl
 refine .seq ?_
 obtain ⟨h2, h⟩ := h.ck
 refine AW.rS [(0, slcV 1 (cI .u32) x0), (1, .int .u32 by1), (6, .vec 0 1 0 (List.length (List.replicate (Int.toNat (List.length x0 : Int)) 0))), (7, .int .u64 0), (8, .int .i64 ((List.length x0 : Int) - 1))] [(0, .vec 1 1 (List.length (List.replicate (Int.toNat (List.length x0 : Int)) 0)) (qzd (cI .u32) (List.replicate (Int.toNat (List.length x0 : Int)) 0)))] ?_ ?_
 ·have f2 := qzr h2
  simp [qz1l, -Int.pred_toNat, f2]
  (repeat' apply And.intro) <;> first | omega | (simp at * <;> omega) | (intro _; intros; simp_all; done) | exact .mk (by simp [-Int.pred_toNat, f2]) (by simp [-Int.pred_toNat, f2]) rfl
 refine .block ?_
 refine AW.lpF (ε := Unit) () h.bd (vzy by1 x0) (vz0 by1 x0) (qzds by1 x0) (by simp [vzy]) (by simp [vz0]) rfl ?_ ?_
 ·rintro ⟨rest7, k8, l0⟩ ⟨⟩ QQ h
  exact qzit by1 x0 rest7 k8 l0 QQ h
 ·rintro ⟨rest7, l0⟩ h ex S' hs
  obtain ⟨rfl, hs⟩ := hs
  refine .see hs ?_
  refine AW.frz 0 [(6, slcV 1 (cI .u32) l0), (7, .int .u64 rest7)] [(0, .gone 2)] rfl rfl trivial (by simp) (by simp) rfl ?_
  obtain ⟨r1, h9, h⟩ := h.ex
  refine AW.rS [(4, slcV 1 (cI .u32) r1), (5, .int .u32 (rest7 % 4294967296))] [(0, .gone 2)] ?_ ?_
  ·simp [qzxr, -Int.pred_toNat]
   (repeat' apply And.intro) <;> try first | omega | (simp at * <;> omega)
   refine (qz4 l0  _ h9).ca (by simp [-Int.pred_toNat] <;> first | (intro k hk; rw [qzn _ k (by first | simpa using hk | omega)]; simp)) ?_
   (try simp [-Int.pred_toNat])
   (repeat' apply And.intro) <;> first | omega | (simp at * <;> omega) | (intro _; intros; simp_all; done) | exact .mk (by simp [-Int.pred_toNat] <;> first | (intro k hk; rw [qzn _ k (by first | simpa using hk | omega)]; simp)) (by simp [-Int.pred_toNat] <;> first | (intro k hk; rw [qzn _ k (by first | simpa using hk | omega)]; simp)) rfl
  have hr := h.some
  subst hr
  refine AW.rt (rs := qzr8) [(4, slcV 1 (cI .u32) r1), (5, .int .u32 (rest7 % 4294967296))] [(0, .gone 2)] (by simp) (by simp) rfl rfl (by simp [qzr8]) (by simp [qzr8]; try rfl)
abbrev vzo (t20 : Int) (x0 : List Int) (x1 : Int) (y1 : List Int) (s : Int × Int × (List Int)) (ex : Unit) : List (Nat × AVal) := match s, ex with | (carry8, k9, l0'), () => [(1, slcV 1 (cI .u32) y1), (5, .vec 0 1 0 (List.length l0')), (6, .int .i64 t20), (7, .int .u32 x1), (8, .int .u64 carry8), (9, .int .i64 k9), (18, slcV 1 (cI .u32) x0), (19, .int .i64 (List.length x0 : Int)), (20, .int .i64 t20)]
abbrev vzw (t20 : Int) (x0 : List Int) (x1 : Int) (y1 : List Int) (s : Int × Int × (List Int)) (ex : Unit) : List (Nat × AObj) := match s, ex with | (carry8, k9, l0'), () => [(0, .vec 1 1 (List.length l0') (qzd (cI .u32) l0'))]
abbrev qzdo (t20 : Int) (x0 : List Int) (x1 : Int) (y1 : List Int) : (List Int) → Exit → ASt → Prop := fun o ex S' => match o with | l0' => ex = .exit 2 ∧ See EE S' ⟨tl [(1, slcV 1 (cI .u32) y1), (5, .vec 0 1 0 (List.length l0')), (18, slcV 1 (cI .u32) x0), (19, .int .i64 (List.length x0 : Int)), (20, .int .i64 t20)] 63, hl [(0, .vec 1 1 (List.length l0') (qzd (cI .u32) l0'))], []⟩
theorem qziv (t20 : Int) (x0 : List Int) (x1 : Int) (y1 : List Int) (carry8 : Int) (k9 : Int) (l0' : List Int) (QQ : (Int × Int × (List Int)) ⊕ (List Int) → Prop) (h : Ok (jzl t20 x1 y1 (carry8, k9, l0')) QQ) : AW EE none Tryz.prog (qzy3 0) (fun ex S' => (∃ s' e', ex = .normal ∧ QQ (.inl s') ∧ See EE S' ⟨tl ((vzo t20 x0 x1 y1) s' e') 63, hl ((vzw t20 x0 x1 y1) s' e'), []⟩) ∨ (∃ o, QQ (.inr o) ∧ ex ≠ .normal ∧ (qzdo t20 x0 x1 y1) o ex S')) ⟨tl [(1, slcV 1 (cI .u32) y1), (5, .vec 0 1 0 (List.length l0')), (6, .int .i64 t20), (7, .int .u32 x1), (8, .int .u64 carry8), (9, .int .i64 k9), (18, slcV 1 (cI .u32) x0), (19, .int .i64 (List.length x0 : Int)), (20, .int .i64 t20)] 63, hl [(0, .vec 1 1 (List.length l0') (qzd (cI .u32) l0'))], []⟩ := by
 unfold jzl at h
 refine .seq ?_
 refine AW.rS [(1, slcV 1 (cI .u32) y1), (5, .vec 0 1 0 (List.length l0')), (6, .int .i64 t20), (7, .int .u32 x1), (8, .int .u64 carry8), (9, .int .i64 k9), (18, slcV 1 (cI .u32) x0), (19, .int .i64 (List.length x0 : Int)), (20, .int .i64 t20), (32, .bool (bif (decide (k9 < (List.length y1 : Int))) then true else (decide (0 < carry8))))] [(0, .vec 1 1 (List.length l0') (qzd (cI .u32) l0'))] ?_ ?_
 ·simp [qzzv, -Int.pred_toNat]
  all_goals exact zq1
 refine AW.ifF (bif (decide (k9 < (List.length y1 : Int))) then true else (decide (0 < carry8))) rfl (by simp) (fun e => ?_) (fun e => ?_)
 ·replace h := h.pos e
  refine AW.skip ?_
  refine .seq ?_
  refine .block ?_
  obtain ⟨r1, h5, h⟩ := h.ex
  obtain ⟨h6, h⟩ := h.ck
  obtain ⟨x2, h7, h⟩ := h.at
  refine AW.dS [(1, slcV 1 (cI .u32) y1), (5, .vec 0 1 0 (List.length l0')), (6, .int .i64 t20), (7, .int .u32 x1), (9, .int .i64 k9), (10, .int .u64 (((((((x1 % 18446744073709551616) * r1) % 18446744073709551616) + (x2 % 18446744073709551616)) % 18446744073709551616) + carry8) % 18446744073709551616)), (18, slcV 1 (cI .u32) x0), (19, .int .i64 (List.length x0 : Int)), (20, .int .i64 t20)] [(0, .vec 1 1 (List.length l0') (qzd (cI .u32) l0'))] ?_ ?_
  ·have f5 := qzr h6
   obtain ⟨f6a, f6b, f6c⟩ := h7
   have f6d : qzd (cI .u32) l0' (Int.toNat (t20 + k9)) = (cI .u32) x2 := qzo f6c
   have f6e : Int.toNat (t20 + k9) < List.length l0' := by omega
   simp [qzzk, -Int.pred_toNat, f5, f6a, f6b, f6d, f6e]
   (repeat' apply And.intro) <;> try first | omega | (simp at * <;> omega)
   refine (qza3 y1 k9  _ h5).cd (by simp [-Int.pred_toNat, f5, f6a, f6b, f6d, f6e] <;> first | (intro k hk; rw [qzn _ k (by first | simpa using hk | omega)]; simp)) ?_
   (try simp [-Int.pred_toNat, f5, f6a, f6b, f6d, f6e])
   (repeat' apply And.intro) <;> first | omega | (simp at * <;> omega) | kernel_rfl | (intro _; intros; simp_all; done) | exact .mk (by simp [-Int.pred_toNat, f5, f6a, f6b, f6d, f6e] <;> first | (intro k hk; rw [qzn _ k (by first | simpa using hk | omega)]; simp)) (by simp [-Int.pred_toNat, f5, f6a, f6b, f6d, f6e] <;> first | (intro k hk; rw [qzn _ k (by first | simpa using hk | omega)]; simp)) rfl
  obtain ⟨h8, h⟩ := h.ck
  obtain ⟨x3, h9, h⟩ := h.at
  refine AW.rE [(1, slcV 1 (cI .u32) y1), (5, .vec 0 1 0 (List.length (List.set l0' (Int.toNat (t20 + k9)) ((((((((x1 % 18446744073709551616) * r1) % 18446744073709551616) + (x2 % 18446744073709551616)) % 18446744073709551616) + carry8) % 18446744073709551616) % 4294967296)))), (6, .int .i64 t20), (7, .int .u32 x1), (8, .int .u64 (Int.fdiv (((((((x1 % 18446744073709551616) * r1) % 18446744073709551616) + (x2 % 18446744073709551616)) % 18446744073709551616) + carry8) % 18446744073709551616) 4294967296)), (9, .int .i64 k9), (18, slcV 1 (cI .u32) x0), (19, .int .i64 (List.length x0 : Int)), (20, .int .i64 t20)] [(0, .vec 1 1 (List.length (List.set l0' (Int.toNat (t20 + k9)) ((((((((x1 % 18446744073709551616) * r1) % 18446744073709551616) + (x2 % 18446744073709551616)) % 18446744073709551616) + carry8) % 18446744073709551616) % 4294967296))) (qzd (cI .u32) (List.set l0' (Int.toNat (t20 + k9)) ((((((((x1 % 18446744073709551616) * r1) % 18446744073709551616) + (x2 % 18446744073709551616)) % 18446744073709551616) + carry8) % 18446744073709551616) % 4294967296))))] ?_ (fun S' hs1 => ?_)
  ·have f7 := qzr h8
   obtain ⟨f8a, f8b, f8c⟩ := h9
   have f8d : qzd (cI .u32) l0' (Int.toNat (t20 + k9)) = (cI .u32) x3 := qzo f8c
   have f8e : Int.toNat (t20 + k9) < List.length l0' := by omega
   simp [qzv3, -Int.pred_toNat, f7, f8a, f8b, f8d, f8e]
   (repeat' apply And.intro) <;> first | omega | (simp at * <;> omega) | (intro _; intros; simp_all; done) | exact .mk (by simp [-Int.pred_toNat, f7, f8a, f8b, f8d, f8e] <;> first | (intro k hk; split <;> simp) | (intro k hk; rw [qzn _ k (by first | simpa using hk | omega)]; simp)) (by simp [-Int.pred_toNat, f7, f8a, f8b, f8d, f8e] <;> first | (intro k hk; split <;> simp) | (intro k hk; rw [qzn _ k (by first | simpa using hk | omega)]; simp)) rfl
  refine .see hs1 ?_
  obtain ⟨h11, h⟩ := h.ck
  refine AW.rE [(1, slcV 1 (cI .u32) y1), (5, .vec 0 1 0 (List.length (List.set l0' (Int.toNat (t20 + k9)) ((((((((x1 % 18446744073709551616) * r1) % 18446744073709551616) + (x2 % 18446744073709551616)) % 18446744073709551616) + carry8) % 18446744073709551616) % 4294967296)))), (6, .int .i64 t20), (7, .int .u32 x1), (8, .int .u64 (Int.fdiv (((((((x1 % 18446744073709551616) * r1) % 18446744073709551616) + (x2 % 18446744073709551616)) % 18446744073709551616) + carry8) % 18446744073709551616) 4294967296)), (9, .int .i64 (k9 + 1)), (18, slcV 1 (cI .u32) x0), (19, .int .i64 (List.length x0 : Int)), (20, .int .i64 t20)] [(0, .vec 1 1 (List.length (List.set l0' (Int.toNat (t20 + k9)) ((((((((x1 % 18446744073709551616) * r1) % 18446744073709551616) + (x2 % 18446744073709551616)) % 18446744073709551616) + carry8) % 18446744073709551616) % 4294967296))) (qzd (cI .u32) (List.set l0' (Int.toNat (t20 + k9)) ((((((((x1 % 18446744073709551616) * r1) % 18446744073709551616) + (x2 % 18446744073709551616)) % 18446744073709551616) + carry8) % 18446744073709551616) % 4294967296))))] ?_ (fun S' hs2 => ?_)
  ·have f9 := qzr h11
   simp [qzyz, -Int.pred_toNat, f9]
   (repeat' apply And.intro) <;> first | omega | (simp at * <;> omega) | (intro _; intros; simp_all; done) | exact .mk (by simp [-Int.pred_toNat, f9]) (by simp [-Int.pred_toNat, f9]) rfl
  exact .inl ⟨((Int.fdiv (((((((x1 % 18446744073709551616) * r1) % 18446744073709551616) + (x2 % 18446744073709551616)) % 18446744073709551616) + carry8) % 18446744073709551616) 4294967296), (k9 + 1), (List.set l0' (Int.toNat (t20 + k9)) ((((((((x1 % 18446744073709551616) * r1) % 18446744073709551616) + (x2 % 18446744073709551616)) % 18446744073709551616) + carry8) % 18446744073709551616) % 4294967296))), (), rfl, h.some, (hs2.trans (.wk (by simp [vzo]) (by simp [vzw]) rfl))⟩
 ·replace h := h.neg e
  refine .exit ?_
  exact .inr ⟨l0', h.some, by simp, ⟨rfl, (.wk (by simp) (by simp) rfl)⟩⟩
abbrev vzz (x0 : List Int) (y1 : List Int) (s : Int × (List Int)) (ex : Unit) : List (Nat × AVal) := match s, ex with | (t20, l0), () => [(1, slcV 1 (cI .u32) y1), (5, .vec 0 1 0 (List.length l0)), (18, slcV 1 (cI .u32) x0), (19, .int .i64 (List.length x0 : Int)), (20, .int .i64 t20)]
abbrev vzp (x0 : List Int) (y1 : List Int) (s : Int × (List Int)) (ex : Unit) : List (Nat × AObj) := match s, ex with | (t20, l0), () => [(0, .vec 1 1 (List.length l0) (qzd (cI .u32) l0))]
abbrev qzdy (x0 : List Int) (y1 : List Int) : (List Int) → Exit → ASt → Prop := fun o ex S' => match o with | l0 => ex = .exit 0 ∧ See EE S' ⟨tl [(5, .vec 0 1 0 (List.length l0))] 63, hl [(0, .vec 1 1 (List.length l0) (qzd (cI .u32) l0))], []⟩
theorem qziu (x0 : List Int) (y1 : List Int) (t20 : Int) (l0 : List Int) (QQ : (Int × (List Int)) ⊕ (List Int) → Prop) (h : Ok (kzu x0 y1 (t20, l0)) QQ) : AW EE none Tryz.prog (qz05 0) (fun ex S' => (∃ s' e', ex = .normal ∧ QQ (.inl s') ∧ See EE S' ⟨tl ((vzz x0 y1) s' e') 63, hl ((vzp x0 y1) s' e'), []⟩) ∨ (∃ o, QQ (.inr o) ∧ ex ≠ .normal ∧ (qzdy x0 y1) o ex S')) ⟨tl [(1, slcV 1 (cI .u32) y1), (5, .vec 0 1 0 (List.length l0)), (18, slcV 1 (cI .u32) x0), (19, .int .i64 (List.length x0 : Int)), (20, .int .i64 t20)] 63, hl [(0, .vec 1 1 (List.length l0) (qzd (cI .u32) l0))], []⟩ := by
 unfold kzu at h
 refine AW.rS [(1, slcV 1 (cI .u32) y1), (5, .vec 0 1 0 (List.length l0)), (18, slcV 1 (cI .u32) x0), (19, .int .i64 (List.length x0 : Int)), (20, .int .i64 t20), (21, .bool (decide (t20 < (List.length x0 : Int))))] [(0, .vec 1 1 (List.length l0) (qzd (cI .u32) l0))] ?_ ?_
 ·simp [qz1f, -Int.pred_toNat]
  all_goals exact zq1
 refine .seq ?_
 refine AW.ifF (decide (t20 < (List.length x0 : Int))) rfl (by simp) (fun e => ?_) (fun e => ?_)
 ·replace h := h.pos e
  refine AW.skip ?_
  refine .seq ?_
  refine .block ?_
  obtain ⟨x1, h4, h⟩ := h.at
  refine AW.rS [(1, slcV 1 (cI .u32) y1), (5, .vec 0 1 0 (List.length l0)), (6, .int .i64 t20), (7, .int .u32 x1), (18, slcV 1 (cI .u32) x0), (19, .int .i64 (List.length x0 : Int)), (20, .int .i64 t20)] [(0, .vec 1 1 (List.length l0) (qzd (cI .u32) l0))] ?_ ?_
  ·obtain ⟨f4a, f4b, f4c⟩ := h4
   have f4d : qzd (cI .u32) x0 (Int.toNat t20) = (cI .u32) x1 := qzo f4c
   have f4e : Int.toNat t20 < List.length x0 := by omega
   simp [qz1w, -Int.pred_toNat, f4a, f4b, f4d, f4e]
   (repeat' apply And.intro) <;> first | omega | (simp at * <;> omega) | (intro _; intros; simp_all; done) | exact .mk (by simp [-Int.pred_toNat, f4a, f4b, f4d, f4e]) (by simp [-Int.pred_toNat, f4a, f4b, f4d, f4e]) rfl
  refine AW.rS [(1, slcV 1 (cI .u32) y1), (5, .vec 0 1 0 (List.length l0)), (6, .int .i64 t20), (7, .int .u32 x1), (8, .int .u64 0), (18, slcV 1 (cI .u32) x0), (19, .int .i64 (List.length x0 : Int)), (20, .int .i64 t20)] [(0, .vec 1 1 (List.length l0) (qzd (cI .u32) l0))] ?_ ?_
  ·simp [qz0x, -Int.pred_toNat]
   all_goals exact zq1
  refine AW.rS [(1, slcV 1 (cI .u32) y1), (5, .vec 0 1 0 (List.length l0)), (6, .int .i64 t20), (7, .int .u32 x1), (8, .int .u64 0), (9, .int .i64 0), (18, slcV 1 (cI .u32) x0), (19, .int .i64 (List.length x0 : Int)), (20, .int .i64 t20)] [(0, .vec 1 1 (List.length l0) (qzd (cI .u32) l0))] ?_ ?_
  ·simp [qzyy, -Int.pred_toNat]
   all_goals exact zq1
  refine .block ?_
  refine AW.lpF (ε := Unit) () h.bd (vzo t20 x0 x1 y1) (vzw t20 x0 x1 y1) (qzdo t20 x0 x1 y1) (by simp [vzo]) (by simp [vzw]) rfl ?_ ?_
  ·rintro ⟨carry8, k9, l0'⟩ ⟨⟩ QQ h
   exact qziv t20 x0 x1 y1 carry8 k9 l0' QQ h
  ·rintro l0' h ex S' hs
   obtain ⟨rfl, hs⟩ := hs
   refine .see hs ?_
   obtain ⟨h12, h⟩ := h.ck
   refine AW.rE [(1, slcV 1 (cI .u32) y1), (5, .vec 0 1 0 (List.length l0')), (18, slcV 1 (cI .u32) x0), (19, .int .i64 (List.length x0 : Int)), (20, .int .i64 (t20 + 1))] [(0, .vec 1 1 (List.length l0') (qzd (cI .u32) l0'))] ?_ (fun S' hs3 => ?_)
   ·have f10 := qzr h12
    simp [qzv5, -Int.pred_toNat, f10]
    (repeat' apply And.intro) <;> first | omega | (simp at * <;> omega) | (intro _; intros; simp_all; done) | exact .mk (by simp [-Int.pred_toNat, f10]) (by simp [-Int.pred_toNat, f10]) rfl
   exact .inl ⟨((t20 + 1), l0'), (), rfl, h.some, (hs3.trans (.wk (by simp [vzz]) (by simp [vzp]) rfl))⟩
 ·replace h := h.neg e
  refine .exit ?_
  exact .inr ⟨l0, h.some, by simp, ⟨rfl, (.wk (by simp) (by simp) rfl)⟩⟩
theorem qzbl (x0 : List Int) (y1 : List Int)  (r : List Int) (h : wz1 x0 y1 = some r) : qzq EE Tryz.prog 117 [slcV 1 (cI .u32) x0, slcV 1 (cI .u32) y1] (slcV 1 (cI .u32) r) := by
 refine Pure.still ?_ hEE (by simp [-qzh, (fun l => qzj (st := 1) (c := (cI .u32)) (l := l) (fun a => qz1 (n := a)))] <;> assumption) (by simp [-qzh, (fun l => qzj (st := 1) (c := (cI .u32)) (l := l) (fun a => qz1 (n := a)))])
 obtain ⟨c, hb, hc⟩ := wzf6
 replace h := Ok.of h; unfold wz1 at h
 refine Pure.ofs (fn := Tryz.f117) (n := 63) rfl hb wzgo (hc 0) rfl rfl (by simp) ?_
 refine AW.rS [(0, slcV 1 (cI .u32) x0), (1, slcV 1 (cI .u32) y1)] [] ?_ ?_
 ·simp [qzyx, -Int.pred_toNat]
  all_goals exact zq1
 obtain ⟨h1, h⟩ := h.ck
 obtain ⟨h2, h⟩ := h.ck
 obtain ⟨h3, h⟩ := h.ck
 refine AW.rS [(0, slcV 1 (cI .u32) x0), (1, slcV 1 (cI .u32) y1), (5, .vec 0 1 0 (List.length (List.replicate (Int.toNat (((List.length x0 : Int) + (List.length y1 : Int)) + 1)) 0)))] [(0, .vec 1 1 (List.length (List.replicate (Int.toNat (((List.length x0 : Int) + (List.length y1 : Int)) + 1)) 0)) (qzd (cI .u32) (List.replicate (Int.toNat (((List.length x0 : Int) + (List.length y1 : Int)) + 1)) 0)))] ?_ ?_
 ·have f1 := qzr h1
  have f2 := qzr h2
  obtain ⟨f3a, f3b⟩ := qztk h3
  simp [qzym, -Int.pred_toNat, f1, f2, f3a, f3b]
  (repeat' apply And.intro) <;> first | omega | (simp at * <;> omega) | (intro _; intros; simp_all; done) | exact .mk (by simp [-Int.pred_toNat, f1, f2, f3a, f3b] <;> first | (intro k hk; rw [kzl (by simpa using hk)]; simp)) (by simp [-Int.pred_toNat, f1, f2, f3a, f3b] <;> first | (intro k hk; rw [kzl (by simpa using hk)]; simp)) rfl
 refine .seq ?_
 refine AW.rS [(1, slcV 1 (cI .u32) y1), (5, .vec 0 1 0 (List.length (List.replicate (Int.toNat (((List.length x0 : Int) + (List.length y1 : Int)) + 1)) 0))), (18, slcV 1 (cI .u32) x0), (19, .int .i64 (List.length x0 : Int)), (20, .int .i64 0)] [(0, .vec 1 1 (List.length (List.replicate (Int.toNat (((List.length x0 : Int) + (List.length y1 : Int)) + 1)) 0)) (qzd (cI .u32) (List.replicate (Int.toNat (((List.length x0 : Int) + (List.length y1 : Int)) + 1)) 0)))] ?_ ?_
 ·simp [qzxp, -Int.pred_toNat]
  all_goals exact zq1
 refine .block ?_
 refine AW.lpF (ε := Unit) () h.bd (vzz x0 y1) (vzp x0 y1) (qzdy x0 y1) (by simp [vzz]) (by simp [vzp]) rfl ?_ ?_
 ·rintro ⟨t20, l0⟩ ⟨⟩ QQ h
  exact qziu x0 y1 t20 l0 QQ h
 ·rintro l0 h ex S' hs
  obtain ⟨rfl, hs⟩ := hs
  refine .see hs ?_
  refine AW.frz 0 [(5, slcV 1 (cI .u32) l0)] [(0, .gone 2)] rfl rfl trivial (by simp) (by simp) rfl ?_
  obtain ⟨r2, h13, h⟩ := h.ex
  refine AW.rS [(4, slcV 1 (cI .u32) r2)] [(0, .gone 2)] ?_ ?_
  ·simp [qzv1, -Int.pred_toNat]
   (repeat' apply And.intro) <;> try first | omega | (simp at * <;> omega)
   refine (qz4 l0  _ h13).ca (by simp [-Int.pred_toNat]) ?_
   (try simp [-Int.pred_toNat])
   all_goals exact zq1
  have hr := h.some
  subst hr
  refine AW.rt (rs := qzsb) [(4, slcV 1 (cI .u32) r2)] [(0, .gone 2)] (by simp) (by simp) rfl rfl (by simp [qzsb]) (by simp [qzsb]; try rfl)
abbrev vzt (x0 : List Int) (y1 : List Int) (s : Int × Int × (List Int)) (ex : Nat × Nat) : List (Nat × AVal) := match s, ex with | (borrow6, t11, l1), (ep0, ep1) => [(0, slcV 1 (cI .u32) x0), (1, slcV 1 (cI .u32) y1), (5, ownV 1 ep1 l1), (6, .int .u64 borrow6), (10, .int .i64 (List.length x0 : Int)), (11, .int .i64 t11)]
abbrev vzv (x0 : List Int) (y1 : List Int) (s : Int × Int × (List Int)) (ex : Nat × Nat) : List (Nat × AObj) := match s, ex with | (borrow6, t11, l1), (ep0, ep1) => [(0, .gone ep0), (1, ownO ep1 1 (cI .u32) l1)]
abbrev qzdn (x0 : List Int) (y1 : List Int) : (List Int) → Exit → ASt → Prop := fun o ex S' => match o with | l1 => ∃ ep0 : Nat, ∃ ep1 : Nat, ex = .exit 0 ∧ See EE S' ⟨tl [(5, ownV 1 ep1 l1)] 35, hl [(0, .gone ep0), (1, ownO ep1 1 (cI .u32) l1)], []⟩
theorem qziw (x0 : List Int) (y1 : List Int) (borrow6 : Int) (t11 : Int) (l1 : List Int) (ep0 : Nat) (ep1 : Nat) (QQ : (Int × Int × (List Int)) ⊕ (List Int) → Prop) (h : Ok (kzo x0 y1 (borrow6, t11, l1)) QQ) : AW EE none Tryz.prog (qz1z 0) (fun ex S' => (∃ s' e', ex = .normal ∧ QQ (.inl s') ∧ See EE S' ⟨tl ((vzt x0 y1) s' e') 35, hl ((vzv x0 y1) s' e'), []⟩) ∨ (∃ o, QQ (.inr o) ∧ ex ≠ .normal ∧ (qzdn x0 y1) o ex S')) ⟨tl [(0, slcV 1 (cI .u32) x0), (1, slcV 1 (cI .u32) y1), (5, ownV 1 ep1 l1), (6, .int .u64 borrow6), (10, .int .i64 (List.length x0 : Int)), (11, .int .i64 t11)] 35, hl [(0, .gone ep0), (1, ownO ep1 1 (cI .u32) l1)], []⟩ := by
 unfold kzo at h
 refine AW.rS [(0, slcV 1 (cI .u32) x0), (1, slcV 1 (cI .u32) y1), (5, ownV 1 ep1 l1), (6, .int .u64 borrow6), (10, .int .i64 (List.length x0 : Int)), (11, .int .i64 t11), (12, .bool (decide (t11 < (List.length x0 : Int))))] [(0, .gone ep0), (1, ownO ep1 1 (cI .u32) l1)] ?_ ?_
 ·simp [qzz1, -Int.pred_toNat]
  all_goals exact zq1
 refine .seq ?_
 refine AW.ifF (decide (t11 < (List.length x0 : Int))) rfl (by simp) (fun e => ?_) (fun e => ?_)
 ·replace h := h.pos e
  refine AW.skip ?_
  refine .seq ?_
  refine .block ?_
  refine AW.rS [(0, slcV 1 (cI .u32) x0), (1, slcV 1 (cI .u32) y1), (5, ownV 1 ep1 l1), (6, .int .u64 borrow6), (7, .int .i64 t11), (10, .int .i64 (List.length x0 : Int)), (11, .int .i64 t11)] [(0, .gone ep0), (1, ownO ep1 1 (cI .u32) l1)] ?_ ?_
  ·simp [qzx5, -Int.pred_toNat]
   all_goals exact zq1
  obtain ⟨x1, h1, h⟩ := h.at
  obtain ⟨r1, h2, h⟩ := h.ex
  refine AW.dS [(0, slcV 1 (cI .u32) x0), (1, slcV 1 (cI .u32) y1), (5, ownV 1 ep1 l1), (8, .int .u64 (((((x1 % 18446744073709551616) - r1) % 18446744073709551616) - borrow6) % 18446744073709551616)), (10, .int .i64 (List.length x0 : Int)), (11, .int .i64 t11)] [(0, .gone ep0), (1, ownO ep1 1 (cI .u32) l1)] ?_ ?_
  ·obtain ⟨f1a, f1b, f1c⟩ := h1
   have f1d : qzd (cI .u32) x0 (Int.toNat t11) = (cI .u32) x1 := qzo f1c
   have f1e : Int.toNat t11 < List.length x0 := by omega
   simp [qzx4, -Int.pred_toNat, f1a, f1b, f1d, f1e]
   (repeat' apply And.intro) <;> try first | omega | (simp at * <;> omega)
   refine (qza3 y1 t11  _ h2).cd (by simp [-Int.pred_toNat, f1a, f1b, f1d, f1e] <;> first | (intro k hk; rw [qzn _ k (by first | simpa using hk | omega)]; simp)) ?_
   (try simp [-Int.pred_toNat, f1a, f1b, f1d, f1e])
   (repeat' apply And.intro) <;> first | omega | (simp at * <;> omega) | kernel_rfl | (intro _; intros; simp_all; done) | exact .mk (by simp [-Int.pred_toNat, f1a, f1b, f1d, f1e] <;> first | (intro k hk; rw [qzn _ k (by first | simpa using hk | omega)]; simp)) (by simp [-Int.pred_toNat, f1a, f1b, f1d, f1e] <;> first | (intro k hk; rw [qzn _ k (by first | simpa using hk | omega)]; simp)) rfl
  obtain ⟨h3, h⟩ := h.ck
  refine AW.rE [(0, slcV 1 (cI .u32) x0), (1, slcV 1 (cI .u32) y1), (5, ownV 1 (ep1 + 1) (l1 ++ [((((((x1 % 18446744073709551616) - r1) % 18446744073709551616) - borrow6) % 18446744073709551616) % 4294967296)])), (6, .int .u64 (Int.fdiv (((((x1 % 18446744073709551616) - r1) % 18446744073709551616) - borrow6) % 18446744073709551616) 9223372036854775808)), (10, .int .i64 (List.length x0 : Int)), (11, .int .i64 t11)] [(0, .gone (ep0 + 1)), (1, ownO (ep1 + 1) 1 (cI .u32) (l1 ++ [((((((x1 % 18446744073709551616) - r1) % 18446744073709551616) - borrow6) % 18446744073709551616) % 4294967296)]))] ?_ (fun S' hs1 => ?_)
  ·have f2 := h3
   have f2m := f2
   (try simp [-Int.pred_toNat] at f2m)
   rcases hl : l1 with _ | ⟨y, l⟩
   ·(try simp [hl] at f2)
    simp [qzty, -Int.pred_toNat, f2, f2m, hl]
    (repeat' apply And.intro) <;> first | omega | (simp at * <;> omega) | (intro _; intros; simp_all; done) | exact .mk (by simp [-Int.pred_toNat, f2, f2m, hl] <;> first | (intro k hk; rw [qzn _ k (by first | simpa using hk | omega)]; simp)) (by simp [-Int.pred_toNat, f2, f2m, hl] <;> first | (intro k hk; rw [qzn _ k (by first | simpa using hk | omega)]; simp)) rfl
   ·(try simp [hl] at f2)
    simp [qzty, -Int.pred_toNat, f2, f2m, hl]
    (repeat' apply And.intro) <;> first | omega | skip
    refine .mk (by simp [-Int.pred_toNat, f2, f2m, hl]) ?_ rfl
    simp [-Int.pred_toNat, f2, f2m, hl]
    intro k hk
    split <;> rename_i hk2
    ·rw [yz1 hk2]; exact .refl _
    ·rw [yze hk2]
     have hj : k - (l.length + 1) < 1 := by omega
     revert hj; generalize k - (l.length + 1) = j; revert j; simp
  refine .see hs1 ?_
  obtain ⟨h5, h⟩ := h.ck
  refine AW.rE [(0, slcV 1 (cI .u32) x0), (1, slcV 1 (cI .u32) y1), (5, ownV 1 (ep1 + 1) (l1 ++ [((((((x1 % 18446744073709551616) - r1) % 18446744073709551616) - borrow6) % 18446744073709551616) % 4294967296)])), (6, .int .u64 (Int.fdiv (((((x1 % 18446744073709551616) - r1) % 18446744073709551616) - borrow6) % 18446744073709551616) 9223372036854775808)), (10, .int .i64 (List.length x0 : Int)), (11, .int .i64 (t11 + 1))] [(0, .gone (ep0 + 1)), (1, ownO (ep1 + 1) 1 (cI .u32) (l1 ++ [((((((x1 % 18446744073709551616) - r1) % 18446744073709551616) - borrow6) % 18446744073709551616) % 4294967296)]))] ?_ (fun S' hs2 => ?_)
  ·have f3 := qzr h5
   simp [qzzn, -Int.pred_toNat, f3]
   (repeat' apply And.intro) <;> first | omega | (simp at * <;> omega) | (intro _; intros; simp_all; done) | exact .mk (by simp [-Int.pred_toNat, f3]) (by simp [-Int.pred_toNat, f3]) rfl
  exact .inl ⟨((Int.fdiv (((((x1 % 18446744073709551616) - r1) % 18446744073709551616) - borrow6) % 18446744073709551616) 9223372036854775808), (t11 + 1), (l1 ++ [((((((x1 % 18446744073709551616) - r1) % 18446744073709551616) - borrow6) % 18446744073709551616) % 4294967296)])), ((ep0 + 1), (ep1 + 1)), rfl, h.some, (hs2.trans (.wk (by simp [vzt]) (by simp [vzv]) rfl))⟩
 ·replace h := h.neg e
  refine .exit ?_
  exact .inr ⟨l1, h.some, by simp, ⟨ep0, ep1, rfl, (.wk (by simp) (by simp) rfl)⟩⟩
theorem qzbu (x0 : List Int) (y1 : List Int)  (r : List Int) (h : wzz x0 y1 = some r) : qzq EE Tryz.prog 118 [slcV 1 (cI .u32) x0, slcV 1 (cI .u32) y1] (slcV 1 (cI .u32) r) := by
 refine Pure.still ?_ hEE (by simp [-qzh, (fun l => qzj (st := 1) (c := (cI .u32)) (l := l) (fun a => qz1 (n := a)))] <;> assumption) (by simp [-qzh, (fun l => qzj (st := 1) (c := (cI .u32)) (l := l) (fun a => qz1 (n := a)))])
 obtain ⟨c, hb, hc⟩ := wzgf
 replace h := Ok.of h; unfold wzz at h
 refine Pure.ofs (fn := Tryz.f118) (n := 35) rfl hb wzf7 (hc 0) rfl rfl (by simp) ?_
 refine AW.rS [(0, slcV 1 (cI .u32) x0), (1, slcV 1 (cI .u32) y1)] [] ?_ ?_
 ·simp [qzxg, -Int.pred_toNat]
  all_goals exact zq1
 refine AW.rS [(0, slcV 1 (cI .u32) x0), (1, slcV 1 (cI .u32) y1), (5, .nils)] [] ?_ ?_
 ·simp [qzz2, -Int.pred_toNat]
  all_goals exact zq1
 refine AW.rS [(0, slcV 1 (cI .u32) x0), (1, slcV 1 (cI .u32) y1), (5, .nils), (6, .int .u64 0)] [] ?_ ?_
 ·simp [qz0v, -Int.pred_toNat]
  all_goals exact zq1
 refine .seq ?_
 refine AW.rS [(0, slcV 1 (cI .u32) x0), (1, slcV 1 (cI .u32) y1), (5, .nils), (6, .int .u64 0), (10, .int .i64 (List.length x0 : Int)), (11, .int .i64 0)] [] ?_ ?_
 ·simp [qzy8, -Int.pred_toNat]
  all_goals exact zq1
 refine .block ?_
 refine AW.lpF (ε := Nat × Nat) (0, 0) h.bd (vzt x0 y1) (vzv x0 y1) (qzdn x0 y1) (by simp [vzt]) (by simp [vzv]) rfl ?_ ?_
 ·rintro ⟨borrow6, t11, l1⟩ ⟨ep0, ep1⟩ QQ h
  exact qziw x0 y1 borrow6 t11 l1 ep0 ep1 QQ h
 ·rintro l1 h ex S' hs
  obtain ⟨ep0, ep1, rfl, hs⟩ := hs
  refine .see hs ?_
  refine AW.frzO 1 ep1 1 (cI .u32) l1 [(5, slcV 1 (cI .u32) l1)] [(0, .gone ep0), (1, .gone (ep1 + 1))] rfl (fun e => ⟨by simp [e], by simp [e], rfl⟩) (fun y k e o ho => ⟨by simp [e, ho], by simp [e, ho], rfl⟩) ?_
  obtain ⟨r2, h6, h⟩ := h.ex
  refine AW.rS [(4, slcV 1 (cI .u32) r2)] [(0, .gone ep0), (1, .gone (ep1 + 1))] ?_ ?_
  ·simp [qzx3, -Int.pred_toNat]
   (repeat' apply And.intro) <;> try first | omega | (simp at * <;> omega)
   refine (qz4 l1  _ h6).ca (by simp [-Int.pred_toNat]) ?_
   (try simp [-Int.pred_toNat])
   all_goals exact zq1
  have hr := h.some
  subst hr
  refine AW.rt (rs := qzsl) [(4, slcV 1 (cI .u32) r2)] [(0, .gone ep0), (1, .gone (ep1 + 1))] (by simp) (by simp) rfl rfl (by simp [qzsl]) (by simp [qzsl]; try rfl)
abbrev yzb (x0 : List Int) (y1 : List Int) (s : Int × Int × (List Int)) (ex : Nat × Nat) : List (Nat × AVal) := match s, ex with | (carry6, t15, l1), (ep0, ep1) => [(0, slcV 1 (cI .u32) x0), (1, slcV 1 (cI .u32) y1), (5, ownV 1 ep1 l1), (6, .int .u64 carry6), (14, .int .i64 ((max (List.length x0 : Int) (List.length y1 : Int)) + 1)), (15, .int .i64 t15)]
abbrev vz8 (x0 : List Int) (y1 : List Int) (s : Int × Int × (List Int)) (ex : Nat × Nat) : List (Nat × AObj) := match s, ex with | (carry6, t15, l1), (ep0, ep1) => [(0, .gone ep0), (1, ownO ep1 1 (cI .u32) l1)]
abbrev qzes (x0 : List Int) (y1 : List Int) : (List Int) → Exit → ASt → Prop := fun o ex S' => match o with | l1 => ∃ ep0 : Nat, ∃ ep1 : Nat, ex = .exit 0 ∧ See EE S' ⟨tl [(5, ownV 1 ep1 l1)] 37, hl [(0, .gone ep0), (1, ownO ep1 1 (cI .u32) l1)], []⟩
theorem qzi8 (x0 : List Int) (y1 : List Int) (carry6 : Int) (t15 : Int) (l1 : List Int) (ep0 : Nat) (ep1 : Nat) (QQ : (Int × Int × (List Int)) ⊕ (List Int) → Prop) (h : Ok (vze x0 y1 (carry6, t15, l1)) QQ) : AW EE none Tryz.prog (qz18 0) (fun ex S' => (∃ s' e', ex = .normal ∧ QQ (.inl s') ∧ See EE S' ⟨tl ((yzb x0 y1) s' e') 37, hl ((vz8 x0 y1) s' e'), []⟩) ∨ (∃ o, QQ (.inr o) ∧ ex ≠ .normal ∧ (qzes x0 y1) o ex S')) ⟨tl [(0, slcV 1 (cI .u32) x0), (1, slcV 1 (cI .u32) y1), (5, ownV 1 ep1 l1), (6, .int .u64 carry6), (14, .int .i64 ((max (List.length x0 : Int) (List.length y1 : Int)) + 1)), (15, .int .i64 t15)] 37, hl [(0, .gone ep0), (1, ownO ep1 1 (cI .u32) l1)], []⟩ := by
 unfold vze at h
 refine AW.rS [(0, slcV 1 (cI .u32) x0), (1, slcV 1 (cI .u32) y1), (5, ownV 1 ep1 l1), (6, .int .u64 carry6), (14, .int .i64 ((max (List.length x0 : Int) (List.length y1 : Int)) + 1)), (15, .int .i64 t15), (16, .bool (decide (t15 < ((max (List.length x0 : Int) (List.length y1 : Int)) + 1))))] [(0, .gone ep0), (1, ownO ep1 1 (cI .u32) l1)] ?_ ?_
 ·simp [qz0n, -Int.pred_toNat]
  all_goals exact zq1
 refine .seq ?_
 refine AW.ifF (decide (t15 < ((max (List.length x0 : Int) (List.length y1 : Int)) + 1))) rfl (by simp) (fun e => ?_) (fun e => ?_)
 ·replace h := h.pos e
  refine AW.skip ?_
  refine .seq ?_
  refine .block ?_
  refine AW.rS [(0, slcV 1 (cI .u32) x0), (1, slcV 1 (cI .u32) y1), (5, ownV 1 ep1 l1), (6, .int .u64 carry6), (7, .int .i64 t15), (14, .int .i64 ((max (List.length x0 : Int) (List.length y1 : Int)) + 1)), (15, .int .i64 t15)] [(0, .gone ep0), (1, ownO ep1 1 (cI .u32) l1)] ?_ ?_
  ·simp [qz16, -Int.pred_toNat]
   all_goals exact zq1
  obtain ⟨r1, h2, h⟩ := h.ex
  obtain ⟨r2, h3, h⟩ := h.ex
  refine AW.rS [(0, slcV 1 (cI .u32) x0), (1, slcV 1 (cI .u32) y1), (5, ownV 1 ep1 l1), (8, .int .u64 ((((r1 + r2) % 18446744073709551616) + carry6) % 18446744073709551616)), (14, .int .i64 ((max (List.length x0 : Int) (List.length y1 : Int)) + 1)), (15, .int .i64 t15)] [(0, .gone ep0), (1, ownO ep1 1 (cI .u32) l1)] ?_ ?_
  ·simp [qzxi, -Int.pred_toNat]
   (repeat' apply And.intro) <;> try first | omega | (simp at * <;> omega)
   refine (qza3 x0 t15  _ h2).ca (by simp [-Int.pred_toNat]) ?_
   (try simp [-Int.pred_toNat])
   (repeat' apply And.intro) <;> try first | omega | (simp at * <;> omega)
   refine (qza3 y1 t15  _ h3).ca (by simp [-Int.pred_toNat]) ?_
   (try simp [-Int.pred_toNat])
   all_goals exact zq1
  obtain ⟨h4, h⟩ := h.ck
  refine AW.rE [(0, slcV 1 (cI .u32) x0), (1, slcV 1 (cI .u32) y1), (5, ownV 1 (ep1 + 1) (l1 ++ [(((((r1 + r2) % 18446744073709551616) + carry6) % 18446744073709551616) % 4294967296)])), (6, .int .u64 (Int.fdiv ((((r1 + r2) % 18446744073709551616) + carry6) % 18446744073709551616) 4294967296)), (14, .int .i64 ((max (List.length x0 : Int) (List.length y1 : Int)) + 1)), (15, .int .i64 t15)] [(0, .gone (ep0 + 1)), (1, ownO (ep1 + 1) 1 (cI .u32) (l1 ++ [(((((r1 + r2) % 18446744073709551616) + carry6) % 18446744073709551616) % 4294967296)]))] ?_ (fun S' hs1 => ?_)
  ·have f2 := h4
   have f2m := f2
   (try simp [-Int.pred_toNat] at f2m)
   rcases hl : l1 with _ | ⟨y, l⟩
   ·(try simp [hl] at f2)
    simp [qzsu, -Int.pred_toNat, f2, f2m, hl]
    (repeat' apply And.intro) <;> first | omega | (simp at * <;> omega) | (intro _; intros; simp_all; done) | exact .mk (by simp [-Int.pred_toNat, f2, f2m, hl] <;> first | (intro k hk; rw [qzn _ k (by first | simpa using hk | omega)]; simp)) (by simp [-Int.pred_toNat, f2, f2m, hl] <;> first | (intro k hk; rw [qzn _ k (by first | simpa using hk | omega)]; simp)) rfl
   ·(try simp [hl] at f2)
    simp [qzsu, -Int.pred_toNat, f2, f2m, hl]
    (repeat' apply And.intro) <;> first | omega | skip
    refine .mk (by simp [-Int.pred_toNat, f2, f2m, hl]) ?_ rfl
    simp [-Int.pred_toNat, f2, f2m, hl]
    intro k hk
    split <;> rename_i hk2
    ·rw [yz1 hk2]; exact .refl _
    ·rw [yze hk2]
     have hj : k - (l.length + 1) < 1 := by omega
     revert hj; generalize k - (l.length + 1) = j; revert j; simp
  refine .see hs1 ?_
  obtain ⟨h6, h⟩ := h.ck
  refine AW.rE [(0, slcV 1 (cI .u32) x0), (1, slcV 1 (cI .u32) y1), (5, ownV 1 (ep1 + 1) (l1 ++ [(((((r1 + r2) % 18446744073709551616) + carry6) % 18446744073709551616) % 4294967296)])), (6, .int .u64 (Int.fdiv ((((r1 + r2) % 18446744073709551616) + carry6) % 18446744073709551616) 4294967296)), (14, .int .i64 ((max (List.length x0 : Int) (List.length y1 : Int)) + 1)), (15, .int .i64 (t15 + 1))] [(0, .gone (ep0 + 1)), (1, ownO (ep1 + 1) 1 (cI .u32) (l1 ++ [(((((r1 + r2) % 18446744073709551616) + carry6) % 18446744073709551616) % 4294967296)]))] ?_ (fun S' hs2 => ?_)
  ·have f3 := qzr h6
   simp [qzyn, -Int.pred_toNat, f3]
   (repeat' apply And.intro) <;> first | omega | (simp at * <;> omega) | (intro _; intros; simp_all; done) | exact .mk (by simp [-Int.pred_toNat, f3]) (by simp [-Int.pred_toNat, f3]) rfl
  exact .inl ⟨((Int.fdiv ((((r1 + r2) % 18446744073709551616) + carry6) % 18446744073709551616) 4294967296), (t15 + 1), (l1 ++ [(((((r1 + r2) % 18446744073709551616) + carry6) % 18446744073709551616) % 4294967296)])), ((ep0 + 1), (ep1 + 1)), rfl, h.some, (hs2.trans (.wk (by simp [yzb]) (by simp [vz8]) rfl))⟩
 ·replace h := h.neg e
  refine .exit ?_
  exact .inr ⟨l1, h.some, by simp, ⟨ep0, ep1, rfl, (.wk (by simp) (by simp) rfl)⟩⟩
theorem qzl3 (x0 : List Int) (y1 : List Int)  (r : List Int) (h : vzk x0 y1 = some r) : qzq EE Tryz.prog 121 [slcV 1 (cI .u32) x0, slcV 1 (cI .u32) y1] (slcV 1 (cI .u32) r) := by
 refine Pure.still ?_ hEE (by simp [-qzh, (fun l => qzj (st := 1) (c := (cI .u32)) (l := l) (fun a => qz1 (n := a)))] <;> assumption) (by simp [-qzh, (fun l => qzj (st := 1) (c := (cI .u32)) (l := l) (fun a => qz1 (n := a)))])
 obtain ⟨c, hb, hc⟩ := wzf3
 replace h := Ok.of h; unfold vzk at h
 refine Pure.ofs (fn := Tryz.f121) (n := 37) rfl hb wzgv (hc 0) rfl rfl (by simp) ?_
 refine AW.rS [(0, slcV 1 (cI .u32) x0), (1, slcV 1 (cI .u32) y1)] [] ?_ ?_
 ·simp [qz1d, -Int.pred_toNat]
  all_goals exact zq1
 refine AW.rS [(0, slcV 1 (cI .u32) x0), (1, slcV 1 (cI .u32) y1), (5, .nils)] [] ?_ ?_
 ·simp [qzzj, -Int.pred_toNat]
  all_goals exact zq1
 refine AW.rS [(0, slcV 1 (cI .u32) x0), (1, slcV 1 (cI .u32) y1), (5, .nils), (6, .int .u64 0)] [] ?_ ?_
 ·simp [qzzw, -Int.pred_toNat]
  all_goals exact zq1
 refine .seq ?_
 obtain ⟨h1, h⟩ := h.ck
 refine AW.rS [(0, slcV 1 (cI .u32) x0), (1, slcV 1 (cI .u32) y1), (5, .nils), (6, .int .u64 0), (14, .int .i64 ((max (List.length x0 : Int) (List.length y1 : Int)) + 1)), (15, .int .i64 0)] [] ?_ ?_
 ·have f1 := qzr h1
  simp [qzz4, -Int.pred_toNat, f1]
  (repeat' apply And.intro) <;> first | omega | (simp at * <;> omega) | (intro _; intros; simp_all; done) | exact .mk (by simp [-Int.pred_toNat, f1]) (by simp [-Int.pred_toNat, f1]) rfl
 refine .block ?_
 refine AW.lpF (ε := Nat × Nat) (0, 0) h.bd (yzb x0 y1) (vz8 x0 y1) (qzes x0 y1) (by simp [yzb]) (by simp [vz8]) rfl ?_ ?_
 ·rintro ⟨carry6, t15, l1⟩ ⟨ep0, ep1⟩ QQ h
  exact qzi8 x0 y1 carry6 t15 l1 ep0 ep1 QQ h
 ·rintro l1 h ex S' hs
  obtain ⟨ep0, ep1, rfl, hs⟩ := hs
  refine .see hs ?_
  refine AW.frzO 1 ep1 1 (cI .u32) l1 [(5, slcV 1 (cI .u32) l1)] [(0, .gone ep0), (1, .gone (ep1 + 1))] rfl (fun e => ⟨by simp [e], by simp [e], rfl⟩) (fun y k e o ho => ⟨by simp [e, ho], by simp [e, ho], rfl⟩) ?_
  obtain ⟨r3, h7, h⟩ := h.ex
  refine AW.rS [(4, slcV 1 (cI .u32) r3)] [(0, .gone ep0), (1, .gone (ep1 + 1))] ?_ ?_
  ·simp [qz14, -Int.pred_toNat]
   (repeat' apply And.intro) <;> try first | omega | (simp at * <;> omega)
   refine (qz4 l1  _ h7).ca (by simp [-Int.pred_toNat]) ?_
   (try simp [-Int.pred_toNat])
   all_goals exact zq1
  have hr := h.some
  subst hr
  refine AW.rt (rs := qzsd) [(4, slcV 1 (cI .u32) r3)] [(0, .gone ep0), (1, .gone (ep1 + 1))] (by simp) (by simp) rfl rfl (by simp [qzsd]) (by simp [qzsd]; try rfl)
theorem qzo7 (x0 : Int) (y1 : Int)  (r : Int) (h : qzca x0 y1 = some r) : qzq EE Tryz.prog 134 [.int .i64 x0, .int .i64 y1] (.int .i64 r) := by
 refine Pure.still ?_ hEE (by simp <;> assumption) (by simp)
 obtain ⟨c, hb, hc⟩ := wzfx
 replace h := Ok.of h; unfold qzca at h
 refine Pure.ofs (fn := Tryz.f134) (n := 20) rfl hb wzgs (hc 0) rfl rfl (by simp) ?_
 refine AW.rS [(0, .int .i64 x0), (1, .int .i64 y1)] [] ?_ ?_
 ·simp [qzyk, -Int.pred_toNat]
  all_goals exact zq1
 obtain ⟨r1, h1, h⟩ := h.ex
 refine AW.rS [(0, .int .i64 x0), (1, .int .i64 y1), (5, .bool r1)] [] ?_ ?_
 ·simp [qzxe, -Int.pred_toNat]
  (repeat' apply And.intro) <;> try first | omega | (simp at * <;> omega)
  refine (qzjq x0  _ h1).ca (by simp [-Int.pred_toNat]) ?_
  (try simp [-Int.pred_toNat])
  all_goals exact zq1
 obtain ⟨r2, h2, h⟩ := h.ex
 refine AW.rS [(0, .int .i64 x0), (1, .int .i64 y1), (5, .bool r1), (6, .bool r2)] [] ?_ ?_
 ·simp [qzxn, -Int.pred_toNat]
  (repeat' apply And.intro) <;> try first | omega | (simp at * <;> omega)
  refine (qzjq y1  _ h2).ca (by simp [-Int.pred_toNat]) ?_
  (try simp [-Int.pred_toNat])
  all_goals exact zq1
 refine .seq ?_
 refine AW.rS [(0, .int .i64 x0), (1, .int .i64 y1), (6, .bool r2), (11, .bool r1)] [] ?_ ?_
 ·simp [qzyw, -Int.pred_toNat]
  all_goals exact zq1
 refine AW.ifF r1 rfl (by simp) (fun e => ?_) (fun e => ?_)
 ·replace h := h.pos e
  refine .seq ?_
  refine AW.rS [(12, .bool r2)] [] ?_ ?_
  ·simp [qz10, -Int.pred_toNat]
   all_goals exact zq1
  refine AW.ifF r2 rfl (by simp) (fun e => ?_) (fun e => ?_)
  ·replace h := h.pos e
   refine AW.rS [(4, .int .i64 0)] [] ?_ ?_
   ·simp [qz2j, -Int.pred_toNat]
    all_goals exact zq1
   have hr := h.some
   subst hr
   refine AW.rt (rs := yzn) [(4, .int .i64 0)] [] (by simp) (by simp) rfl rfl (by simp [yzn]) (by simp [yzn]; try rfl)
  ·replace h := h.neg e
   refine AW.skip ?_
   refine AW.rS [(4, .int .i64 (-1))] [] ?_ ?_
   ·simp [qz0f, -Int.pred_toNat]
    all_goals exact zq1
   have hr := h.some
   subst hr
   refine AW.rt (rs := yzn) [(4, .int .i64 (-1))] [] (by simp) (by simp) rfl rfl (by simp [yzn]) (by simp [yzn]; try rfl)
 ·replace h := h.neg e
  refine AW.skip ?_
  refine .seq ?_
  refine AW.rS [(0, .int .i64 x0), (1, .int .i64 y1), (13, .bool r2)] [] ?_ ?_
  ·simp [qzx0, -Int.pred_toNat]
   all_goals exact zq1
  refine AW.ifF r2 rfl (by simp) (fun e => ?_) (fun e => ?_)
  ·replace h := h.pos e
   refine AW.rS [(4, .int .i64 1)] [] ?_ ?_
   ·simp [qzxo, -Int.pred_toNat]
    all_goals exact zq1
   have hr := h.some
   subst hr
   refine AW.rt (rs := yzn) [(4, .int .i64 1)] [] (by simp) (by simp) rfl rfl (by simp [yzn]) (by simp [yzn]; try rfl)
  ·replace h := h.neg e
   refine AW.skip ?_
   refine .seq ?_
   refine AW.rS [(0, .int .i64 x0), (1, .int .i64 y1), (16, .bool (decide (x0 < y1)))] [] ?_ ?_
   ·simp [qz0s, -Int.pred_toNat]
    all_goals exact zq1
   refine AW.ifF (decide (x0 < y1)) rfl (by simp) (fun e => ?_) (fun e => ?_)
   ·replace h := h.pos e
    refine AW.rS [(4, .int .i64 (-1))] [] ?_ ?_
    ·simp [qzv4, -Int.pred_toNat]
     all_goals exact zq1
    have hr := h.some
    subst hr
    refine AW.rt (rs := yzn) [(4, .int .i64 (-1))] [] (by simp) (by simp) rfl rfl (by simp [yzn]) (by simp [yzn]; try rfl)
   ·replace h := h.neg e
    refine AW.skip ?_
    refine .seq ?_
    refine AW.rS [(19, .bool (decide (y1 < x0)))] [] ?_ ?_
    ·simp [qzvm, -Int.pred_toNat]
     all_goals exact zq1
    refine AW.ifF (decide (y1 < x0)) rfl (by simp) (fun e => ?_) (fun e => ?_)
    ·replace h := h.pos e
     refine AW.rS [(4, .int .i64 1)] [] ?_ ?_
     ·simp [qzvw, -Int.pred_toNat]
      all_goals exact zq1
     have hr := h.some
     subst hr
     refine AW.rt (rs := yzn) [(4, .int .i64 1)] [] (by simp) (by simp) rfl rfl (by simp [yzn]) (by simp [yzn]; try rfl)
    ·replace h := h.neg e
     refine AW.skip ?_
     refine AW.rS [(4, .int .i64 0)] [] ?_ ?_
     ·simp [qzvc, -Int.pred_toNat]
      all_goals exact zq1
     have hr := h.some
     subst hr
     refine AW.rt (rs := yzn) [(4, .int .i64 0)] [] (by simp) (by simp) rfl rfl (by simp [yzn]) (by simp [yzn]; try rfl)
theorem qzmm (x0 : Int) (y1 : Int)  (r : Int) (h : qzax x0 y1 = some r) : qzq EE Tryz.prog 135 [.int .u32 x0, .int .u32 y1] (.int .i64 r) := by
 refine Pure.still ?_ hEE (by simp <;> assumption) (by simp)
 obtain ⟨c, hb, hc⟩ := wzgw
 replace h := Ok.of h; unfold qzax at h
 refine Pure.ofs (fn := Tryz.f135) (n := 20) rfl hb wzg6 (hc 0) rfl rfl (by simp) ?_
 refine AW.rS [(0, .int .u32 x0), (1, .int .u32 y1)] [] ?_ ?_
 ·simp [qz15, -Int.pred_toNat]
  all_goals exact zq1
 obtain ⟨r1, h1, h⟩ := h.ex
 refine AW.rS [(0, .int .u32 x0), (1, .int .u32 y1), (5, .bool r1)] [] ?_ ?_
 ·simp [qzyj, -Int.pred_toNat]
  (repeat' apply And.intro) <;> try first | omega | (simp at * <;> omega)
  refine (qzie x0  _ h1).ca (by simp [-Int.pred_toNat]) ?_
  (try simp [-Int.pred_toNat])
  all_goals exact zq1
 obtain ⟨r2, h2, h⟩ := h.ex
 refine AW.rS [(0, .int .u32 x0), (1, .int .u32 y1), (5, .bool r1), (6, .bool r2)] [] ?_ ?_
 ·simp [qzyl, -Int.pred_toNat]
  (repeat' apply And.intro) <;> try first | omega | (simp at * <;> omega)
  refine (qzie y1  _ h2).ca (by simp [-Int.pred_toNat]) ?_
  (try simp [-Int.pred_toNat])
  all_goals exact zq1
 refine .seq ?_
 refine AW.rS [(0, .int .u32 x0), (1, .int .u32 y1), (6, .bool r2), (11, .bool r1)] [] ?_ ?_
 ·simp [qzy2, -Int.pred_toNat]
  all_goals exact zq1
 refine AW.ifF r1 rfl (by simp) (fun e => ?_) (fun e => ?_)
 ·replace h := h.pos e
  refine .seq ?_
  refine AW.rS [(12, .bool r2)] [] ?_ ?_
  ·simp [qzxz, -Int.pred_toNat]
   all_goals exact zq1
  refine AW.ifF r2 rfl (by simp) (fun e => ?_) (fun e => ?_)
  ·replace h := h.pos e
   refine AW.rS [(4, .int .i64 0)] [] ?_ ?_
   ·simp [qzxf, -Int.pred_toNat]
    all_goals exact zq1
   have hr := h.some
   subst hr
   refine AW.rt (rs := yzp) [(4, .int .i64 0)] [] (by simp) (by simp) rfl rfl (by simp [yzp]) (by simp [yzp]; try rfl)
  ·replace h := h.neg e
   refine AW.skip ?_
   refine AW.rS [(4, .int .i64 (-1))] [] ?_ ?_
   ·simp [qzy4, -Int.pred_toNat]
    all_goals exact zq1
   have hr := h.some
   subst hr
   refine AW.rt (rs := yzp) [(4, .int .i64 (-1))] [] (by simp) (by simp) rfl rfl (by simp [yzp]) (by simp [yzp]; try rfl)
 ·replace h := h.neg e
  refine AW.skip ?_
  refine .seq ?_
  refine AW.rS [(0, .int .u32 x0), (1, .int .u32 y1), (13, .bool r2)] [] ?_ ?_
  ·simp [qz2z, -Int.pred_toNat]
   all_goals exact zq1
  refine AW.ifF r2 rfl (by simp) (fun e => ?_) (fun e => ?_)
  ·replace h := h.pos e
   refine AW.rS [(4, .int .i64 1)] [] ?_ ?_
   ·simp [qz19, -Int.pred_toNat]
    all_goals exact zq1
   have hr := h.some
   subst hr
   refine AW.rt (rs := yzp) [(4, .int .i64 1)] [] (by simp) (by simp) rfl rfl (by simp [yzp]) (by simp [yzp]; try rfl)
  ·replace h := h.neg e
   refine AW.skip ?_
   refine .seq ?_
   refine AW.rS [(0, .int .u32 x0), (1, .int .u32 y1), (16, .bool (decide (x0 < y1)))] [] ?_ ?_
   ·simp [qz1q, -Int.pred_toNat]
    all_goals exact zq1
   refine AW.ifF (decide (x0 < y1)) rfl (by simp) (fun e => ?_) (fun e => ?_)
   ·replace h := h.pos e
    refine AW.rS [(4, .int .i64 (-1))] [] ?_ ?_
    ·simp [qzvg, -Int.pred_toNat]
     all_goals exact zq1
    have hr := h.some
    subst hr
    refine AW.rt (rs := yzp) [(4, .int .i64 (-1))] [] (by simp) (by simp) rfl rfl (by simp [yzp]) (by simp [yzp]; try rfl)
   ·replace h := h.neg e
    refine AW.skip ?_
    refine .seq ?_
    refine AW.rS [(19, .bool (decide (y1 < x0)))] [] ?_ ?_
    ·simp [qzvx, -Int.pred_toNat]
     all_goals exact zq1
    refine AW.ifF (decide (y1 < x0)) rfl (by simp) (fun e => ?_) (fun e => ?_)
    ·replace h := h.pos e
     refine AW.rS [(4, .int .i64 1)] [] ?_ ?_
     ·simp [qzvq, -Int.pred_toNat]
      all_goals exact zq1
     have hr := h.some
     subst hr
     refine AW.rt (rs := yzp) [(4, .int .i64 1)] [] (by simp) (by simp) rfl rfl (by simp [yzp]) (by simp [yzp]; try rfl)
    ·replace h := h.neg e
     refine AW.skip ?_
     refine AW.rS [(4, .int .i64 0)] [] ?_ ?_
     ·simp [qzv2, -Int.pred_toNat]
      all_goals exact zq1
     have hr := h.some
     subst hr
     refine AW.rt (rs := yzp) [(4, .int .i64 0)] [] (by simp) (by simp) rfl rfl (by simp [yzp]) (by simp [yzp]; try rfl)
theorem qzjg (s0 : List UInt8) (cutset1 : List UInt8)  (r : List UInt8) (h : qzav s0 cutset1 = some r) : qzq EE Tryz.prog 137 [.str s0, .str cutset1] (.str r) := by
 refine Pure.still ?_ hEE (by simp <;> assumption) (by simp)
 obtain ⟨c, hb, hc⟩ := wzg4
 replace h := Ok.of h; unfold qzav at h
 refine Pure.ofs (fn := Tryz.f137) (n := 37) rfl hb wzgr (hc 0) rfl rfl (by simp) ?_
 refine AW.rS [(0, .str s0), (1, .str cutset1)] [] ?_ ?_
 ·simp [qzz7, -Int.pred_toNat]
  all_goals exact zq1
 refine .seq ?_
 refine AW.rS [(0, .str s0), (1, .str cutset1), (12, .bool (bif (decide (s0 = [])) then true else (decide (cutset1 = []))))] [] ?_ ?_
 ·simp [qz0z, -Int.pred_toNat]
  all_goals exact zq1
 refine AW.ifF (bif (decide (s0 = [])) then true else (decide (cutset1 = []))) rfl (by simp) (fun e => ?_) (fun e => ?_)
 ·replace h := h.pos e
  refine AW.rS [(4, .str s0)] [] ?_ ?_
  ·simp [qz2o, -Int.pred_toNat]
   all_goals exact zq1
  have hr := h.some
  subst hr
  refine AW.rt (rs := qzlw) [(4, .str s0)] [] (by simp) (by simp) rfl rfl (by simp [qzlw]) (by simp [qzlw]; try rfl)
 ·replace h := h.neg e
  refine AW.skip ?_
  refine .seq ?_
  obtain ⟨h1, h⟩ := h.ck
  refine AW.rS [(0, .str s0), (1, .str cutset1), (21, .bool (bif (decide ((List.length cutset1 : Int) = 1)) then (decide ((wzw cutset1 0) < 128)) else false))] [] ?_ ?_
  ·rcases Bool.eq_false_or_eq_true (decide ((List.length cutset1 : Int) = 1)) with e1 | e1
   ·have e1n := e1
    (try simp at e1n)
    obtain ⟨f1a, f1b⟩ := qznu (ck_g h1 e1)
    simp [qzt6, -Int.pred_toNat, e1, e1n, f1a, f1b]
    (repeat' apply And.intro) <;> first | omega | (simp at * <;> omega) | (intro _; intros; simp_all; done) | exact .mk (by simp [-Int.pred_toNat, e1, e1n, f1a, f1b]) (by simp [-Int.pred_toNat, e1, e1n, f1a, f1b]) rfl
   ·have e1n := e1
    (try simp at e1n)
    simp [qzt6, -Int.pred_toNat, e1, e1n]
    (repeat' apply And.intro) <;> first | omega | (simp at * <;> omega) | (intro _; intros; simp_all; done) | exact .mk (by simp [-Int.pred_toNat, e1, e1n]) (by simp [-Int.pred_toNat, e1, e1n]) rfl
  refine AW.ifF (bif (decide ((List.length cutset1 : Int) = 1)) then (decide ((wzw cutset1 0) < 128)) else false) rfl (by simp) (fun e => ?_) (fun e => ?_)
  ·replace h := h.pos e
   obtain ⟨h2, h⟩ := h.ck
   obtain ⟨r1, h3, h⟩ := h.ex
   refine AW.rS [(4, .str r1)] [] ?_ ?_
   ·obtain ⟨f2a, f2b⟩ := qznu h2
    simp [qz2m, -Int.pred_toNat, f2a, f2b]
    (repeat' apply And.intro) <;> try first | omega | (simp at * <;> omega)
    refine (qzhi s0 (wzw cutset1 0)  _ h3).ca (by simp [-Int.pred_toNat, f2a, f2b]) ?_
    (try simp [-Int.pred_toNat, f2a, f2b])
    (repeat' apply And.intro) <;> first | omega | (simp at * <;> omega) | (intro _; intros; simp_all; done) | exact .mk (by simp [-Int.pred_toNat, f2a, f2b]) (by simp [-Int.pred_toNat, f2a, f2b]) rfl
   have hr := h.some
   subst hr
   refine AW.rt (rs := qzlw) [(4, .str r1)] [] (by simp) (by simp) rfl rfl (by simp [qzlw]) (by simp [qzlw]; try rfl)
  ·replace h := h.neg e
   refine AW.skip ?_
   refine .seq ?_
   exact h.no
theorem qzkj (l0 : List qzb) (a1 : qza)  (r : Bool) (h : qzcf l0 a1 = some r) : qzq EE Tryz.prog 8 [slcV 8 qzb.cells l0, .agg (qza.cells a1)] (.bool r) := by
 refine Pure.still ?_ hEE (by simp [-qzh, (fun l => qzj (st := 8) (c := qzb.cells) (l := l) qzb.noref), qza.cells] <;> assumption) (by simp [-qzh, (fun l => qzj (st := 8) (c := qzb.cells) (l := l) qzb.noref), qza.cells])
 obtain ⟨c, hb, hc⟩ := ck8
 replace h := Ok.of h; unfold qzcf at h
 refine Pure.ofs (fn := Tryz.f8) (n := 19) rfl hb cr8 (hc 0) rfl rfl (by simp) ?_
 refine AW.rS [(0, slcV 8 qzb.cells l0), (3, .ptr 0 1 0)] [(0, .box 1 [.bool a1.Neg, .str a1.Num, .str a1.Den])] ?_ ?_
 ·simp [r8_0, -Int.pred_toNat]
  all_goals exact zq1
 obtain ⟨r1, h1, h⟩ := h.ex
 refine AW.rS [(4, .bool (bif (bif r1 then (decide ((List.length a1.Num : Int) ≤ 20)) else false) then (decide ((List.length a1.Den : Int) ≤ 20)) else false))] [(0, .gone 1)] ?_ ?_
 ·simp [r8_1, -Int.pred_toNat]
  (repeat' apply And.intro) <;> try first | omega | (simp at * <;> omega)
  refine (qzqs l0  _ h1).ca (by simp [-Int.pred_toNat]) ?_
  (try simp [-Int.pred_toNat])
  all_goals exact zq1
 have hr := h.some
 subst hr
 refine AW.rt (rs := rs8) [(4, .bool (bif (bif r1 then (decide ((List.length a1.Num : Int) ≤ 20)) else false) then (decide ((List.length a1.Den : Int) ≤ 20)) else false))] [(0, .gone 1)] (by simp) (by simp) rfl rfl (by simp [rs8]) (by simp [rs8]; try rfl)
abbrev kzm (x0 : List Int) (y1 : List Int) (s : Int) (ex : Unit) : List (Nat × AVal) := match s, ex with | k6, () => [(0, slcV 1 (cI .u32) x0), (1, slcV 1 (cI .u32) y1), (6, .int .i64 k6)]
abbrev kzv (x0 : List Int) (y1 : List Int) (s : Int) (ex : Unit) : List (Nat × AObj) := match s, ex with | k6, () => []
abbrev qzcr (x0 : List Int) (y1 : List Int) : Unit ⊕ Int → Exit → ASt → Prop := fun o ex S' => match o with | .inl () => ex = .exit 0 ∧ See EE S' ⟨tl [] 35, hl [], []⟩ | .inr o => ex = .ret ∧ Post EE qzex (fun x _ => x = .int .i64 o) .ret S'
theorem qzhk (x0 : List Int) (y1 : List Int) (k6 : Int) (QQ : Int ⊕ (Unit ⊕ Int) → Prop) (h : Ok (jz2 x0 y1 k6) QQ) : AW EE none Tryz.prog (qz2l 0) (fun ex S' => (∃ s' e', ex = .normal ∧ QQ (.inl s') ∧ See EE S' ⟨tl ((kzm x0 y1) s' e') 35, hl ((kzv x0 y1) s' e'), []⟩) ∨ (∃ o, QQ (.inr o) ∧ ex ≠ .normal ∧ (qzcr x0 y1) o ex S')) ⟨tl [(0, slcV 1 (cI .u32) x0), (1, slcV 1 (cI .u32) y1), (6, .int .i64 k6)] 35, hl [], []⟩ := by
 unfold jz2 at h
 refine .seq ?_
 refine AW.rS [(0, slcV 1 (cI .u32) x0), (1, slcV 1 (cI .u32) y1), (6, .int .i64 k6), (20, .bool (decide (0 ≤ k6)))] [] ?_ ?_
 ·simp [qzxq, -Int.pred_toNat]
  all_goals exact zq1
 refine AW.ifF (decide (0 ≤ k6)) rfl (by simp) (fun e => ?_) (fun e => ?_)
 ·replace h := h.pos e
  refine AW.skip ?_
  refine .seq ?_
  refine .block ?_
  obtain ⟨x1, h3, h⟩ := h.at
  obtain ⟨x2, h4, h⟩ := h.at
  obtain ⟨r2, h5, h⟩ := h.ex
  refine AW.dS [(0, slcV 1 (cI .u32) x0), (1, slcV 1 (cI .u32) y1), (6, .int .i64 k6), (7, .int .i64 r2)] [] ?_ ?_
  ·obtain ⟨f2a, f2b, f2c⟩ := h3
   have f2d : qzd (cI .u32) x0 (Int.toNat k6) = (cI .u32) x1 := qzo f2c
   have f2e : Int.toNat k6 < List.length x0 := by omega
   obtain ⟨f3a, f3b, f3c⟩ := h4
   have f3d : qzd (cI .u32) y1 (Int.toNat k6) = (cI .u32) x2 := qzo f3c
   have f3e : Int.toNat k6 < List.length y1 := by omega
   simp [qz13, -Int.pred_toNat, f2a, f2b, f2d, f2e, f3a, f3b, f3d, f3e]
   (repeat' apply And.intro) <;> try first | omega | (simp at * <;> omega)
   refine (qzmm x1 x2  _ h5).cd (by simp [-Int.pred_toNat, f2a, f2b, f2d, f2e, f3a, f3b, f3d, f3e]) ?_
   (try simp [-Int.pred_toNat, f2a, f2b, f2d, f2e, f3a, f3b, f3d, f3e])
   (repeat' apply And.intro) <;> first | omega | (simp at * <;> omega) | kernel_rfl | (intro _; intros; simp_all; done) | exact .mk (by simp [-Int.pred_toNat, f2a, f2b, f2d, f2e, f3a, f3b, f3d, f3e]) (by simp [-Int.pred_toNat, f2a, f2b, f2d, f2e, f3a, f3b, f3d, f3e]) rfl
  refine AW.rS [(0, slcV 1 (cI .u32) x0), (1, slcV 1 (cI .u32) y1), (6, .int .i64 k6), (7, .int .i64 r2), (33, .bool (!decide (r2 = 0)))] [] ?_ ?_
  ·simp [qzxm, -Int.pred_toNat]
   all_goals exact zq1
  refine AW.ifF (!decide (r2 = 0)) rfl (by simp) (fun e => ?_) (fun e => ?_)
  ·replace h := h.pos e
   refine AW.rS [(4, .int .i64 r2)] [] ?_ ?_
   ·simp [qz1b, -Int.pred_toNat]
    all_goals exact zq1
   exact .ret (.inr ⟨.inr r2, h.some, by simp, rfl, .wk (rs := qzex) [(4, .int .i64 r2)] [] (by simp) (by simp) rfl (by simp [qzex]) (by simp [qzex]; try rfl)⟩)
  ·replace h := h.neg e
   refine AW.skip ?_
   obtain ⟨h6, h⟩ := h.ck
   refine AW.rE [(0, slcV 1 (cI .u32) x0), (1, slcV 1 (cI .u32) y1), (6, .int .i64 (k6 - 1))] [] ?_ (fun S' hs1 => ?_)
   ·have f4 := qzr h6
    simp [qz0y, -Int.pred_toNat, f4]
    (repeat' apply And.intro) <;> first | omega | (simp at * <;> omega) | (intro _; intros; simp_all; done) | exact .mk (by simp [-Int.pred_toNat, f4]) (by simp [-Int.pred_toNat, f4]) rfl
   exact .inl ⟨(k6 - 1), (), rfl, h.some, (hs1.trans (.wk (by simp [kzm]) (by simp [kzv]) rfl))⟩
 ·replace h := h.neg e
  refine .exit ?_
  exact .inr ⟨.inl (), h.some, by simp, ⟨rfl, (.wk (by simp) (by simp) rfl)⟩⟩
theorem vzq (x0 : List Int) (y1 : List Int)  (r : Int) (h : wzl x0 y1 = some r) : qzq EE Tryz.prog 112 [slcV 1 (cI .u32) x0, slcV 1 (cI .u32) y1] (.int .i64 r) := by
 refine Pure.still ?_ hEE (by simp [-qzh, (fun l => qzj (st := 1) (c := (cI .u32)) (l := l) (fun a => qz1 (n := a)))] <;> assumption) (by simp [-qzh, (fun l => qzj (st := 1) (c := (cI .u32)) (l := l) (fun a => qz1 (n := a)))])
 obtain ⟨c, hb, hc⟩ := wzgi
 replace h := Ok.of h; unfold wzl at h
 refine Pure.ofs (fn := Tryz.f112) (n := 35) rfl hb wzgb (hc 0) rfl rfl (by simp) ?_
 refine AW.rS [(0, slcV 1 (cI .u32) x0), (1, slcV 1 (cI .u32) y1)] [] ?_ ?_
 ·simp [qzx1, -Int.pred_toNat]
  all_goals exact zq1
 refine .seq ?_
 obtain ⟨r1, h1, h⟩ := h.ex
 refine AW.rS [(0, slcV 1 (cI .u32) x0), (1, slcV 1 (cI .u32) y1), (5, .int .i64 r1)] [] ?_ ?_
 ·simp [qz0i, -Int.pred_toNat]
  (repeat' apply And.intro) <;> try first | omega | (simp at * <;> omega)
  refine (qzo7 (List.length x0 : Int) (List.length y1 : Int)  _ h1).ca (by simp [-Int.pred_toNat]) ?_
  (try simp [-Int.pred_toNat])
  all_goals exact zq1
 refine AW.rS [(0, slcV 1 (cI .u32) x0), (1, slcV 1 (cI .u32) y1), (5, .int .i64 r1), (14, .bool (!decide (r1 = 0)))] [] ?_ ?_
 ·simp [qz2g, -Int.pred_toNat]
  all_goals exact zq1
 refine AW.ifF (!decide (r1 = 0)) rfl (by simp) (fun e => ?_) (fun e => ?_)
 ·replace h := h.pos e
  refine AW.rS [(4, .int .i64 r1)] [] ?_ ?_
  ·simp [qzzr, -Int.pred_toNat]
   all_goals exact zq1
  have hr := h.some
  subst hr
  refine AW.rt (rs := qzex) [(4, .int .i64 r1)] [] (by simp) (by simp) rfl rfl (by simp [qzex]) (by simp [qzex]; try rfl)
 ·replace h := h.neg e
  refine AW.skip ?_
  refine .seq ?_
  obtain ⟨h2, h⟩ := h.ck
  refine AW.rS [(0, slcV 1 (cI .u32) x0), (1, slcV 1 (cI .u32) y1), (6, .int .i64 ((List.length x0 : Int) - 1))] [] ?_ ?_
  ·have f1 := qzr h2
   simp [qz1r, -Int.pred_toNat, f1]
   (repeat' apply And.intro) <;> first | omega | (simp at * <;> omega) | (intro _; intros; simp_all; done) | exact .mk (by simp [-Int.pred_toNat, f1]) (by simp [-Int.pred_toNat, f1]) rfl
  refine .block ?_
  refine AW.lpF (ε := Unit) () h.bd (kzm x0 y1) (kzv x0 y1) (qzcr x0 y1) (by simp [kzm]) (by simp [kzv]) rfl ?_ ?_
  ·rintro k6 ⟨⟩ QQ h
   exact qzhk x0 y1 k6 QQ h
  ·intro o h ex S' hs
   rcases o with ⟨⟩ | o
   ·obtain ⟨rfl, hs⟩ := hs
    refine .see hs ?_
    refine AW.rS [(4, .int .i64 0)] [] ?_ ?_
    ·simp [qzv6, -Int.pred_toNat]
     all_goals exact zq1
    have hr := h.some
    subst hr
    refine AW.rt (rs := qzex) [(4, .int .i64 0)] [] (by simp) (by simp) rfl rfl (by simp [qzex]) (by simp [qzex]; try rfl)
   ·obtain ⟨rfl, hs⟩ := hs
    cases h.some
    exact hs
theorem qzbn (x0 : List Int) (bits1 : Int)  (r : List Int) (h : wzm x0 bits1 = some r) : qzq EE Tryz.prog 115 [slcV 1 (cI .u32) x0, .int .i64 bits1] (slcV 1 (cI .u32) r) := by
 refine Pure.still ?_ hEE (by simp [-qzh, (fun l => qzj (st := 1) (c := (cI .u32)) (l := l) (fun a => qz1 (n := a)))] <;> assumption) (by simp [-qzh, (fun l => qzj (st := 1) (c := (cI .u32)) (l := l) (fun a => qz1 (n := a)))])
 obtain ⟨c, hb, hc⟩ := wzga
 replace h := Ok.of h; unfold wzm at h
 refine Pure.ofs (fn := Tryz.f115) (n := 23) rfl hb wzf0 (hc 0) rfl rfl (by simp) ?_
 refine AW.rS [(0, slcV 1 (cI .u32) x0), (1, .int .i64 bits1)] [] ?_ ?_
 ·simp [qz0k, -Int.pred_toNat]
  all_goals exact zq1
 refine .seq ?_
 refine AW.rS [(0, slcV 1 (cI .u32) x0), (1, .int .i64 bits1), (8, .bool (decide (bits1 < 0)))] [] ?_ ?_
 ·simp [qzzb, -Int.pred_toNat]
  all_goals exact zq1
 refine AW.ifF (decide (bits1 < 0)) rfl (by simp) (fun e => ?_) (fun e => ?_)
 ·replace h := h.pos e
  obtain ⟨h1, h⟩ := h.ck
  obtain ⟨h2, h⟩ := h.ck
  obtain ⟨r1, h3, h⟩ := h.ex
  refine AW.rS [(5, slcV 1 (cI .u32) r1.1)] [] ?_ ?_
  ·have f1 := qzr h1
   have f2 := h2
   simp [qzz6, -Int.pred_toNat, f1, f2]
   (repeat' apply And.intro) <;> try first | omega | (simp at * <;> omega)
   refine (qzez x0 ((1 * 2 ^ min (Int.toNat (-bits1)) 32) % 4294967296)  _ h3).ca (by simp [-Int.pred_toNat, f1, f2]) ?_
   (try simp [-Int.pred_toNat, f1, f2])
   (repeat' apply And.intro) <;> first | omega | (simp at * <;> omega) | (intro _; intros; simp_all; done) | exact .mk (by simp [-Int.pred_toNat, f1, f2]) (by simp [-Int.pred_toNat, f1, f2]) rfl
  refine AW.rS [(4, slcV 1 (cI .u32) r1.1)] [] ?_ ?_
  ·simp [qzzi, -Int.pred_toNat]
   all_goals exact zq1
  have hr := h.some
  subst hr
  refine AW.rt (rs := qzlx) [(4, slcV 1 (cI .u32) r1.1)] [] (by simp) (by simp) rfl rfl (by simp [qzlx]) (by simp [qzlx]; try rfl)
 ·replace h := h.neg e
  refine AW.skip ?_
  obtain ⟨h4, h⟩ := h.ck
  obtain ⟨r2, h5, h⟩ := h.ex
  refine AW.rG [(4, slcV 1 (cI .u32) r2)] [(0, .gone 2)] ?_ ?_
  ·refine SReg.cut 4 [(18, slcV 1 (cI .u32) x0), (21, .vec 0 1 0 (List.length [((1 * 2 ^ min (Int.toNat bits1) 32) % 4294967296)]))] [(0, .vec 1 1 (List.length [((1 * 2 ^ min (Int.toNat bits1) 32) % 4294967296)]) (qzd (cI .u32) [((1 * 2 ^ min (Int.toNat bits1) 32) % 4294967296)]))] ?_ ?_
   ·have f3 := h4
    simp [qzub, -Int.pred_toNat, f3]
    (repeat' apply And.intro) <;> first | omega | (simp at * <;> omega) | (intro _; intros; simp_all; done) | exact .mk (by simp [-Int.pred_toNat, f3]) (by simp [-Int.pred_toNat, f3]) rfl
   refine SReg.frz 0 [(18, slcV 1 (cI .u32) x0), (21, slcV 1 (cI .u32) [((1 * 2 ^ min (Int.toNat bits1) 32) % 4294967296)])] [(0, .gone 2)] rfl rfl trivial (by simp) (by simp) rfl ?_
   refine SReg.fin ?_
   simp [qzub, -Int.pred_toNat]
   (repeat' apply And.intro) <;> try first | omega | (simp at * <;> omega)
   refine (qzbl x0 [((1 * 2 ^ min (Int.toNat bits1) 32) % 4294967296)]  _ h5).ca (by simp [-Int.pred_toNat]) ?_
   (try simp [-Int.pred_toNat])
   all_goals exact zq1
  have hr := h.some
  subst hr
  refine AW.rt (rs := qzlx) [(4, slcV 1 (cI .u32) r2)] [(0, .gone 2)] (by simp) (by simp) rfl rfl (by simp [qzlx]) (by simp [qzlx]; try rfl)
theorem qzqv (a0 : List UInt8)  (r : List UInt8) (h : qzdj a0 = some r) : qzq EE Tryz.prog 120 [.str a0] (.str r) := by
 refine Pure.still ?_ hEE (by simp <;> assumption) (by simp)
 obtain ⟨c, hb, hc⟩ := wzf4
 replace h := Ok.of h; unfold qzdj at h
 refine Pure.ofs (fn := Tryz.f120) (n := 5) rfl hb wzgg (hc 0) rfl rfl (by simp) ?_
 refine AW.rS [(0, .str a0)] [] ?_ ?_
 ·simp [qzyc, -Int.pred_toNat]
  all_goals exact zq1
 obtain ⟨r1, h1, h⟩ := h.ex
 refine AW.rS [(2, .str r1)] [] ?_ ?_
 ·simp [qz21, -Int.pred_toNat]
  (repeat' apply And.intro) <;> try first | omega | (simp at * <;> omega)
  refine (qzjg a0 [0]  _ h1).ca (by simp [-Int.pred_toNat]) ?_
  (try simp [-Int.pred_toNat])
  all_goals exact zq1
 have hr := h.some
 subst hr
 refine AW.rt (rs := qzsk) [(2, .str r1)] [] (by simp) (by simp) rfl rfl (by simp [qzsk]) (by simp [qzsk]; try rfl)
abbrev yz3 (bits8 : Int) (j13 : Int) (l1 : List Int) (l5 : List Int) (r4 : List Int) (ep6 : Nat) (ep9 : Nat) (s : Int × (List Int)) (ex : Nat) : List (Nat × AVal) := match s, ex with | (guess15', product18), ep7' => [(8, .int .i64 bits8), (9, slcV 1 (cI .u32) r4), (10, .vec 1 3 0 (List.length l1)), (11, .int .i64 (List.length r4 : Int)), (12, .vec 5 1 0 (List.length l5)), (13, .int .i64 j13), (15, .int .u64 guess15'), (17, .vec 1 3 (Int.toNat j13) (Int.toNat (((j13 + (List.length r4 : Int)) + 1) - j13))), (18, slcV 1 (cI .u32) product18)]
abbrev yz8 (bits8 : Int) (j13 : Int) (l1 : List Int) (l5 : List Int) (r4 : List Int) (ep6 : Nat) (ep9 : Nat) (s : Int × (List Int)) (ex : Nat) : List (Nat × AObj) := match s, ex with | (guess15', product18), ep7' => [(1, .vec 3 1 (List.length l1) (qzd (cI .u32) l1)), (3, .gone 1), (5, .vec 1 1 (List.length l5) (qzd (cI .u32) l5)), (6, .gone (ep6 + 2)), (7, .gone ep7'), (9, .gone ep9)]
abbrev qzfs (bits8 : Int) (j13 : Int) (l1 : List Int) (l5 : List Int) (r4 : List Int) (ep6 : Nat) (ep9 : Nat) : Int × (List Int) → Exit → ASt → Prop := fun o ex S' => match o with | (guess15', product18) => ∃ ep7' : Nat, ex = .exit 6 ∧ See EE S' ⟨tl [(8, .int .i64 bits8), (9, slcV 1 (cI .u32) r4), (10, .vec 1 3 0 (List.length l1)), (11, .int .i64 (List.length r4 : Int)), (12, .vec 5 1 0 (List.length l5)), (13, .int .i64 j13), (15, .int .u64 guess15'), (17, .vec 1 3 (Int.toNat j13) (Int.toNat (((j13 + (List.length r4 : Int)) + 1) - j13))), (18, slcV 1 (cI .u32) product18)] 193, hl [(1, .vec 3 1 (List.length l1) (qzd (cI .u32) l1)), (3, .gone 1), (5, .vec 1 1 (List.length l5) (qzd (cI .u32) l5)), (6, .gone (ep6 + 2)), (7, .gone ep7'), (9, .gone ep9)], []⟩
theorem qzle (bits8 : Int) (j13 : Int) (l1 : List Int) (l5 : List Int) (r4 : List Int) (ep6 : Nat) (ep9 : Nat) (guess15' : Int) (product18 : List Int) (ep7' : Nat) (QQ : (Int × (List Int)) ⊕ (Int × (List Int)) → Prop) (h : Ok (yzk j13 l1 r4 (guess15', product18)) QQ) : AW EE none Tryz.prog (qz8b 0) (fun ex S' => (∃ s' e', ex = .normal ∧ QQ (.inl s') ∧ See EE S' ⟨tl ((yz3 bits8 j13 l1 l5 r4 ep6 ep9) s' e') 193, hl ((yz8 bits8 j13 l1 l5 r4 ep6 ep9) s' e'), []⟩) ∨ (∃ o, QQ (.inr o) ∧ ex ≠ .normal ∧ (qzfs bits8 j13 l1 l5 r4 ep6 ep9) o ex S')) ⟨tl [(8, .int .i64 bits8), (9, slcV 1 (cI .u32) r4), (10, .vec 1 3 0 (List.length l1)), (11, .int .i64 (List.length r4 : Int)), (12, .vec 5 1 0 (List.length l5)), (13, .int .i64 j13), (15, .int .u64 guess15'), (17, .vec 1 3 (Int.toNat j13) (Int.toNat (((j13 + (List.length r4 : Int)) + 1) - j13))), (18, slcV 1 (cI .u32) product18)] 193, hl [(1, .vec 3 1 (List.length l1) (qzd (cI .u32) l1)), (3, .gone 1), (5, .vec 1 1 (List.length l5) (qzd (cI .u32) l5)), (6, .gone (ep6 + 2)), (7, .gone ep7'), (9, .gone ep9)], []⟩ := by
 unfold yzk at h
 refine .seq ?_
 obtain ⟨h40, h⟩ := h.ck
 obtain ⟨r8, h41, h⟩ := h.ex
 obtain ⟨r9, h42, h⟩ := h.ex
 obtain ⟨r10, h43, h⟩ := h.ex
 refine AW.rG [(8, .int .i64 bits8), (9, slcV 1 (cI .u32) r4), (10, .vec 1 3 0 (List.length l1)), (11, .int .i64 (List.length r4 : Int)), (12, .vec 5 1 0 (List.length l5)), (13, .int .i64 j13), (15, .int .u64 guess15'), (17, .vec 1 3 (Int.toNat j13) (Int.toNat (((j13 + (List.length r4 : Int)) + 1) - j13))), (18, slcV 1 (cI .u32) product18), (166, .bool (decide (r10 < 0)))] [(1, .vec 3 1 (List.length l1) (qzd (cI .u32) l1)), (3, .gone 1), (5, .vec 1 1 (List.length l5) (qzd (cI .u32) l5)), (6, .gone (ep6 + 2)), (7, .gone (ep7' + 3)), (9, .gone ep9)] ?_ ?_
 ·refine SReg.cut 2 [(8, .int .i64 bits8), (9, slcV 1 (cI .u32) r4), (10, .vec 1 3 0 (List.length l1)), (11, .int .i64 (List.length r4 : Int)), (12, .vec 5 1 0 (List.length l5)), (13, .int .i64 j13), (15, .int .u64 guess15'), (17, .vec 1 3 (Int.toNat j13) (Int.toNat (((j13 + (List.length r4 : Int)) + 1) - j13))), (18, slcV 1 (cI .u32) product18), (162, .vec 7 (ep7' + 2) 0 (List.length r8))] [(1, .vec 3 1 (List.length l1) (qzd (cI .u32) l1)), (3, .gone 1), (5, .vec 1 1 (List.length l5) (qzd (cI .u32) l5)), (6, .gone (ep6 + 2)), (7, .vec (ep7' + 2) 1 (List.length r8) (qzd (cI .u32) r8)), (9, .gone ep9)] ?_ ?_
  ·have f32s := vzn h40
   obtain ⟨f32a, f32b, f32c⟩ := vz4 h40
   simp [qzuc, -Int.pred_toNat, f32s, f32a, f32b, f32c]
   (repeat' apply And.intro) <;> try first | omega | (simp at * <;> omega)
   refine ATr.mono (qzcu 7 (sub l1 j13 ((j13 + (List.length r4 : Int)) + 1)) _ h41 _ _ (by simp [hl, qz8]) ?_) ?_
   ·exact (qzaz.view (id := 1) h40 (by simp [hl, qz8]; try rfl) (by decide)).of (by simp [-Int.pred_toNat, f32s, f32a, f32b, f32c])
   rintro v h' ⟨f', rfl, rfl, h41f⟩
   simp [-Int.pred_toNat, f32s, f32a, f32b, f32c]
   (repeat' apply And.intro) <;> first | omega | (simp at * <;> omega) | (intro _; intros; simp_all; done) | exact .mk (by simp [-Int.pred_toNat, f32s, f32a, f32b, f32c] <;> first | (intro k hk; exact h41f k (by simpa using hk)) | (intro k hk; simpa using kzw (c := (cI .u32)) h40 k (by omega))) (by simp [-Int.pred_toNat, f32s, f32a, f32b, f32c] <;> first | (intro k hk; exact h41f k (by simpa using hk)) | (intro k hk; simpa using kzw (c := (cI .u32)) h40 k (by omega))) rfl
  refine SReg.frz 7 [(8, .int .i64 bits8), (9, slcV 1 (cI .u32) r4), (10, .vec 1 3 0 (List.length l1)), (11, .int .i64 (List.length r4 : Int)), (12, .vec 5 1 0 (List.length l5)), (13, .int .i64 j13), (15, .int .u64 guess15'), (17, .vec 1 3 (Int.toNat j13) (Int.toNat (((j13 + (List.length r4 : Int)) + 1) - j13))), (18, slcV 1 (cI .u32) product18), (162, slcV 1 (cI .u32) r8)] [(1, .vec 3 1 (List.length l1) (qzd (cI .u32) l1)), (3, .gone 1), (5, .vec 1 1 (List.length l5) (qzd (cI .u32) l5)), (6, .gone (ep6 + 2)), (7, .gone (ep7' + 3)), (9, .gone ep9)] rfl rfl trivial (by simp) (by simp) rfl ?_
  refine SReg.fin ?_
  simp [qzuc, -Int.pred_toNat]
  (repeat' apply And.intro) <;> try first | omega | (simp at * <;> omega)
  refine (qz4 r8  _ h42).ca (by simp [-Int.pred_toNat]) ?_
  (try simp [-Int.pred_toNat])
  (repeat' apply And.intro) <;> try first | omega | (simp at * <;> omega)
  refine (vzq r9 product18  _ h43).ca (by simp [-Int.pred_toNat]) ?_
  (try simp [-Int.pred_toNat])
  all_goals exact zq1
 refine AW.ifF (decide (r10 < 0)) rfl (by simp) (fun e => ?_) (fun e => ?_)
 ·replace h := h.pos e
  refine AW.skip ?_
  refine .block ?_
  refine AW.rS [(8, .int .i64 bits8), (9, slcV 1 (cI .u32) r4), (10, .vec 1 3 0 (List.length l1)), (11, .int .i64 (List.length r4 : Int)), (12, .vec 5 1 0 (List.length l5)), (13, .int .i64 j13), (15, .int .u64 ((guess15' - 1) % 18446744073709551616)), (17, .vec 1 3 (Int.toNat j13) (Int.toNat (((j13 + (List.length r4 : Int)) + 1) - j13))), (18, slcV 1 (cI .u32) product18)] [(1, .vec 3 1 (List.length l1) (qzd (cI .u32) l1)), (3, .gone 1), (5, .vec 1 1 (List.length l5) (qzd (cI .u32) l5)), (6, .gone (ep6 + 2)), (7, .gone (ep7' + 3)), (9, .gone ep9)] ?_ ?_
  ·simp [qz1j, -Int.pred_toNat]
   all_goals exact zq1
  obtain ⟨r11, h44, h⟩ := h.ex
  refine AW.rE [(8, .int .i64 bits8), (9, slcV 1 (cI .u32) r4), (10, .vec 1 3 0 (List.length l1)), (11, .int .i64 (List.length r4 : Int)), (12, .vec 5 1 0 (List.length l5)), (13, .int .i64 j13), (15, .int .u64 ((guess15' - 1) % 18446744073709551616)), (17, .vec 1 3 (Int.toNat j13) (Int.toNat (((j13 + (List.length r4 : Int)) + 1) - j13))), (18, slcV 1 (cI .u32) r11)] [(1, .vec 3 1 (List.length l1) (qzd (cI .u32) l1)), (3, .gone 1), (5, .vec 1 1 (List.length l5) (qzd (cI .u32) l5)), (6, .gone (ep6 + 2)), (7, .gone (ep7' + 3)), (9, .gone ep9)] ?_ (fun S' hs3 => ?_)
  ·simp [qz11, -Int.pred_toNat]
   (repeat' apply And.intro) <;> try first | omega | (simp at * <;> omega)
   refine (qzbu product18 r4  _ h44).ca (by simp [-Int.pred_toNat]) ?_
   (try simp [-Int.pred_toNat])
   all_goals exact zq1
  exact .inl ⟨(((guess15' - 1) % 18446744073709551616), r11), (ep7' + 3), rfl, h.some, (hs3.trans (.wk (by simp [yz3]) (by simp [yz8]) rfl))⟩
 ·replace h := h.neg e
  refine .exit ?_
  exact .inr ⟨(guess15', product18), h.some, by simp, ⟨(ep7' + 3), rfl, (.wk (by simp) (by simp) rfl)⟩⟩
abbrev yz7 (bits8 : Int) (j13 : Int) (l1 : List Int) (l5 : List Int) (r4 : List Int) (ep6 : Nat) (ep7 : Nat) (ep9 : Nat) (s : Int × Int) (ex : Unit) : List (Nat × AVal) := match s, ex with | (guess15, left16), () => [(8, .int .i64 bits8), (9, slcV 1 (cI .u32) r4), (10, .vec 1 3 0 (List.length l1)), (11, .int .i64 (List.length r4 : Int)), (12, .vec 5 1 0 (List.length l5)), (13, .int .i64 j13), (15, .int .u64 guess15), (16, .int .u64 left16)]
abbrev qzaf (bits8 : Int) (j13 : Int) (l1 : List Int) (l5 : List Int) (r4 : List Int) (ep6 : Nat) (ep7 : Nat) (ep9 : Nat) (s : Int × Int) (ex : Unit) : List (Nat × AObj) := match s, ex with | (guess15, left16), () => [(1, .vec 3 1 (List.length l1) (qzd (cI .u32) l1)), (3, .gone 1), (5, .vec 1 1 (List.length l5) (qzd (cI .u32) l5)), (6, .gone ep6), (7, .gone ep7), (9, .gone ep9)]
abbrev qzfp (bits8 : Int) (j13 : Int) (l1 : List Int) (l5 : List Int) (r4 : List Int) (ep6 : Nat) (ep7 : Nat) (ep9 : Nat) : Int → Exit → ASt → Prop := fun o ex S' => match o with | guess15 => ex = .exit 4 ∧ See EE S' ⟨tl [(8, .int .i64 bits8), (9, slcV 1 (cI .u32) r4), (10, .vec 1 3 0 (List.length l1)), (11, .int .i64 (List.length r4 : Int)), (12, .vec 5 1 0 (List.length l5)), (13, .int .i64 j13), (15, .int .u64 guess15)] 193, hl [(1, .vec 3 1 (List.length l1) (qzd (cI .u32) l1)), (3, .gone 1), (5, .vec 1 1 (List.length l5) (qzd (cI .u32) l5)), (6, .gone ep6), (7, .gone ep7), (9, .gone ep9)], []⟩
theorem qzlm (bits8 : Int) (j13 : Int) (l1 : List Int) (l5 : List Int) (r4 : List Int) (ep6 : Nat) (ep7 : Nat) (ep9 : Nat) (guess15 : Int) (left16 : Int) (QQ : (Int × Int) ⊕ Int → Prop) (h : Ok (kz2 j13 l1 r4 (guess15, left16)) QQ) : AW EE none Tryz.prog (wzas 0) (fun ex S' => (∃ s' e', ex = .normal ∧ QQ (.inl s') ∧ See EE S' ⟨tl ((yz7 bits8 j13 l1 l5 r4 ep6 ep7 ep9) s' e') 193, hl ((qzaf bits8 j13 l1 l5 r4 ep6 ep7 ep9) s' e'), []⟩) ∨ (∃ o, QQ (.inr o) ∧ ex ≠ .normal ∧ (qzfp bits8 j13 l1 l5 r4 ep6 ep7 ep9) o ex S')) ⟨tl [(8, .int .i64 bits8), (9, slcV 1 (cI .u32) r4), (10, .vec 1 3 0 (List.length l1)), (11, .int .i64 (List.length r4 : Int)), (12, .vec 5 1 0 (List.length l5)), (13, .int .i64 j13), (15, .int .u64 guess15), (16, .int .u64 left16)] 193, hl [(1, .vec 3 1 (List.length l1) (qzd (cI .u32) l1)), (3, .gone 1), (5, .vec 1 1 (List.length l5) (qzd (cI .u32) l5)), (6, .gone ep6), (7, .gone ep7), (9, .gone ep9)], []⟩ := by
 unfold kz2 at h
 refine .seq ?_
 obtain ⟨h29, h⟩ := h.ck
 obtain ⟨x7, h30, h⟩ := h.ex
 obtain ⟨h31, h⟩ := h.ck
 obtain ⟨h32, h⟩ := h.ck
 obtain ⟨x8, h33, h⟩ := h.ex
 refine AW.dS [(8, .int .i64 bits8), (9, slcV 1 (cI .u32) r4), (10, .vec 1 3 0 (List.length l1)), (11, .int .i64 (List.length r4 : Int)), (12, .vec 5 1 0 (List.length l5)), (13, .int .i64 j13), (15, .int .u64 guess15), (16, .int .u64 left16), (136, .bool (bif (decide (left16 < 4294967296)) then (decide ((bitI .or .u64 ((left16 * 4294967296) % 18446744073709551616) (x8 % 18446744073709551616)) < ((guess15 * (x7 % 18446744073709551616)) % 18446744073709551616))) else false))] [(1, .vec 3 1 (List.length l1) (qzd (cI .u32) l1)), (3, .gone 1), (5, .vec 1 1 (List.length l5) (qzd (cI .u32) l5)), (6, .gone ep6), (7, .gone ep7), (9, .gone ep9)] ?_ ?_
 ·rcases Bool.eq_false_or_eq_true (decide (left16 < 4294967296)) with e1 | e1
  ·have e1n := e1
   (try simp at e1n)
   have f22 := qzr (ck_g h29 e1)
   obtain ⟨f23a, f23b, f23c⟩ := qzlv (gd_t e1 h30)
   have f23d : qzd (cI .u32) r4 (Int.toNat ((List.length r4 : Int) - 2)) = (cI .u32) x7 := qzo f23c
   have f23e : Int.toNat ((List.length r4 : Int) - 2) < List.length r4 := by omega
   have f24 := qzr (ck_g h31 e1)
   have f25 := qzr (ck_g h32 e1)
   obtain ⟨f26a, f26b, f26c⟩ := qzlv (gd_t e1 h33)
   have f26d : qzd (cI .u32) l1 (Int.toNat ((j13 + (List.length r4 : Int)) - 2)) = (cI .u32) x8 := qzo f26c
   have f26e : Int.toNat ((j13 + (List.length r4 : Int)) - 2) < List.length l1 := by omega
   simp [qzsv, -Int.pred_toNat, e1, e1n, f22, f23a, f23b, f23d, f23e, f24, f25, f26a, f26b, f26d, f26e]
   (repeat' apply And.intro) <;> first | omega | (simp at * <;> omega) | kernel_rfl | (intro _; intros; simp_all; done) | exact .mk (by simp [-Int.pred_toNat, e1, e1n, f22, f23a, f23b, f23d, f23e, f24, f25, f26a, f26b, f26d, f26e] <;> first | (intro k hk; rw [qzn _ k (by first | simpa using hk | omega)]; simp)) (by simp [-Int.pred_toNat, e1, e1n, f22, f23a, f23b, f23d, f23e, f24, f25, f26a, f26b, f26d, f26e] <;> first | (intro k hk; rw [qzn _ k (by first | simpa using hk | omega)]; simp)) rfl
  ·have e1n := e1
   (try simp at e1n)
   simp [qzsv, -Int.pred_toNat, e1, e1n]
   (repeat' apply And.intro) <;> first | omega | (simp at * <;> omega) | kernel_rfl | (intro _; intros; simp_all; done) | exact .mk (by simp [-Int.pred_toNat, e1, e1n] <;> first | (intro k hk; rw [qzn _ k (by first | simpa using hk | omega)]; simp)) (by simp [-Int.pred_toNat, e1, e1n] <;> first | (intro k hk; rw [qzn _ k (by first | simpa using hk | omega)]; simp)) rfl
 refine AW.ifF (bif (decide (left16 < 4294967296)) then (decide ((bitI .or .u64 ((left16 * 4294967296) % 18446744073709551616) (x8 % 18446744073709551616)) < ((guess15 * (x7 % 18446744073709551616)) % 18446744073709551616))) else false) rfl (by simp) (fun e => ?_) (fun e => ?_)
 ·replace h := h.pos e
  refine AW.skip ?_
  refine .block ?_
  refine AW.rS [(8, .int .i64 bits8), (9, slcV 1 (cI .u32) r4), (10, .vec 1 3 0 (List.length l1)), (11, .int .i64 (List.length r4 : Int)), (12, .vec 5 1 0 (List.length l5)), (13, .int .i64 j13), (15, .int .u64 ((guess15 - 1) % 18446744073709551616)), (16, .int .u64 left16)] [(1, .vec 3 1 (List.length l1) (qzd (cI .u32) l1)), (3, .gone 1), (5, .vec 1 1 (List.length l5) (qzd (cI .u32) l5)), (6, .gone ep6), (7, .gone ep7), (9, .gone ep9)] ?_ ?_
  ·simp [qzzd, -Int.pred_toNat]
   all_goals exact zq1
  obtain ⟨h34, h⟩ := h.ck
  obtain ⟨x9, h35, h⟩ := h.at
  refine AW.rE [(8, .int .i64 bits8), (9, slcV 1 (cI .u32) r4), (10, .vec 1 3 0 (List.length l1)), (11, .int .i64 (List.length r4 : Int)), (12, .vec 5 1 0 (List.length l5)), (13, .int .i64 j13), (15, .int .u64 ((guess15 - 1) % 18446744073709551616)), (16, .int .u64 ((left16 + (x9 % 18446744073709551616)) % 18446744073709551616))] [(1, .vec 3 1 (List.length l1) (qzd (cI .u32) l1)), (3, .gone 1), (5, .vec 1 1 (List.length l5) (qzd (cI .u32) l5)), (6, .gone ep6), (7, .gone ep7), (9, .gone ep9)] ?_ (fun S' hs2 => ?_)
  ·have f27 := qzr h34
   obtain ⟨f28a, f28b, f28c⟩ := h35
   have f28d : qzd (cI .u32) r4 (Int.toNat ((List.length r4 : Int) - 1)) = (cI .u32) x9 := qzo f28c
   have f28e : Int.toNat ((List.length r4 : Int) - 1) < List.length r4 := by omega
   simp [qz0g, -Int.pred_toNat, f27, f28a, f28b, f28d, f28e]
   (repeat' apply And.intro) <;> first | omega | (simp at * <;> omega) | (intro _; intros; simp_all; done) | exact .mk (by simp [-Int.pred_toNat, f27, f28a, f28b, f28d, f28e] <;> first | (intro k hk; rw [qzn _ k (by first | simpa using hk | omega)]; simp)) (by simp [-Int.pred_toNat, f27, f28a, f28b, f28d, f28e] <;> first | (intro k hk; rw [qzn _ k (by first | simpa using hk | omega)]; simp)) rfl
  exact .inl ⟨(((guess15 - 1) % 18446744073709551616), ((left16 + (x9 % 18446744073709551616)) % 18446744073709551616)), (), rfl, h.some, (hs2.trans (.wk (by simp [yz7]) (by simp [qzaf]) rfl))⟩
 ·replace h := h.neg e
  refine .exit ?_
  exact .inr ⟨guess15, h.some, by simp, ⟨rfl, (.wk (by simp) (by simp) rfl)⟩⟩
abbrev vzc (bits8 : Int) (r4 : List Int) (s : Int × (List Int) × (List Int)) (ex : Nat × Nat × Nat) : List (Nat × AVal) := match s, ex with | (j13, l1, l5), (ep6, ep7, ep9) => [(8, .int .i64 bits8), (9, slcV 1 (cI .u32) r4), (10, .vec 1 3 0 (List.length l1)), (11, .int .i64 (List.length r4 : Int)), (12, .vec 5 1 0 (List.length l5)), (13, .int .i64 j13)]
abbrev vza (bits8 : Int) (r4 : List Int) (s : Int × (List Int) × (List Int)) (ex : Nat × Nat × Nat) : List (Nat × AObj) := match s, ex with | (j13, l1, l5), (ep6, ep7, ep9) => [(1, .vec 3 1 (List.length l1) (qzd (cI .u32) l1)), (3, .gone 1), (5, .vec 1 1 (List.length l5) (qzd (cI .u32) l5)), (6, .gone ep6), (7, .gone ep7), (9, .gone ep9)]
abbrev qzfn (bits8 : Int) (r4 : List Int) : (List Int) × (List Int) → Exit → ASt → Prop := fun o ex S' => match o with | (l1, l5) => ∃ ep6 : Nat, ∃ ep7 : Nat, ∃ ep9 : Nat, ex = .exit 2 ∧ See EE S' ⟨tl [(8, .int .i64 bits8), (10, .vec 1 3 0 (List.length l1)), (12, .vec 5 1 0 (List.length l5))] 193, hl [(1, .vec 3 1 (List.length l1) (qzd (cI .u32) l1)), (3, .gone 1), (5, .vec 1 1 (List.length l5) (qzd (cI .u32) l5)), (6, .gone ep6), (7, .gone ep7), (9, .gone ep9)], []⟩
theorem qzk1 (bits8 : Int) (r4 : List Int) (j13 : Int) (l1 : List Int) (l5 : List Int) (ep6 : Nat) (ep7 : Nat) (ep9 : Nat) (QQ : (Int × (List Int) × (List Int)) ⊕ ((List Int) × (List Int)) → Prop) (h : Ok (wz2 r4 (j13, l1, l5)) QQ) : AW EE none Tryz.prog (qz9a 0) (fun ex S' => (∃ s' e', ex = .normal ∧ QQ (.inl s') ∧ See EE S' ⟨tl ((vzc bits8 r4) s' e') 193, hl ((vza bits8 r4) s' e'), []⟩) ∨ (∃ o, QQ (.inr o) ∧ ex ≠ .normal ∧ (qzfn bits8 r4) o ex S')) ⟨tl [(8, .int .i64 bits8), (9, slcV 1 (cI .u32) r4), (10, .vec 1 3 0 (List.length l1)), (11, .int .i64 (List.length r4 : Int)), (12, .vec 5 1 0 (List.length l5)), (13, .int .i64 j13)] 193, hl [(1, .vec 3 1 (List.length l1) (qzd (cI .u32) l1)), (3, .gone 1), (5, .vec 1 1 (List.length l5) (qzd (cI .u32) l5)), (6, .gone ep6), (7, .gone ep7), (9, .gone ep9)], []⟩ := by
 unfold wz2 at h
 refine .seq ?_
 refine AW.rS [(8, .int .i64 bits8), (9, slcV 1 (cI .u32) r4), (10, .vec 1 3 0 (List.length l1)), (11, .int .i64 (List.length r4 : Int)), (12, .vec 5 1 0 (List.length l5)), (13, .int .i64 j13), (74, .bool (decide (0 ≤ j13)))] [(1, .vec 3 1 (List.length l1) (qzd (cI .u32) l1)), (3, .gone 1), (5, .vec 1 1 (List.length l5) (qzd (cI .u32) l5)), (6, .gone ep6), (7, .gone ep7), (9, .gone ep9)] ?_ ?_
 ·simp [qzyu, -Int.pred_toNat]
  all_goals exact zq1
 refine AW.ifF (decide (0 ≤ j13)) rfl (by simp) (fun e => ?_) (fun e => ?_)
 ·replace h := h.pos e
  refine AW.skip ?_
  refine .seq ?_
  refine .block ?_
  obtain ⟨h19, h⟩ := h.ck
  obtain ⟨x3, h20, h⟩ := h.at
  obtain ⟨h21, h⟩ := h.ck
  obtain ⟨h22, h⟩ := h.ck
  obtain ⟨x4, h23, h⟩ := h.at
  refine AW.dS [(8, .int .i64 bits8), (9, slcV 1 (cI .u32) r4), (10, .vec 1 3 0 (List.length l1)), (11, .int .i64 (List.length r4 : Int)), (12, .vec 5 1 0 (List.length l5)), (13, .int .i64 j13), (14, .int .u64 (bitI .or .u64 (((x3 % 18446744073709551616) * 4294967296) % 18446744073709551616) (x4 % 18446744073709551616)))] [(1, .vec 3 1 (List.length l1) (qzd (cI .u32) l1)), (3, .gone 1), (5, .vec 1 1 (List.length l5) (qzd (cI .u32) l5)), (6, .gone ep6), (7, .gone ep7), (9, .gone ep9)] ?_ ?_
  ·have f12 := qzr h19
   obtain ⟨f13a, f13b, f13c⟩ := h20
   have f13d : qzd (cI .u32) l1 (Int.toNat (j13 + (List.length r4 : Int))) = (cI .u32) x3 := qzo f13c
   have f13e : Int.toNat (j13 + (List.length r4 : Int)) < List.length l1 := by omega
   have f14 := qzr h21
   have f15 := qzr h22
   obtain ⟨f16a, f16b, f16c⟩ := h23
   have f16d : qzd (cI .u32) l1 (Int.toNat ((j13 + (List.length r4 : Int)) - 1)) = (cI .u32) x4 := qzo f16c
   have f16e : Int.toNat ((j13 + (List.length r4 : Int)) - 1) < List.length l1 := by omega
   simp [qzyt, -Int.pred_toNat, f12, f13a, f13b, f13d, f13e, f14, f15, f16a, f16b, f16d, f16e]
   (repeat' apply And.intro) <;> first | omega | (simp at * <;> omega) | kernel_rfl | (intro _; intros; simp_all; done) | exact .mk (by simp [-Int.pred_toNat, f12, f13a, f13b, f13d, f13e, f14, f15, f16a, f16b, f16d, f16e] <;> first | (intro k hk; rw [qzn _ k (by first | simpa using hk | omega)]; simp)) (by simp [-Int.pred_toNat, f12, f13a, f13b, f13d, f13e, f14, f15, f16a, f16b, f16d, f16e] <;> first | (intro k hk; rw [qzn _ k (by first | simpa using hk | omega)]; simp)) rfl
  obtain ⟨h24, h⟩ := h.ck
  obtain ⟨x5, h25, h⟩ := h.at
  obtain ⟨h26, h⟩ := h.ck
  refine AW.rS [(8, .int .i64 bits8), (9, slcV 1 (cI .u32) r4), (10, .vec 1 3 0 (List.length l1)), (11, .int .i64 (List.length r4 : Int)), (12, .vec 5 1 0 (List.length l5)), (13, .int .i64 j13), (14, .int .u64 (bitI .or .u64 (((x3 % 18446744073709551616) * 4294967296) % 18446744073709551616) (x4 % 18446744073709551616))), (15, .int .u64 (min (((bitI .or .u64 (((x3 % 18446744073709551616) * 4294967296) % 18446744073709551616) (x4 % 18446744073709551616)).tdiv (x5 % 18446744073709551616)) % 18446744073709551616) 4294967295))] [(1, .vec 3 1 (List.length l1) (qzd (cI .u32) l1)), (3, .gone 1), (5, .vec 1 1 (List.length l5) (qzd (cI .u32) l5)), (6, .gone ep6), (7, .gone ep7), (9, .gone ep9)] ?_ ?_
  ·have f17 := qzr h24
   obtain ⟨f18a, f18b, f18c⟩ := h25
   have f18d : qzd (cI .u32) r4 (Int.toNat ((List.length r4 : Int) - 1)) = (cI .u32) x5 := qzo f18c
   have f18e : Int.toNat ((List.length r4 : Int) - 1) < List.length r4 := by omega
   have f19 := h26
   simp [qz1o, -Int.pred_toNat, f17, f18a, f18b, f18d, f18e, f19]
   (repeat' apply And.intro) <;> first | omega | (simp at * <;> omega) | (intro _; intros; simp_all; done) | exact .mk (by simp [-Int.pred_toNat, f17, f18a, f18b, f18d, f18e, f19] <;> first | (intro k hk; rw [qzn _ k (by first | simpa using hk | omega)]; simp)) (by simp [-Int.pred_toNat, f17, f18a, f18b, f18d, f18e, f19] <;> first | (intro k hk; rw [qzn _ k (by first | simpa using hk | omega)]; simp)) rfl
  obtain ⟨h27, h⟩ := h.ck
  obtain ⟨x6, h28, h⟩ := h.at
  refine AW.rS [(8, .int .i64 bits8), (9, slcV 1 (cI .u32) r4), (10, .vec 1 3 0 (List.length l1)), (11, .int .i64 (List.length r4 : Int)), (12, .vec 5 1 0 (List.length l5)), (13, .int .i64 j13), (15, .int .u64 (min (((bitI .or .u64 (((x3 % 18446744073709551616) * 4294967296) % 18446744073709551616) (x4 % 18446744073709551616)).tdiv (x5 % 18446744073709551616)) % 18446744073709551616) 4294967295)), (16, .int .u64 (((bitI .or .u64 (((x3 % 18446744073709551616) * 4294967296) % 18446744073709551616) (x4 % 18446744073709551616)) - (((min (((bitI .or .u64 (((x3 % 18446744073709551616) * 4294967296) % 18446744073709551616) (x4 % 18446744073709551616)).tdiv (x5 % 18446744073709551616)) % 18446744073709551616) 4294967295) * (x6 % 18446744073709551616)) % 18446744073709551616)) % 18446744073709551616))] [(1, .vec 3 1 (List.length l1) (qzd (cI .u32) l1)), (3, .gone 1), (5, .vec 1 1 (List.length l5) (qzd (cI .u32) l5)), (6, .gone ep6), (7, .gone ep7), (9, .gone ep9)] ?_ ?_
  ·have f20 := qzr h27
   obtain ⟨f21a, f21b, f21c⟩ := h28
   have f21d : qzd (cI .u32) r4 (Int.toNat ((List.length r4 : Int) - 1)) = (cI .u32) x6 := qzo f21c
   have f21e : Int.toNat ((List.length r4 : Int) - 1) < List.length r4 := by omega
   simp [qzzm, -Int.pred_toNat, f20, f21a, f21b, f21d, f21e]
   (repeat' apply And.intro) <;> first | omega | (simp at * <;> omega) | (intro _; intros; simp_all; done) | exact .mk (by simp [-Int.pred_toNat, f20, f21a, f21b, f21d, f21e] <;> first | (intro k hk; rw [qzn _ k (by first | simpa using hk | omega)]; simp)) (by simp [-Int.pred_toNat, f20, f21a, f21b, f21d, f21e] <;> first | (intro k hk; rw [qzn _ k (by first | simpa using hk | omega)]; simp)) rfl
  refine .seq ?_
  refine .block ?_
  refine AW.lpF (ε := Unit) () h.bd (yz7 bits8 j13 l1 l5 r4 ep6 ep7 ep9) (qzaf bits8 j13 l1 l5 r4 ep6 ep7 ep9) (qzfp bits8 j13 l1 l5 r4 ep6 ep7 ep9) (by simp [yz7]) (by simp [qzaf]) rfl ?_ ?_
  ·rintro ⟨guess15, left16⟩ ⟨⟩ QQ h
   exact qzlm bits8 j13 l1 l5 r4 ep6 ep7 ep9 guess15 left16 QQ h
  ·rintro guess15 h ex S' hs
   obtain ⟨rfl, hs⟩ := hs
   refine .see hs ?_
   refine .seq ?_
   refine AW.rS [(8, .int .i64 bits8), (9, slcV 1 (cI .u32) r4), (10, .vec 1 3 0 (List.length l1)), (11, .int .i64 (List.length r4 : Int)), (12, .vec 5 1 0 (List.length l5)), (13, .int .i64 j13), (15, .int .u64 guess15), (148, .bool (decide (guess15 = 0)))] [(1, .vec 3 1 (List.length l1) (qzd (cI .u32) l1)), (3, .gone 1), (5, .vec 1 1 (List.length l5) (qzd (cI .u32) l5)), (6, .gone ep6), (7, .gone ep7), (9, .gone ep9)] ?_ ?_
   ·simp [qz00, -Int.pred_toNat]
    all_goals exact zq1
   refine AW.sub (fun o ex S' => match o with | .inl () => ex = .normal ∧ See EE S' ⟨tl [(8, .int .i64 bits8), (9, slcV 1 (cI .u32) r4), (10, .vec 1 3 0 (List.length l1)), (11, .int .i64 (List.length r4 : Int)), (12, .vec 5 1 0 (List.length l5)), (13, .int .i64 j13), (15, .int .u64 guess15)] 193, hl [(1, .vec 3 1 (List.length l1) (qzd (cI .u32) l1)), (3, .gone 1), (5, .vec 1 1 (List.length l5) (qzd (cI .u32) l5)), (6, .gone ep6), (7, .gone ep7), (9, .gone ep9)], []⟩ | .inr () => ex = .exit 3 ∧ See EE S' ⟨tl [(8, .int .i64 bits8), (9, slcV 1 (cI .u32) r4), (10, .vec 1 3 0 (List.length l1)), (11, .int .i64 (List.length r4 : Int)), (12, .vec 5 1 0 (List.length l5)), (13, .int .i64 j13)] 193, hl [(1, .vec 3 1 (List.length l1) (qzd (cI .u32) l1)), (3, .gone 1), (5, .vec 1 1 (List.length l5) (qzd (cI .u32) l5)), (6, .gone ep6), (7, .gone ep7), (9, .gone ep9)], []⟩) h.bd (fun QQ h => ?_) ?_
   ·refine AW.ifF (decide (guess15 = 0)) rfl (by simp) (fun e => ?_) (fun e => ?_)
    ·replace h := h.pos e
     refine .exit ?_
     exact ⟨.inr (), h.some, ⟨rfl, (.wk (by simp) (by simp) rfl)⟩⟩
    ·replace h := h.neg e
     refine AW.skip ?_
     exact ⟨.inl (), h.some, ⟨rfl, (.wk (by simp) (by simp) rfl)⟩⟩
   ·intro o h ex S' hs
    rcases o with ⟨⟩ | ⟨⟩
    ·obtain ⟨rfl, hs⟩ := hs
     refine .see hs ?_
     obtain ⟨h36, h⟩ := h.ck
     obtain ⟨h37, h⟩ := h.ck
     obtain ⟨h38, h⟩ := h.ck
     refine AW.rS [(8, .int .i64 bits8), (9, slcV 1 (cI .u32) r4), (10, .vec 1 3 0 (List.length l1)), (11, .int .i64 (List.length r4 : Int)), (12, .vec 5 1 0 (List.length l5)), (13, .int .i64 j13), (15, .int .u64 guess15), (17, .vec 1 3 (Int.toNat j13) (Int.toNat (((j13 + (List.length r4 : Int)) + 1) - j13)))] [(1, .vec 3 1 (List.length l1) (qzd (cI .u32) l1)), (3, .gone 1), (5, .vec 1 1 (List.length l5) (qzd (cI .u32) l5)), (6, .gone ep6), (7, .gone ep7), (9, .gone ep9)] ?_ ?_
     ·have f29 := qzr h36
      have f30 := qzr h37
      have f31s := vzn h38
      obtain ⟨f31a, f31b, f31c⟩ := vz4 h38
      simp [qzy5, -Int.pred_toNat, f29, f30, f31s, f31a, f31b, f31c]
      (repeat' apply And.intro) <;> first | omega | (simp at * <;> omega) | (intro _; intros; simp_all; done) | exact .mk (by simp [-Int.pred_toNat, f29, f30, f31s, f31a, f31b, f31c] <;> first | (intro k hk; simpa using kzw (c := (cI .u32)) h38 k (by omega))) (by simp [-Int.pred_toNat, f29, f30, f31s, f31a, f31b, f31c] <;> first | (intro k hk; simpa using kzw (c := (cI .u32)) h38 k (by omega))) rfl
     obtain ⟨r7, h39, h⟩ := h.ex
     refine AW.rG [(8, .int .i64 bits8), (9, slcV 1 (cI .u32) r4), (10, .vec 1 3 0 (List.length l1)), (11, .int .i64 (List.length r4 : Int)), (12, .vec 5 1 0 (List.length l5)), (13, .int .i64 j13), (15, .int .u64 guess15), (17, .vec 1 3 (Int.toNat j13) (Int.toNat (((j13 + (List.length r4 : Int)) + 1) - j13))), (18, slcV 1 (cI .u32) r7)] [(1, .vec 3 1 (List.length l1) (qzd (cI .u32) l1)), (3, .gone 1), (5, .vec 1 1 (List.length l5) (qzd (cI .u32) l5)), (6, .gone (ep6 + 2)), (7, .gone ep7), (9, .gone ep9)] ?_ ?_
     ·refine SReg.cut 4 [(8, .int .i64 bits8), (9, slcV 1 (cI .u32) r4), (10, .vec 1 3 0 (List.length l1)), (11, .int .i64 (List.length r4 : Int)), (12, .vec 5 1 0 (List.length l5)), (13, .int .i64 j13), (15, .int .u64 guess15), (17, .vec 1 3 (Int.toNat j13) (Int.toNat (((j13 + (List.length r4 : Int)) + 1) - j13))), (156, slcV 1 (cI .u32) r4), (159, .vec 6 (ep6 + 1) 0 (List.length [(guess15 % 4294967296)]))] [(1, .vec 3 1 (List.length l1) (qzd (cI .u32) l1)), (3, .gone 1), (5, .vec 1 1 (List.length l5) (qzd (cI .u32) l5)), (6, .vec (ep6 + 1) 1 (List.length [(guess15 % 4294967296)]) (qzd (cI .u32) [(guess15 % 4294967296)])), (7, .gone ep7), (9, .gone ep9)] ?_ ?_
      ·simp [qzsw, -Int.pred_toNat]
       (repeat' apply And.intro) <;> first | omega | (simp at * <;> omega) | (intro _; intros; simp_all; done) | exact .mk (by simp [-Int.pred_toNat] <;> first | (intro k hk; rw [qzn _ k (by first | simpa using hk | omega)]; simp)) (by simp [-Int.pred_toNat] <;> first | (intro k hk; rw [qzn _ k (by first | simpa using hk | omega)]; simp)) rfl
      refine SReg.frz 6 [(8, .int .i64 bits8), (9, slcV 1 (cI .u32) r4), (10, .vec 1 3 0 (List.length l1)), (11, .int .i64 (List.length r4 : Int)), (12, .vec 5 1 0 (List.length l5)), (13, .int .i64 j13), (15, .int .u64 guess15), (17, .vec 1 3 (Int.toNat j13) (Int.toNat (((j13 + (List.length r4 : Int)) + 1) - j13))), (156, slcV 1 (cI .u32) r4), (159, slcV 1 (cI .u32) [(guess15 % 4294967296)])] [(1, .vec 3 1 (List.length l1) (qzd (cI .u32) l1)), (3, .gone 1), (5, .vec 1 1 (List.length l5) (qzd (cI .u32) l5)), (6, .gone (ep6 + 2)), (7, .gone ep7), (9, .gone ep9)] rfl rfl trivial (by simp) (by simp) rfl ?_
      refine SReg.fin ?_
      simp [qzsw, -Int.pred_toNat]
      (repeat' apply And.intro) <;> try first | omega | (simp at * <;> omega)
      refine (qzbl r4 [(guess15 % 4294967296)]  _ h39).ca (by simp [-Int.pred_toNat] <;> first | (intro k hk; rw [qzn _ k (by first | simpa using hk | omega)]; simp)) ?_
      (try simp [-Int.pred_toNat])
      (repeat' apply And.intro) <;> first | omega | (simp at * <;> omega) | (intro _; intros; simp_all; done) | exact .mk (by simp [-Int.pred_toNat] <;> first | (intro k hk; rw [qzn _ k (by first | simpa using hk | omega)]; simp)) (by simp [-Int.pred_toNat] <;> first | (intro k hk; rw [qzn _ k (by first | simpa using hk | omega)]; simp)) rfl
     refine .seq ?_
     refine .block ?_
     refine AW.lpF (ε := Nat) ep7 h.bd (yz3 bits8 j13 l1 l5 r4 ep6 ep9) (yz8 bits8 j13 l1 l5 r4 ep6 ep9) (qzfs bits8 j13 l1 l5 r4 ep6 ep9) (by simp [yz3]) (by simp [yz8]) rfl ?_ ?_
     ·rintro ⟨guess15', product18⟩ ep7' QQ h
      exact qzle bits8 j13 l1 l5 r4 ep6 ep9 guess15' product18 ep7' QQ h
     ·rintro ⟨guess15', product18⟩ h ex S' hs
      obtain ⟨ep7', rfl, hs⟩ := hs
      refine .see hs ?_
      obtain ⟨h45, h⟩ := h.ck
      obtain ⟨r12, h46, h⟩ := h.ex
      obtain ⟨r13, h47, h⟩ := h.ex
      obtain ⟨r14, h48, h⟩ := h.ex
      refine AW.rG [(8, .int .i64 bits8), (9, slcV 1 (cI .u32) r4), (10, .vec 1 3 0 (List.length l1)), (11, .int .i64 (List.length r4 : Int)), (12, .vec 5 1 0 (List.length l5)), (13, .int .i64 j13), (15, .int .u64 guess15'), (17, .vec 1 3 (Int.toNat j13) (Int.toNat (((j13 + (List.length r4 : Int)) + 1) - j13))), (19, slcV 1 (cI .u32) r14)] [(1, .vec 3 1 (List.length l1) (qzd (cI .u32) l1)), (3, .gone 1), (5, .vec 1 1 (List.length l5) (qzd (cI .u32) l5)), (6, .gone (ep6 + 2)), (7, .gone ep7'), (9, .gone (ep9 + 3))] ?_ ?_
      ·refine SReg.cut 2 [(8, .int .i64 bits8), (9, slcV 1 (cI .u32) r4), (10, .vec 1 3 0 (List.length l1)), (11, .int .i64 (List.length r4 : Int)), (12, .vec 5 1 0 (List.length l5)), (13, .int .i64 j13), (15, .int .u64 guess15'), (17, .vec 1 3 (Int.toNat j13) (Int.toNat (((j13 + (List.length r4 : Int)) + 1) - j13))), (18, slcV 1 (cI .u32) product18), (173, .vec 9 (ep9 + 2) 0 (List.length r12))] [(1, .vec 3 1 (List.length l1) (qzd (cI .u32) l1)), (3, .gone 1), (5, .vec 1 1 (List.length l5) (qzd (cI .u32) l5)), (6, .gone (ep6 + 2)), (7, .gone ep7'), (9, .vec (ep9 + 2) 1 (List.length r12) (qzd (cI .u32) r12))] ?_ ?_
       ·have f33s := vzn h45
        obtain ⟨f33a, f33b, f33c⟩ := vz4 h45
        simp [qzs3, -Int.pred_toNat, f33s, f33a, f33b, f33c]
        (repeat' apply And.intro) <;> try first | omega | (simp at * <;> omega)
        refine ATr.mono (qzcu 9 (sub l1 j13 ((j13 + (List.length r4 : Int)) + 1)) _ h46 _ _ (by simp [hl, qz8]) ?_) ?_
        ·exact (qzaz.view (id := 1) h45 (by simp [hl, qz8]; try rfl) (by decide)).of (by simp [-Int.pred_toNat, f33s, f33a, f33b, f33c])
        rintro v h' ⟨f', rfl, rfl, h46f⟩
        simp [-Int.pred_toNat, f33s, f33a, f33b, f33c]
        (repeat' apply And.intro) <;> first | omega | (simp at * <;> omega) | (intro _; intros; simp_all; done) | exact .mk (by simp [-Int.pred_toNat, f33s, f33a, f33b, f33c] <;> first | (intro k hk; exact h46f k (by simpa using hk)) | (intro k hk; simpa using kzw (c := (cI .u32)) h45 k (by omega))) (by simp [-Int.pred_toNat, f33s, f33a, f33b, f33c] <;> first | (intro k hk; exact h46f k (by simpa using hk)) | (intro k hk; simpa using kzw (c := (cI .u32)) h45 k (by omega))) rfl
       refine SReg.frz 9 [(8, .int .i64 bits8), (9, slcV 1 (cI .u32) r4), (10, .vec 1 3 0 (List.length l1)), (11, .int .i64 (List.length r4 : Int)), (12, .vec 5 1 0 (List.length l5)), (13, .int .i64 j13), (15, .int .u64 guess15'), (17, .vec 1 3 (Int.toNat j13) (Int.toNat (((j13 + (List.length r4 : Int)) + 1) - j13))), (18, slcV 1 (cI .u32) product18), (173, slcV 1 (cI .u32) r12)] [(1, .vec 3 1 (List.length l1) (qzd (cI .u32) l1)), (3, .gone 1), (5, .vec 1 1 (List.length l5) (qzd (cI .u32) l5)), (6, .gone (ep6 + 2)), (7, .gone ep7'), (9, .gone (ep9 + 3))] rfl rfl trivial (by simp) (by simp) rfl ?_
       refine SReg.fin ?_
       simp [qzs3, -Int.pred_toNat]
       (repeat' apply And.intro) <;> try first | omega | (simp at * <;> omega)
       refine (qz4 r12  _ h47).ca (by simp [-Int.pred_toNat]) ?_
       (try simp [-Int.pred_toNat])
       (repeat' apply And.intro) <;> try first | omega | (simp at * <;> omega)
       refine (qzbu r13 product18  _ h48).ca (by simp [-Int.pred_toNat]) ?_
       (try simp [-Int.pred_toNat])
       all_goals exact zq1
      obtain ⟨h49, h⟩ := h.ck
      refine AW.rS [(8, .int .i64 bits8), (9, slcV 1 (cI .u32) r4), (10, .vec 1 3 0 (List.length (qzy l1 (Int.toNat j13) (List.replicate (Int.toNat (((j13 + (List.length r4 : Int)) + 1) - j13)) 0)))), (11, .int .i64 (List.length r4 : Int)), (12, .vec 5 1 0 (List.length l5)), (13, .int .i64 j13), (15, .int .u64 guess15'), (17, .vec 1 3 (Int.toNat j13) (Int.toNat (((j13 + (List.length r4 : Int)) + 1) - j13))), (19, slcV 1 (cI .u32) r14)] [(1, .vec 3 1 (List.length (qzy l1 (Int.toNat j13) (List.replicate (Int.toNat (((j13 + (List.length r4 : Int)) + 1) - j13)) 0))) (qzd (cI .u32) (qzy l1 (Int.toNat j13) (List.replicate (Int.toNat (((j13 + (List.length r4 : Int)) + 1) - j13)) 0)))), (3, .gone 1), (5, .vec 1 1 (List.length l5) (qzd (cI .u32) l5)), (6, .gone (ep6 + 2)), (7, .gone ep7'), (9, .gone (ep9 + 3))] ?_ ?_
      ·have f34s := vzn h49
       obtain ⟨f34a, f34b, f34c⟩ := vz4 h49
       have fp1 : Int.toNat j13 + List.length ((List.replicate (Int.toNat (((j13 + (List.length r4 : Int)) + 1) - j13)) 0) : List Int) ≤ List.length l1 := by simp; omega
       have fp1l := qzc1 fp1
       simp [qz22, -Int.pred_toNat, f34s, f34a, f34b, f34c, fp1l]
       (repeat' apply And.intro) <;> first | omega | (simp at * <;> omega) | (intro _; intros; simp_all; done) | exact .mk (by simp [-Int.pred_toNat, f34s, f34a, f34b, f34c, fp1l] <;> first | (intro k hk; rw [qzf6 fp1]; (try simp only [List.length_replicate, List.length_take]); split <;> split <;> first | exact .refl _ | (exfalso; omega) | (rw [qzfj (by omega)]; exact .refl _) | (rw [kzl (by omega)]; exact .refl _)) | (intro k hk; simpa using kzw (c := (cI .u32)) h49 k (by omega))) (by simp [-Int.pred_toNat, f34s, f34a, f34b, f34c, fp1l] <;> first | (intro k hk; rw [qzf6 fp1]; (try simp only [List.length_replicate, List.length_take]); split <;> split <;> first | exact .refl _ | (exfalso; omega) | (rw [qzfj (by omega)]; exact .refl _) | (rw [kzl (by omega)]; exact .refl _)) | (intro k hk; simpa using kzw (c := (cI .u32)) h49 k (by omega))) rfl
      obtain ⟨h51, h⟩ := h.ck
      refine AW.rS [(8, .int .i64 bits8), (9, slcV 1 (cI .u32) r4), (10, .vec 1 3 0 (List.length (qzy (qzy l1 (Int.toNat j13) (List.replicate (Int.toNat (((j13 + (List.length r4 : Int)) + 1) - j13)) 0)) (Int.toNat j13) (List.take (Int.toNat (((j13 + (List.length r4 : Int)) + 1) - j13)) r14)))), (11, .int .i64 (List.length r4 : Int)), (12, .vec 5 1 0 (List.length l5)), (13, .int .i64 j13), (15, .int .u64 guess15')] [(1, .vec 3 1 (List.length (qzy (qzy l1 (Int.toNat j13) (List.replicate (Int.toNat (((j13 + (List.length r4 : Int)) + 1) - j13)) 0)) (Int.toNat j13) (List.take (Int.toNat (((j13 + (List.length r4 : Int)) + 1) - j13)) r14))) (qzd (cI .u32) (qzy (qzy l1 (Int.toNat j13) (List.replicate (Int.toNat (((j13 + (List.length r4 : Int)) + 1) - j13)) 0)) (Int.toNat j13) (List.take (Int.toNat (((j13 + (List.length r4 : Int)) + 1) - j13)) r14)))), (3, .gone 1), (5, .vec 1 1 (List.length l5) (qzd (cI .u32) l5)), (6, .gone (ep6 + 2)), (7, .gone ep7'), (9, .gone (ep9 + 3))] ?_ ?_
      ·have f35s := vzn h51
       obtain ⟨f35a, f35b, f35c⟩ := vz4 h51
       have fp2 : Int.toNat j13 + List.length ((List.take (Int.toNat (((j13 + (List.length r4 : Int)) + 1) - j13)) r14) : List Int) ≤ List.length (qzy l1 (Int.toNat j13) (List.replicate (Int.toNat (((j13 + (List.length r4 : Int)) + 1) - j13)) 0)) := by simp; omega
       have fp2l := qzc1 fp2
       simp [qz0b, -Int.pred_toNat, f35s, f35a, f35b, f35c, fp2l]
       (repeat' apply And.intro) <;> first | omega | (simp at * <;> omega) | (intro _; intros; simp_all; done) | exact .mk (by simp [-Int.pred_toNat, f35s, f35a, f35b, f35c, fp2l] <;> first | (intro k hk; rw [qzf6 fp2]; (try simp only [List.length_replicate, List.length_take]); split <;> split <;> first | exact .refl _ | (exfalso; omega) | (rw [qzfj (by omega)]; exact .refl _) | (rw [kzl (by omega)]; exact .refl _)) | (intro k hk; simpa using kzw (c := (cI .u32)) h51 k (by omega))) (by simp [-Int.pred_toNat, f35s, f35a, f35b, f35c, fp2l] <;> first | (intro k hk; rw [qzf6 fp2]; (try simp only [List.length_replicate, List.length_take]); split <;> split <;> first | exact .refl _ | (exfalso; omega) | (rw [qzfj (by omega)]; exact .refl _) | (rw [kzl (by omega)]; exact .refl _)) | (intro k hk; simpa using kzw (c := (cI .u32)) h51 k (by omega))) rfl
      obtain ⟨x10, h53, h⟩ := h.at
      refine AW.rE [(8, .int .i64 bits8), (9, slcV 1 (cI .u32) r4), (10, .vec 1 3 0 (List.length (qzy (qzy l1 (Int.toNat j13) (List.replicate (Int.toNat (((j13 + (List.length r4 : Int)) + 1) - j13)) 0)) (Int.toNat j13) (List.take (Int.toNat (((j13 + (List.length r4 : Int)) + 1) - j13)) r14)))), (11, .int .i64 (List.length r4 : Int)), (12, .vec 5 1 0 (List.length (List.set l5 (Int.toNat j13) (guess15' % 4294967296)))), (13, .int .i64 j13)] [(1, .vec 3 1 (List.length (qzy (qzy l1 (Int.toNat j13) (List.replicate (Int.toNat (((j13 + (List.length r4 : Int)) + 1) - j13)) 0)) (Int.toNat j13) (List.take (Int.toNat (((j13 + (List.length r4 : Int)) + 1) - j13)) r14))) (qzd (cI .u32) (qzy (qzy l1 (Int.toNat j13) (List.replicate (Int.toNat (((j13 + (List.length r4 : Int)) + 1) - j13)) 0)) (Int.toNat j13) (List.take (Int.toNat (((j13 + (List.length r4 : Int)) + 1) - j13)) r14)))), (3, .gone 1), (5, .vec 1 1 (List.length (List.set l5 (Int.toNat j13) (guess15' % 4294967296))) (qzd (cI .u32) (List.set l5 (Int.toNat j13) (guess15' % 4294967296)))), (6, .gone (ep6 + 2)), (7, .gone ep7'), (9, .gone (ep9 + 3))] ?_ (fun S' hs4 => ?_)
      ·obtain ⟨f36a, f36b, f36c⟩ := h53
       have f36d : qzd (cI .u32) l5 (Int.toNat j13) = (cI .u32) x10 := qzo f36c
       have f36e : Int.toNat j13 < List.length l5 := by omega
       simp [qz1t, -Int.pred_toNat, f36a, f36b, f36d, f36e]
       (repeat' apply And.intro) <;> first | omega | (simp at * <;> omega) | (intro _; intros; simp_all; done) | exact .mk (by simp [-Int.pred_toNat, f36a, f36b, f36d, f36e] <;> first | (intro k hk; split <;> simp) | (intro k hk; rw [qzn _ k (by first | simpa using hk | omega)]; simp)) (by simp [-Int.pred_toNat, f36a, f36b, f36d, f36e] <;> first | (intro k hk; split <;> simp) | (intro k hk; rw [qzn _ k (by first | simpa using hk | omega)]; simp)) rfl
      refine .see hs4 ?_
      obtain ⟨h55, h⟩ := h.ck
      refine AW.rE [(8, .int .i64 bits8), (9, slcV 1 (cI .u32) r4), (10, .vec 1 3 0 (List.length (qzy (qzy l1 (Int.toNat j13) (List.replicate (Int.toNat (((j13 + (List.length r4 : Int)) + 1) - j13)) 0)) (Int.toNat j13) (List.take (Int.toNat (((j13 + (List.length r4 : Int)) + 1) - j13)) r14)))), (11, .int .i64 (List.length r4 : Int)), (12, .vec 5 1 0 (List.length (List.set l5 (Int.toNat j13) (guess15' % 4294967296)))), (13, .int .i64 (j13 - 1))] [(1, .vec 3 1 (List.length (qzy (qzy l1 (Int.toNat j13) (List.replicate (Int.toNat (((j13 + (List.length r4 : Int)) + 1) - j13)) 0)) (Int.toNat j13) (List.take (Int.toNat (((j13 + (List.length r4 : Int)) + 1) - j13)) r14))) (qzd (cI .u32) (qzy (qzy l1 (Int.toNat j13) (List.replicate (Int.toNat (((j13 + (List.length r4 : Int)) + 1) - j13)) 0)) (Int.toNat j13) (List.take (Int.toNat (((j13 + (List.length r4 : Int)) + 1) - j13)) r14)))), (3, .gone 1), (5, .vec 1 1 (List.length (List.set l5 (Int.toNat j13) (guess15' % 4294967296))) (qzd (cI .u32) (List.set l5 (Int.toNat j13) (guess15' % 4294967296)))), (6, .gone (ep6 + 2)), (7, .gone ep7'), (9, .gone (ep9 + 3))] ?_ (fun S' hs5 => ?_)
      ·have f37 := qzr h55
       simp [qzsz, -Int.pred_toNat, f37]
       (repeat' apply And.intro) <;> first | omega | (simp at * <;> omega) | (intro _; intros; simp_all; done) | exact .mk (by simp [-Int.pred_toNat, f37]) (by simp [-Int.pred_toNat, f37]) rfl
      exact .inl ⟨((j13 - 1), (qzy (qzy l1 (Int.toNat j13) (List.replicate (Int.toNat (((j13 + (List.length r4 : Int)) + 1) - j13)) 0)) (Int.toNat j13) (List.take (Int.toNat (((j13 + (List.length r4 : Int)) + 1) - j13)) r14)), (List.set l5 (Int.toNat j13) (guess15' % 4294967296))), ((ep6 + 2), ep7', (ep9 + 3)), rfl, h.some, (hs5.trans (.wk (by simp [vzc]) (by simp [vza]) rfl))⟩
    ·obtain ⟨rfl, hs⟩ := hs
     refine .see hs ?_
     obtain ⟨h56, h⟩ := h.ck
     refine AW.rE [(8, .int .i64 bits8), (9, slcV 1 (cI .u32) r4), (10, .vec 1 3 0 (List.length l1)), (11, .int .i64 (List.length r4 : Int)), (12, .vec 5 1 0 (List.length l5)), (13, .int .i64 (j13 - 1))] [(1, .vec 3 1 (List.length l1) (qzd (cI .u32) l1)), (3, .gone 1), (5, .vec 1 1 (List.length l5) (qzd (cI .u32) l5)), (6, .gone ep6), (7, .gone ep7), (9, .gone ep9)] ?_ (fun S' hs6 => ?_)
     ·have f38 := qzr h56
      simp [qzsz, -Int.pred_toNat, f38]
      (repeat' apply And.intro) <;> first | omega | (simp at * <;> omega) | (intro _; intros; simp_all; done) | exact .mk (by simp [-Int.pred_toNat, f38]) (by simp [-Int.pred_toNat, f38]) rfl
     exact .inl ⟨((j13 - 1), l1, l5), (ep6, ep7, ep9), rfl, h.some, (hs6.trans (.wk (by simp [vzc]) (by simp [vza]) rfl))⟩
 ·replace h := h.neg e
  refine .exit ?_
  exact .inr ⟨(l1, l5), h.some, by simp, ⟨ep6, ep7, ep9, rfl, (.wk (by simp) (by simp) rfl)⟩⟩
abbrev qzad (x0 : List Int) (y1 : List Int) (s : Int) (ex : Unit) : List (Nat × AVal) := match s, ex with | bits8, () => [(0, slcV 1 (cI .u32) x0), (1, slcV 1 (cI .u32) y1), (8, .int .i64 bits8)]
abbrev yz6 (x0 : List Int) (y1 : List Int) (s : Int) (ex : Unit) : List (Nat × AObj) := match s, ex with | bits8, () => []
abbrev qzfo (x0 : List Int) (y1 : List Int) : Int → Exit → ASt → Prop := fun o ex S' => match o with | bits8 => ex = .exit 0 ∧ See EE S' ⟨tl [(0, slcV 1 (cI .u32) x0), (1, slcV 1 (cI .u32) y1), (8, .int .i64 bits8)] 193, hl [], []⟩
theorem qzlo (x0 : List Int) (y1 : List Int) (bits8 : Int) (QQ : Int ⊕ Int → Prop) (h : Ok (kzx y1 bits8) QQ) : AW EE none Tryz.prog (qz7x 0) (fun ex S' => (∃ s' e', ex = .normal ∧ QQ (.inl s') ∧ See EE S' ⟨tl ((qzad x0 y1) s' e') 193, hl ((yz6 x0 y1) s' e'), []⟩) ∨ (∃ o, QQ (.inr o) ∧ ex ≠ .normal ∧ (qzfo x0 y1) o ex S')) ⟨tl [(0, slcV 1 (cI .u32) x0), (1, slcV 1 (cI .u32) y1), (8, .int .i64 bits8)] 193, hl [], []⟩ := by
 unfold kzx at h
 refine .seq ?_
 obtain ⟨h5, h⟩ := h.ck
 obtain ⟨x2, h6, h⟩ := h.at
 obtain ⟨h7, h⟩ := h.ck
 refine AW.rS [(0, slcV 1 (cI .u32) x0), (1, slcV 1 (cI .u32) y1), (8, .int .i64 bits8), (48, .bool (decide (((x2 * 2 ^ min (Int.toNat bits8) 32) % 4294967296) < 2147483648)))] [] ?_ ?_
 ·have f2 := qzr h5
  obtain ⟨f3a, f3b, f3c⟩ := h6
  have f3d : qzd (cI .u32) y1 (Int.toNat ((List.length y1 : Int) - 1)) = (cI .u32) x2 := qzo f3c
  have f3e : Int.toNat ((List.length y1 : Int) - 1) < List.length y1 := by omega
  have f4 := h7
  simp [qz4s, -Int.pred_toNat, f2, f3a, f3b, f3d, f3e, f4]
  (repeat' apply And.intro) <;> first | omega | (simp at * <;> omega) | (intro _; intros; simp_all; done) | exact .mk (by simp [-Int.pred_toNat, f2, f3a, f3b, f3d, f3e, f4]) (by simp [-Int.pred_toNat, f2, f3a, f3b, f3d, f3e, f4]) rfl
 refine AW.ifF (decide (((x2 * 2 ^ min (Int.toNat bits8) 32) % 4294967296) < 2147483648)) rfl (by simp) (fun e => ?_) (fun e => ?_)
 ·replace h := h.pos e
  refine AW.skip ?_
  refine .block ?_
  obtain ⟨h8, h⟩ := h.ck
  refine AW.rE [(0, slcV 1 (cI .u32) x0), (1, slcV 1 (cI .u32) y1), (8, .int .i64 (bits8 + 1))] [] ?_ (fun S' hs1 => ?_)
  ·have f5 := qzr h8
   simp [wzaf, -Int.pred_toNat, f5]
   (repeat' apply And.intro) <;> first | omega | (simp at * <;> omega) | (intro _; intros; simp_all; done) | exact .mk (by simp [-Int.pred_toNat, f5]) (by simp [-Int.pred_toNat, f5]) rfl
  exact .inl ⟨(bits8 + 1), (), rfl, h.some, (hs1.trans (.wk (by simp [qzad]) (by simp [yz6]) rfl))⟩
 ·replace h := h.neg e
  refine .exit ?_
  exact .inr ⟨bits8, h.some, by simp, ⟨rfl, (.wk (by simp) (by simp) rfl)⟩⟩
theorem qzhc (x0 : List Int) (y1 : List Int)  (r : (List Int) × (List Int)) (h : kzf x0 y1 = some r) : qzq EE Tryz.prog 93 [slcV 1 (cI .u32) x0, slcV 1 (cI .u32) y1] (.tup [slcV 1 (cI .u32) r.1, slcV 1 (cI .u32) r.2]) := by
 refine Pure.still ?_ hEE (by simp [-qzh, (fun l => qzj (st := 1) (c := (cI .u32)) (l := l) (fun a => qz1 (n := a)))] <;> assumption) (by simp [-qzh, (fun l => qzj (st := 1) (c := (cI .u32)) (l := l) (fun a => qz1 (n := a)))])
 obtain ⟨c, hb, hc⟩ := ck93
 replace h := Ok.of h; unfold kzf at h
 refine Pure.ofs (fn := Tryz.f93) (n := 193) rfl hb cr93 (hc 0) rfl rfl (by simp) ?_
 refine AW.rS [(0, slcV 1 (cI .u32) x0), (1, slcV 1 (cI .u32) y1)] [] ?_ ?_
 ·simp [qz90, -Int.pred_toNat]
  all_goals exact zq1
 refine .scope ?_
 refine .seq ?_
 obtain ⟨r1, h1, h⟩ := h.ex
 refine AW.rS [(0, slcV 1 (cI .u32) x0), (1, slcV 1 (cI .u32) y1), (23, .bool (decide (r1 < 0)))] [] ?_ ?_
 ·simp [wzbv, -Int.pred_toNat]
  (repeat' apply And.intro) <;> try first | omega | (simp at * <;> omega)
  refine (vzq x0 y1  _ h1).ca (by simp [-Int.pred_toNat]) ?_
  (try simp [-Int.pred_toNat])
  all_goals exact zq1
 refine AW.ifF (decide (r1 < 0)) rfl (by simp) (fun e => ?_) (fun e => ?_)
 ·replace h := h.pos e
  refine AW.rS [(4, .nils), (5, slcV 1 (cI .u32) x0)] [] ?_ ?_
  ·simp [wzaa, -Int.pred_toNat]
   all_goals exact zq1
  have hr := h.some
  subst hr
  refine AW.rt (rs := rs93) [(4, slcV 1 (cI .u32) []), (5, slcV 1 (cI .u32) x0)] [] (by simp) (by simp) rfl rfl (by simp [rs93]) (by simp [rs93]; try rfl)
 ·replace h := h.neg e
  refine AW.skip ?_
  refine .seq ?_
  refine AW.rS [(0, slcV 1 (cI .u32) x0), (1, slcV 1 (cI .u32) y1), (27, .bool (decide ((List.length y1 : Int) = 1)))] [] ?_ ?_
  ·simp [qz9p, -Int.pred_toNat]
   all_goals exact zq1
  refine AW.ifF (decide ((List.length y1 : Int) = 1)) rfl (by simp) (fun e => ?_) (fun e => ?_)
  ·replace h := h.pos e
   obtain ⟨x1, h2, h⟩ := h.at
   obtain ⟨r2, h3, h⟩ := h.ex
   refine AW.rS [(6, slcV 1 (cI .u32) r2.1), (7, .int .u32 r2.2)] [] ?_ ?_
   ·obtain ⟨f1a, f1b, f1c⟩ := h2
    have f1d : qzd (cI .u32) y1 (0) = (cI .u32) x1 := qzo f1c
    have f1e : 0 < List.length y1 := by omega
    simp [qz8e, -Int.pred_toNat, f1a, f1b, f1d, f1e]
    (repeat' apply And.intro) <;> try first | omega | (simp at * <;> omega)
    refine (qzez x0 x1  _ h3).ca (by simp [-Int.pred_toNat, f1a, f1b, f1d, f1e]) ?_
    (try simp [-Int.pred_toNat, f1a, f1b, f1d, f1e])
    (repeat' apply And.intro) <;> first | omega | (simp at * <;> omega) | (intro _; intros; simp_all; done) | exact .mk (by simp [-Int.pred_toNat, f1a, f1b, f1d, f1e]) (by simp [-Int.pred_toNat, f1a, f1b, f1d, f1e]) rfl
   obtain ⟨r3, h4, h⟩ := h.ex
   refine AW.rG [(4, slcV 1 (cI .u32) r2.1), (5, slcV 1 (cI .u32) r3)] [(0, .gone 2)] ?_ ?_
   ·refine SReg.cut 3 [(36, slcV 1 (cI .u32) r2.1), (38, .vec 0 1 0 (List.length [r2.2]))] [(0, .vec 1 1 (List.length [r2.2]) (qzd (cI .u32) [r2.2]))] ?_ ?_
    ·simp [qzwe, -Int.pred_toNat]
     all_goals exact zq1
    refine SReg.frz 0 [(36, slcV 1 (cI .u32) r2.1), (38, slcV 1 (cI .u32) [r2.2])] [(0, .gone 2)] rfl rfl trivial (by simp) (by simp) rfl ?_
    refine SReg.fin ?_
    simp [qzwe, -Int.pred_toNat]
    (repeat' apply And.intro) <;> try first | omega | (simp at * <;> omega)
    refine (qz4 [r2.2]  _ h4).ca (by simp [-Int.pred_toNat]) ?_
    (try simp [-Int.pred_toNat])
    all_goals exact zq1
   have hr := h.some
   subst hr
   refine AW.rt (rs := rs93) [(4, slcV 1 (cI .u32) r2.1), (5, slcV 1 (cI .u32) r3)] [(0, .gone 2)] (by simp) (by simp) rfl rfl (by simp [rs93]) (by simp [rs93]; try rfl)
  ·replace h := h.neg e
   refine AW.skip ?_
   refine AW.rS [(0, slcV 1 (cI .u32) x0), (1, slcV 1 (cI .u32) y1), (8, .int .i64 0)] [] ?_ ?_
   ·simp [wzal, -Int.pred_toNat]
    all_goals exact zq1
   refine .seq ?_
   refine .block ?_
   refine AW.lpF (ε := Unit) () h.bd (qzad x0 y1) (yz6 x0 y1) (qzfo x0 y1) (by simp [qzad]) (by simp [yz6]) rfl ?_ ?_
   ·rintro bits8 ⟨⟩ QQ h
    exact qzlo x0 y1 bits8 QQ h
   ·rintro bits8 h ex S' hs
    obtain ⟨rfl, hs⟩ := hs
    refine .see hs ?_
    obtain ⟨r4, h9, h⟩ := h.ex
    refine AW.rS [(0, slcV 1 (cI .u32) x0), (8, .int .i64 bits8), (9, slcV 1 (cI .u32) r4)] [] ?_ ?_
    ·simp [wzce, -Int.pred_toNat]
     (repeat' apply And.intro) <;> try first | omega | (simp at * <;> omega)
     refine (qzbn y1 bits8  _ h9).ca (by simp [-Int.pred_toNat]) ?_
     (try simp [-Int.pred_toNat])
     all_goals exact zq1
    obtain ⟨r5, h10, h⟩ := h.ex
    obtain ⟨r6, h11, h⟩ := h.ex
    obtain ⟨h12, h⟩ := h.ck
    refine AW.rS [(0, slcV 1 (cI .u32) x0), (8, .int .i64 bits8), (9, slcV 1 (cI .u32) r4), (10, .vec 1 3 0 (List.length (r6 ++ [0, 0])))] [(1, .vec 3 1 (List.length (r6 ++ [0, 0])) (qzd (cI .u32) (r6 ++ [0, 0]))), (3, .gone 1)] ?_ ?_
    ·have f6 := h12
     have f6m := f6
     (try simp [-Int.pred_toNat] at f6m)
     simp [qz2e, -Int.pred_toNat, f6, f6m]
     (repeat' apply And.intro) <;> try first | omega | (simp at * <;> omega)
     refine (qzbn x0 bits8  _ h10).ca (by simp [-Int.pred_toNat, f6, f6m] <;> first | (intro k hk; exact h11f k (by simpa using hk)) | (intro k hk; rw [yzt]; split <;> rename_i hk2; (first | exact .refl _ | exact h11f k hk2); have hj : k - List.length r6 < 2 := (by first | omega | (simp at hk; omega)); revert hj; generalize k - List.length r6 = j; revert j; simp <;> ((repeat' apply And.intro) <;> exact .refl _))) ?_
     (try simp [-Int.pred_toNat, f6, f6m])
     (repeat' apply And.intro) <;> try first | omega | (simp at * <;> omega)
     refine ATr.mono (qzcu 1 r5 _ h11 _ _ (by simp [hl, qz8]) ?_) ?_
     ·exact .inl ⟨_, rfl, by simp <;> first | (intro k hk; exact h11f k (by simpa using hk)) | (intro k hk; rw [yzt]; split <;> rename_i hk2; (first | exact .refl _ | exact h11f k hk2); have hj : k - List.length r6 < 2 := (by first | omega | (simp at hk; omega)); revert hj; generalize k - List.length r6 = j; revert j; simp <;> ((repeat' apply And.intro) <;> exact .refl _))⟩
     rintro v h' ⟨f', rfl, rfl, h11f⟩
     simp [-Int.pred_toNat, f6, f6m]
     (repeat' apply And.intro) <;> first | omega | (simp at * <;> omega) | (intro _; intros; simp_all; done) | exact .mk (by simp [-Int.pred_toNat, f6, f6m] <;> first | (intro k hk; exact h11f k (by simpa using hk)) | (intro k hk; rw [yzt]; split <;> rename_i hk2; (first | exact .refl _ | exact h11f k hk2); have hj : k - List.length r6 < 2 := (by first | omega | (simp at hk; omega)); revert hj; generalize k - List.length r6 = j; revert j; simp <;> ((repeat' apply And.intro) <;> exact .refl _))) (by simp [-Int.pred_toNat, f6, f6m] <;> first | (intro k hk; exact h11f k (by simpa using hk)) | (intro k hk; rw [yzt]; split <;> rename_i hk2; (first | exact .refl _ | exact h11f k hk2); have hj : k - List.length r6 < 2 := (by first | omega | (simp at hk; omega)); revert hj; generalize k - List.length r6 = j; revert j; simp <;> ((repeat' apply And.intro) <;> exact .refl _))) rfl
    refine AW.rS [(0, slcV 1 (cI .u32) x0), (8, .int .i64 bits8), (9, slcV 1 (cI .u32) r4), (10, .vec 1 3 0 (List.length (r6 ++ [0, 0]))), (11, .int .i64 (List.length r4 : Int))] [(1, .vec 3 1 (List.length (r6 ++ [0, 0])) (qzd (cI .u32) (r6 ++ [0, 0]))), (3, .gone 1)] ?_ ?_
    ·simp [qzx7, -Int.pred_toNat]
     all_goals exact zq1
    obtain ⟨h14, h⟩ := h.ck
    obtain ⟨h15, h⟩ := h.ck
    obtain ⟨h16, h⟩ := h.ck
    refine AW.rS [(8, .int .i64 bits8), (9, slcV 1 (cI .u32) r4), (10, .vec 1 3 0 (List.length (r6 ++ [0, 0]))), (11, .int .i64 (List.length r4 : Int)), (12, .vec 5 1 0 (List.length (List.replicate (Int.toNat (((List.length x0 : Int) - (List.length r4 : Int)) + 2)) 0)))] [(1, .vec 3 1 (List.length (r6 ++ [0, 0])) (qzd (cI .u32) (r6 ++ [0, 0]))), (3, .gone 1), (5, .vec 1 1 (List.length (List.replicate (Int.toNat (((List.length x0 : Int) - (List.length r4 : Int)) + 2)) 0)) (qzd (cI .u32) (List.replicate (Int.toNat (((List.length x0 : Int) - (List.length r4 : Int)) + 2)) 0)))] ?_ ?_
    ·have f7 := qzr h14
     have f8 := qzr h15
     obtain ⟨f9a, f9b⟩ := qztk h16
     simp [qzxy, -Int.pred_toNat, f7, f8, f9a, f9b]
     (repeat' apply And.intro) <;> first | omega | (simp at * <;> omega) | (intro _; intros; simp_all; done) | exact .mk (by simp [-Int.pred_toNat, f7, f8, f9a, f9b] <;> first | (intro k hk; rw [kzl (by simpa using hk)]; simp)) (by simp [-Int.pred_toNat, f7, f8, f9a, f9b] <;> first | (intro k hk; rw [kzl (by simpa using hk)]; simp)) rfl
    refine .seq ?_
    refine AW.label ?_
    refine .seq ?_
    obtain ⟨h17, h⟩ := h.ck
    obtain ⟨h18, h⟩ := h.ck
    refine AW.rS [(8, .int .i64 bits8), (9, slcV 1 (cI .u32) r4), (10, .vec 1 3 0 (List.length (r6 ++ [0, 0]))), (11, .int .i64 (List.length r4 : Int)), (12, .vec 5 1 0 (List.length (List.replicate (Int.toNat (((List.length x0 : Int) - (List.length r4 : Int)) + 2)) 0))), (13, .int .i64 (((List.length (r6 ++ [0, 0]) : Int) - (List.length r4 : Int)) - 1))] [(1, .vec 3 1 (List.length (r6 ++ [0, 0])) (qzd (cI .u32) (r6 ++ [0, 0]))), (3, .gone 1), (5, .vec 1 1 (List.length (List.replicate (Int.toNat (((List.length x0 : Int) - (List.length r4 : Int)) + 2)) 0)) (qzd (cI .u32) (List.replicate (Int.toNat (((List.length x0 : Int) - (List.length r4 : Int)) + 2)) 0)))] ?_ ?_
    ·have f10 := qzr h17
     have f10m := f10
     (try simp [-Int.pred_toNat] at f10m)
     have f11 := qzr h18
     have f11m := f11
     (try simp [-Int.pred_toNat] at f11m)
     simp [qz1e, -Int.pred_toNat, f10, f10m, f11, f11m]
     (repeat' apply And.intro) <;> first | omega | (simp at * <;> omega) | (intro _; intros; simp_all; done) | exact .mk (by simp [-Int.pred_toNat, f10, f10m, f11, f11m]) (by simp [-Int.pred_toNat, f10, f10m, f11, f11m]) rfl
    refine .block ?_
    refine AW.lpF (ε := Nat × Nat × Nat) (0, 0, 0) h.bd (vzc bits8 r4) (vza bits8 r4) (qzfn bits8 r4) (by simp [vzc]) (by simp [vza]) rfl ?_ ?_
    ·rintro ⟨j13, l1, l5⟩ ⟨ep6, ep7, ep9⟩ QQ h
     exact qzk1 bits8 r4 j13 l1 l5 ep6 ep7 ep9 QQ h
    ·rintro ⟨l1, l5⟩ h ex S' hs
     obtain ⟨ep6, ep7, ep9, rfl, hs⟩ := hs
     refine .see hs ?_
     refine AW.frz 5 [(8, .int .i64 bits8), (10, .vec 1 3 0 (List.length l1)), (12, slcV 1 (cI .u32) l5)] [(1, .vec 3 1 (List.length l1) (qzd (cI .u32) l1)), (3, .gone 1), (5, .gone 2), (6, .gone ep6), (7, .gone ep7), (9, .gone ep9)] rfl rfl trivial (by simp) (by simp) rfl ?_
     refine AW.frz 1 [(8, .int .i64 bits8), (10, slcV 1 (cI .u32) l1), (12, slcV 1 (cI .u32) l5)] [(1, .gone 4), (3, .gone 1), (5, .gone 2), (6, .gone ep6), (7, .gone ep7), (9, .gone ep9)] rfl rfl trivial (by simp) (by simp) rfl ?_
     obtain ⟨r15, h57, h⟩ := h.ex
     obtain ⟨r16, h58, h⟩ := h.ex
     obtain ⟨h59, h⟩ := h.ck
     obtain ⟨r17, h60, h⟩ := h.ex
     refine AW.rS [(4, slcV 1 (cI .u32) r15), (5, slcV 1 (cI .u32) r17)] [(1, .gone 4), (3, .gone 1), (5, .gone 2), (6, .gone ep6), (7, .gone ep7), (9, .gone ep9)] ?_ ?_
     ·have f39 := qzr h59
      simp [qz2d, -Int.pred_toNat, f39]
      (repeat' apply And.intro) <;> try first | omega | (simp at * <;> omega)
      refine (qz4 l5  _ h57).ca (by simp [-Int.pred_toNat, f39]) ?_
      (try simp [-Int.pred_toNat, f39])
      (repeat' apply And.intro) <;> try first | omega | (simp at * <;> omega)
      refine (qz4 l1  _ h58).ca (by simp [-Int.pred_toNat, f39]) ?_
      (try simp [-Int.pred_toNat, f39])
      (repeat' apply And.intro) <;> try first | omega | (simp at * <;> omega)
      refine (qzbn r16 (-bits8)  _ h60).ca (by simp [-Int.pred_toNat, f39]) ?_
      (try simp [-Int.pred_toNat, f39])
      (repeat' apply And.intro) <;> first | omega | (simp at * <;> omega) | (intro _; intros; simp_all; done) | exact .mk (by simp [-Int.pred_toNat, f39]) (by simp [-Int.pred_toNat, f39]) rfl
     have hr := h.some
     subst hr
     refine AW.rt (rs := rs93) [(4, slcV 1 (cI .u32) r15), (5, slcV 1 (cI .u32) r17)] [(1, .gone 4), (3, .gone 1), (5, .gone 2), (6, .gone ep6), (7, .gone ep7), (9, .gone ep9)] (by simp) (by simp) rfl rfl (by simp [rs93]) (by simp [rs93]; try rfl)
end Go.Am

