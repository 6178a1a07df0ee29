/- Part P1 of the proof that the last part closes: contracts of the functions of this seat. No condition. -/
import Derived.Test.YtpflinpbkifmhaaGreatDoorF1
import Derived.Test.YtpflinpbkifmhaaGreatDoorG1
import Derived.Test.YtpflinpbkifmhaaGreatDoorX1
import Derived.Test.YtpflinpbkifmhaaGreatDoorA5
import Derived.Test.YtpflinpbkifmhaaGreatDoorH1
set_option linter.unusedVariables false
set_option linter.unusedSimpArgs false
set_option maxRecDepth 100000
namespace Go.Am
open Go.Proofs
attribute [local simp] areg aop dreg dop AOp.req argv argU AOp.args wze AOp.unAll Req.val Req.when putT putH qzdb ablk qzfc qzbd qzg6 vzl qzcj qzif qzid qzh7 qzh1 qzhy qzko qzhz qzji qzim qzgg qznh qzj2 qzkg qzjx IntKind.bits vz1 ARes.ok ARes.val vz5 cut AOp.quiet
attribute [local simp] qzc0 qzbz qzcz qze2 qzer qzep kzp qz1 qzh2 qzij
attribute [local simp] qzm6 qzj7 qzhq qzih qzm4 look qz8 zipA wm wh
attribute [local simp] qzm7 qzpn qzpz qzmg qzpx qzmf qzpo qzqa qzpi qzqk qzpm w_fn qznc qzjs qzjh qzhs qzj1 qzmh qzmi AObj.ep AObj.plain AObj.owned
attribute [local simp] wz9 qzbw qzeu qzdp qzey qzd2 qze5 qzfk qze7 qzdi qzdk qzd0 qzgy qzcq qzg5 qzc6 qzfa vz6 lay jzv ldv wzu qz5 kz1 qz9 qzgh wzd AVal.kind
attribute [local simp] AVal.one_int AVal.one_bool AVal.one_str AVal.one_nils AVal.one_slc AVal.one_vec AVal.one_ptr AVal.one_eptr AVal.one_cptr AVal.one_nilp AVal.one_fn AVal.one_nilfn AVal.one_mp AVal.one_nilmp
attribute [local simp] qzkh qzkv qzh8 qzh4 qzkt qzjr qzii qzik qzjn qzkm qzjf qzjw qzkl qzje qzh6 qzhx qzin qzig qzh5 qzio qzm9 qzna qzgf qzgr qzmt qzmr qzgn qzgz qzj6 qzj9 qzjv qzka qzju qzki qzkr qzku
attribute [local simp] qzh cI cB cS cL qzc3 qzdh qzdz qzb7 qzg1 qzh0 qzgc qziq fzm fzh fzv fzl fz1 qzjm qzhw qzjp qzjl qzjk List.range_succ qzd5 qze0 qzfg qzco qzdq qzdu qzag qzdw qzd4
attribute [local simp] qzj0
attribute [local simp] qza.cells
attribute [local simp] qzb.cells
attribute [local simp] qze.cells
attribute [local simp] kzi.cells
attribute [local simp] qz6.cells
attribute [local simp] qzf.cells
attribute [local simp] jzi.cells
attribute [local simp] vzs.cells
attribute [local simp] vzu.cells
attribute [local simp] kzj.cells
attribute [local simp] jzh.cells
attribute [local simp] jzk.cells
set_option maxHeartbeats 4000000
attribute [local simp] qzcs qzdm fnArgs
def EE:Nat→AVal:=fun _=>.top
theorem hEE:∀ i,qzt (EE i):=fun _=>.top
theorem zq1 {p:Prop} (h:p:=by (repeat' apply And.intro)<;>first | omega | (simp at*<;> omega) | (intro _; intros; simp_all; done) | exact .mk (by simp [-Int.pred_toNat]) (by simp [-Int.pred_toNat,qzj0]) rfl):p:=h
theorem zq2 {p:Prop} (h:p:=by (repeat' apply And.intro)<;>first | omega | (simp at*<;> omega) | kernel_rfl | (intro _; intros; simp_all; done) | exact .mk (by simp [-Int.pred_toNat]) (by simp [-Int.pred_toNat,qzj0]) rfl):p:=h
theorem qzk8 (id ep:Nat) (l r:List Int) (h:yzz l=some r) (H:qzl) (hid:H id=ownO ep 1 (cI .u8) l):ATr EE Tryz.prog 119 [ownV id ep l] H (fun v h'=>v=.tup []∧h'=hset H id (ownO ep 1 (cI .u8) r)∧ownV id ep l=ownV id ep r):=by
 unfold yzz at h
 cases hx:decide (List.length l≤4611686018427387904)
 ·rw [hx] at h; cases h
 rw [hx] at h
 have hr:r=l.reverse:=(Option.some.inj h).symm
 subst hr
 simp only [decide_eq_true_eq] at hx
 have main:=wzcu (E:=EE) Tryz.laysE35 (fun n=>.int .u8 n) (Value.int .u8) (fun _=>rfl) (fun g w x v hv=>by cases hv; rfl) (fun g w x=>.int _ _) (H:=H) (id:=id) (ep:=ep) (l:=l) hid (by omega)
 exact main.mono fun v h' ⟨a,b⟩=>⟨a,b,qzvh (by simp)⟩
theorem qzcu (b:Nat) (l r:List Int) (h:vzi l=some r) (X:AVal) (H:qzl) (hp:(H b).plain) (hs:qzaz 1 (cI .u32) l X H b):ATr EE Tryz.prog 116 [X] H (fun v h'=>∃ f',v=.vec b ((H b).ep+2) 0 (List.length r)∧h'=hset H b (.vec ((H b).ep+2) 1 (List.length r) f')∧∀ k,k < List.length r→Ws (f' k) (qzd (cI .u32) r k)):=by
 obtain ⟨c,hb,hc⟩:=wzf8
 have hh:r=l∧0 < List.length l∧List.length l*4≤140737488355328:=by
  unfold vzi at h
  cases hx:(decide (0 < List.length l)&&decide (List.length l*4≤140737488355328))
  ·rw [hx] at h; cases h
  ·rw [hx] at h; simp only [Bool.and_eq_true,decide_eq_true_eq] at hx; cases h; exact ⟨rfl,hx⟩
 obtain ⟨rfl,hn,hby⟩:=hh
 refine ATr.of (fn:=Tryz.f116) rfl hb wzfv (hc b) 7 rfl ?_
 refine AW.sr (by simp [qzz0,List.replicate]; rfl) ?_
 rcases hs with ⟨f,rfl,hf⟩ | ⟨id,ep,lo,m,f,rfl,hid,hlo,hne,hf⟩
 ·refine .seq ?_
  refine AW.sr (by simp [qzsp,hn]; rfl) ?_
  refine AW.if' false (by simp) (fun e=>by cases e) (fun _=>AW.skip ?_)
  refine AW.sr (by simp [qzso,-AObj.plain,-AObj.ep,hset,hp,qz5,jzv,vz6,kz1,wzu,hby]; first | rfl | exact ⟨rfl,rfl⟩ | exact ⟨hp,rfl,rfl⟩) ?_
  refine .ret (Post.here (by simp [qzpj]) rfl ⟨f,by simp [qzpj],?_,hf⟩)
  funext j
  simp only [hset]
  by_cases hj:j=b<;>simp [hj]
 ·refine .seq ?_
  refine AW.sr (by simp [qzsp,hid]; rfl) ?_
  refine AW.if' false (by simp) (fun e=>by cases e) (fun _=>AW.skip ?_)
  refine AW.sr (by simp [qzso,-AObj.plain,-AObj.ep,hset,hp,qz5,jzv,vz6,kz1,wzu,hby,hid,hne,hlo]; first | rfl | exact ⟨rfl,rfl⟩ | exact ⟨hp,rfl,rfl⟩) ?_
  refine .ret (Post.here (by simp [qzpj]) rfl ⟨fun k=>f (lo+k),by simp [qzpj],?_,hf⟩)
  funext j
  simp only [hset]
  by_cases hj:j=b<;>simp [hj]
def k18:Fc:=⟨18,[(.slc (.us 0)),(.slc (.us 0))],[false,false],[.bool],fun x=>qzba x.1 x.2⟩
theorem y18:FcOk EE Tryz.prog k18:=wzio hEE (H:=[]) trivial [] [] (.s .n (.s .n (.s (.s .n (.b none (.l [] ⟨.n,[(0,.k),(1,.k),(5,.v (.int .i64))],[]⟩ [⟨(.x 0),[],[]⟩,⟨.r,[(4,.v .bool)],[]⟩] .n))) .n))) (fn:=Tryz.f18) rfl (by kernel_rfl) (by kernel_rfl) fun _=>by kernel_rfl
abbrev kzg (l0:List qzb) (of1:qzb→Option qza) (of1_f:FuncId) (of1_b:Nat) (of1_c:List AVal) (s:Int×(List qza)) (ex:Nat×Nat×Nat):List (Nat×AVal):=match s,ex with | (t10,l2),(ep0,ep1,ep2)=>[(1,.fn of1_f of1_b of1_c),(5,ownV 2 ep2 l2),(8,slcV 8 qzb.cells l0),(9,.int .i64 (List.length l0:Int)),(10,.int .i64 t10)]
abbrev kzh (l0:List qzb) (of1:qzb→Option qza) (of1_f:FuncId) (of1_b:Nat) (of1_c:List AVal) (s:Int×(List qza)) (ex:Nat×Nat×Nat):List (Nat×AObj):=match s,ex with | (t10,l2),(ep0,ep1,ep2)=>[(0,.gone ep0),(1,.gone ep1),(2,ownO ep2 3 qza.cells l2)]
abbrev qzch (l0:List qzb) (of1:qzb→Option qza) (of1_f:FuncId) (of1_b:Nat) (of1_c:List AVal):(List qza)→Exit→ASt→Prop:=fun o ex S'=>match o with | l2=>∃ ep0:Nat,∃ ep1:Nat,∃ ep2:Nat,ex=.exit 0∧See EE S' ⟨tl [(5,ownV 2 ep2 l2)] 22,hl [(0,.gone ep0),(1,.gone ep1),(2,ownO ep2 3 qza.cells l2)],[]⟩
theorem qzg9 (l0:List qzb) (of1:qzb→Option qza) (of1_f:FuncId) (of1_b:Nat) (of1_c:List AVal) (of1_n:∀ x,x∈of1_c→qzt x) (of1_h:∀ a0 r,of1 a0=some r→FnOk EE Tryz.prog of1_f of1_b of1_c [.agg (qzb.cells a0)] (.agg (qza.cells r))) (t10:Int) (l2:List qza) (ep0:Nat) (ep1:Nat) (ep2:Nat) (QQ:(Int×(List qza))⊕(List qza)→Prop) (h:Ok (jzr l0 of1 (t10,l2)) QQ):AW EE none Tryz.prog (qz9x 0) (fun ex S'=>(∃ s' e',ex=.normal∧QQ (.inl s')∧See EE S' ⟨tl ((kzg l0 of1 of1_f of1_b of1_c) s' e') 22,hl ((kzh l0 of1 of1_f of1_b of1_c) s' e'),[]⟩)∨(∃ o,QQ (.inr o)∧ex≠.normal∧(qzch l0 of1 of1_f of1_b of1_c) o ex S')) ⟨tl [(1,.fn of1_f of1_b of1_c),(5,ownV 2 ep2 l2),(8,slcV 8 qzb.cells l0),(9,.int .i64 (List.length l0:Int)),(10,.int .i64 t10)] 22,hl [(0,.gone ep0),(1,.gone ep1),(2,ownO ep2 3 qza.cells l2)],[]⟩:=by
 unfold jzr at h
 refine AW.rS [(1,.fn of1_f of1_b of1_c),(5,ownV 2 ep2 l2),(8,slcV 8 qzb.cells l0),(9,.int .i64 (List.length l0:Int)),(10,.int .i64 t10),(11,.bool (decide (t10 < (List.length l0:Int))))] [(0,.gone ep0),(1,.gone ep1),(2,ownO ep2 3 qza.cells l2)] ?_ ?_
 ·simp [wzap,-Int.pred_toNat]
  all_goals exact zq1
 refine .seq ?_
 refine AW.ifF (decide (t10 < (List.length l0:Int))) rfl (by simp) (fun e=>?_) (fun e=>?_)
 ·replace h:=h.pos e
  refine AW.skip ?_
  refine .seq ?_
  refine .block ?_
  obtain ⟨x1,h1,h⟩:=h.at
  refine AW.rS [(1,.fn of1_f of1_b of1_c),(5,ownV 2 ep2 l2),(7,.ptr 0 (ep0+1) 0),(8,slcV 8 qzb.cells l0),(9,.int .i64 (List.length l0:Int)),(10,.int .i64 t10)] [(0,.box (ep0+1) [.int .i64 x1.State,.int .i64 x1.Weight,.bool x1.Floor.Neg,.str x1.Floor.Num,.str x1.Floor.Den,.bool x1.Cap.Neg,.str x1.Cap.Num,.str x1.Cap.Den]),(1,.gone ep1),(2,ownO ep2 3 qza.cells l2)] ?_ ?_
  ·obtain ⟨f1a,f1b,f1c⟩:=h1
   have f1d:qzd qzb.cells l0 (Int.toNat t10)=qzb.cells x1:=qzo f1c
   have f1e:Int.toNat t10 < List.length l0:=by omega
   simp [qz6o,-Int.pred_toNat,f1a,f1b,f1d,f1e]
   (repeat' apply And.intro)<;>first | omega | (simp at*<;> omega) | (intro _; intros; simp_all; done) | exact .mk (by simp [-Int.pred_toNat,f1a,f1b,f1d,f1e]) (by simp [-Int.pred_toNat,f1a,f1b,f1d,f1e]) rfl
  obtain ⟨r1,h2,h⟩:=h.ex
  obtain ⟨h3,h⟩:=h.ck
  refine AW.rE [(1,.fn of1_f of1_b of1_c),(5,ownV 2 (ep2+1) (l2++[r1])),(8,slcV 8 qzb.cells l0),(9,.int .i64 (List.length l0:Int)),(10,.int .i64 t10)] [(0,.gone (ep0+1)),(1,.gone (ep1+1)),(2,ownO (ep2+1) 3 qza.cells (l2++[r1]))] ?_ (fun S' hs1=>?_)
  ·have f2:=h3
   have f2m:=f2
   (try simp [-Int.pred_toNat] at f2m)
   rcases hl:l2 with _ | ⟨y,l⟩
   ·(try simp [hl] at f2)
    simp [qzwp,-Int.pred_toNat,f2,f2m,hl]
    (repeat' apply And.intro)<;>try first | omega | (simp at*<;> omega)
    ·exact (of1_h x1 _ h2).1
    refine (of1_h x1 _ h2).2.ca (by simp [-Int.pred_toNat,f2,f2m]) ?_
    (try simp [-Int.pred_toNat,f2,f2m,hl])
    (repeat' apply And.intro)<;>first | omega | (simp at*<;> omega) | (intro _; intros; simp_all; done) | exact .mk (by simp [-Int.pred_toNat,f2,f2m,hl]) (by simp [-Int.pred_toNat,f2,f2m,hl]) rfl
   ·(try simp [hl] at f2)
    simp [qzwp,-Int.pred_toNat,f2,f2m,hl]
    (repeat' apply And.intro)<;>try first | omega | (simp at*<;> omega)
    ·exact (of1_h x1 _ h2).1
    refine (of1_h x1 _ h2).2.ca (by simp [-Int.pred_toNat,f2,f2m]) ?_
    (try simp [-Int.pred_toNat,f2,f2m,hl])
    (repeat' apply And.intro)<;>first | omega | skip
    refine .mk (by simp [-Int.pred_toNat,f2,f2m,hl]) ?_ rfl
    simp [-Int.pred_toNat,f2,f2m,hl]
    intro k hk
    split<;>rename_i hk2
    ·rw [yz1 hk2]; exact .refl _
    ·rw [yze hk2]
     have hj:k - (l.length+1) < 1:=by omega
     revert hj; generalize k - (l.length+1)=j; revert j; simp
  refine .see hs1 ?_
  obtain ⟨h5,h⟩:=h.ck
  refine AW.rE [(1,.fn of1_f of1_b of1_c),(5,ownV 2 (ep2+1) (l2++[r1])),(8,slcV 8 qzb.cells l0),(9,.int .i64 (List.length l0:Int)),(10,.int .i64 (t10+1))] [(0,.gone (ep0+1)),(1,.gone (ep1+1)),(2,ownO (ep2+1) 3 qza.cells (l2++[r1]))] ?_ (fun S' hs2=>?_)
  ·have f3:=qzr h5
   simp [wzcr,-Int.pred_toNat,f3]
   (repeat' apply And.intro)<;>first | omega | (simp at*<;> omega) | (intro _; intros; simp_all; done) | exact .mk (by simp [-Int.pred_toNat,f3]) (by simp [-Int.pred_toNat,f3]) rfl
  exact .inl ⟨((t10+1),(l2++[r1])),((ep0+1),(ep1+1),(ep2+1)),rfl,h.some,(hs2.trans (.wk (by simp [kzg]) (by simp [kzh]) rfl))⟩
 ·replace h:=h.neg e
  refine .exit ?_
  exact .inr ⟨l2,h.some,by simp,⟨ep0,ep1,ep2,rfl,(.wk (by simp) (by simp) rfl)⟩⟩
theorem wzc (l0:List qzb) (of1:qzb→Option qza) (of1_f:FuncId) (of1_b:Nat) (of1_c:List AVal) (of1_n:∀ x,x∈of1_c→qzt x) (of1_h:∀ a0 r,of1 a0=some r→FnOk EE Tryz.prog of1_f of1_b of1_c [.agg (qzb.cells a0)] (.agg (qza.cells r))) (r:List qza) (h:qzu l0 of1=some r):qzq EE Tryz.prog 34 [slcV 8 qzb.cells l0,.fn of1_f of1_b of1_c] (slcV 3 qza.cells r):=by
 refine Pure.still ?_ hEE (by simp [-qzh,(fun l=>qzj (st:=8) (c:=qzb.cells) (l:=l) qzb.noref),(fun l=>qzj (st:=3) (c:=qza.cells) (l:=l) qza.noref),kzp,of1_n]<;>assumption) (by simp [-qzh,(fun l=>qzj (st:=8) (c:=qzb.cells) (l:=l) qzb.noref),(fun l=>qzj (st:=3) (c:=qza.cells) (l:=l) qza.noref),kzp,of1_n])
 obtain ⟨c,hb,hc⟩:=ck34
 replace h:=Ok.of h; unfold qzu at h
 refine Pure.ofs (fn:=Tryz.f34) (n:=22) rfl hb cr34 (hc 0) rfl rfl (by simp) ?_
 refine AW.rS [(0,slcV 8 qzb.cells l0),(1,.fn of1_f of1_b of1_c)] [] ?_ ?_
 ·simp [qz49,-Int.pred_toNat]
  all_goals exact zq1
 refine AW.rS [(0,slcV 8 qzb.cells l0),(1,.fn of1_f of1_b of1_c),(5,.nils)] [] ?_ ?_
 ·simp [wzah,-Int.pred_toNat]
  all_goals exact zq1
 refine .seq ?_
 refine AW.rS [(1,.fn of1_f of1_b of1_c),(5,.nils),(8,slcV 8 qzb.cells l0),(9,.int .i64 (List.length l0:Int)),(10,.int .i64 0)] [] ?_ ?_
 ·simp [qz5f,-Int.pred_toNat]
  all_goals exact zq1
 refine .block ?_
 refine AW.lpF (ε:=Nat×Nat×Nat) (0,0,0) h.bd (kzg l0 of1 of1_f of1_b of1_c) (kzh l0 of1 of1_f of1_b of1_c) (qzch l0 of1 of1_f of1_b of1_c) (by simp [kzg]) (by simp [kzh]) rfl ?_ ?_
 ·rintro ⟨t10,l2⟩ ⟨ep0,ep1,ep2⟩ QQ h
  exact qzg9 l0 of1 of1_f of1_b of1_c of1_n of1_h t10 l2 ep0 ep1 ep2 QQ h
 ·rintro l2 h ex S' hs
  obtain ⟨ep0,ep1,ep2,rfl,hs⟩:=hs
  refine .see hs ?_
  refine AW.rS [(4,ownV 2 ep2 l2)] [(0,.gone ep0),(1,.gone ep1),(2,ownO ep2 3 qza.cells l2)] ?_ ?_
  ·simp [qz44,-Int.pred_toNat]
   all_goals exact zq1
  refine AW.frzO 2 ep2 3 qza.cells l2 [(4,slcV 3 qza.cells l2)] [(0,.gone ep0),(1,.gone ep1),(2,.gone (ep2+1))] rfl (fun e=>⟨by simp [e],by simp [e],rfl⟩) (fun y k e o ho=>⟨by simp [e,ho],by simp [e,ho],rfl⟩) ?_
  have hr:=h.some
  subst hr
  refine AW.rt (rs:=rs34) [(4,slcV 3 qza.cells l2)] [(0,.gone ep0),(1,.gone ep1),(2,.gone (ep2+1))] (by simp) (by simp) rfl rfl (by simp [rs34]) (by simp [rs34]; try rfl)
def k41:Fc:=⟨41,[(.us 1)],[false],[(.us 0)],fun x=>yz0 x⟩
theorem y41:FcOk EE Tryz.prog k41:=wzio hEE (H:=[]) trivial [] [] .n (fn:=Tryz.f41) rfl (by kernel_rfl) (by kernel_rfl) fun _=>by kernel_rfl
theorem qzl4 (s0:qzb)  (r:qza) (h:yz0 s0=some r):qzq EE Tryz.prog 41 [.agg (qzb.cells s0)] (.agg (qza.cells r)):=y41.still (x:=(s0)) (y:=r) h (by kernel_rfl)
def k53:Fc:=⟨53,[(.us 1),(.us 1)],[false,true],[.bool],fun x=>qzan x.1 x.2⟩
theorem y53:FcOk EE Tryz.prog k53:=wzio hEE (H:=[]) trivial [] [] .n (fn:=Tryz.f53) rfl (by kernel_rfl) (by kernel_rfl) fun _=>by kernel_rfl
theorem qzmp (x0:qzb) (c0:qzb)  (r:Bool) (h:qzan x0 c0=some r):qzq EE Tryz.prog 53 [.agg (qzb.cells x0),.cptr (fun k=>(qzb.cells c0).getD k .top) 8 0] (.bool r):=y53.still (x:=(x0,c0)) (y:=r) h (by kernel_rfl)
def k55:Fc:=⟨55,[(.slc (.us 0)),(.slc (.us 0))],[false,false],[.bool],fun x=>qzbb x.1 x.2⟩
theorem y55:FcOk EE Tryz.prog k55:=wzio hEE (H:=[]) trivial [] [] (.s .n (.s .n (.s (.s .n (.b none (.l [] ⟨.n,[(0,.k),(1,.k),(12,.k),(13,.v (.int .i64))],[]⟩ [⟨(.x 0),[],[]⟩,⟨.r,[(4,.v .bool)],[]⟩] .n))) .n))) (fn:=Tryz.f55) rfl (by kernel_rfl) (by kernel_rfl) fun _=>by kernel_rfl
def k59:Fc:=⟨59,[.str],[false],[.bool],fun x=>qzcb x⟩
theorem y59:FcOk EE Tryz.prog k59:=wzio hEE (H:=[]) trivial [] [] .n (fn:=Tryz.f59) rfl (by kernel_rfl) (by kernel_rfl) fun _=>by kernel_rfl
def k68:Fc:=⟨68,[(.int .i64)],[false],[.bool],fun x=>yzy x⟩
theorem y68:FcOk EE Tryz.prog k68:=wzio hEE (H:=[]) trivial [] [] .n (fn:=Tryz.f68) rfl (by kernel_rfl) (by kernel_rfl) fun _=>by kernel_rfl
def k70:Fc:=⟨70,[(.us 0),(.int .i64)],[false,false],[.bool],fun x=>qzdt x.1 x.2⟩
theorem y70:FcOk EE Tryz.prog k70:=wzio hEE (H:=[]) trivial [] [] .n (fn:=Tryz.f70) rfl (by kernel_rfl) (by kernel_rfl) fun _=>by kernel_rfl
def k72:Fc:=⟨72,[(.us 1)],[false],[(.us 0)],fun x=>jzx x⟩
theorem y72:FcOk EE Tryz.prog k72:=wzio hEE (H:=[]) trivial [] [] .n (fn:=Tryz.f72) rfl (by kernel_rfl) (by kernel_rfl) fun _=>by kernel_rfl
theorem qzhh (s0:qzb)  (r:qza) (h:jzx s0=some r):qzq EE Tryz.prog 72 [.agg (qzb.cells s0)] (.agg (qza.cells r)):=y72.still (x:=(s0)) (y:=r) h (by kernel_rfl)
def k75:Fc:=⟨75,[(.us 1)],[false],[(.us 0)],fun x=>jzb x⟩
theorem y75:FcOk EE Tryz.prog k75:=wzio hEE (H:=[]) trivial [] [] .n (fn:=Tryz.f75) rfl (by kernel_rfl) (by kernel_rfl) fun _=>by kernel_rfl
theorem qzgj (s0:qzb)  (r:qza) (h:jzb s0=some r):qzq EE Tryz.prog 75 [.agg (qzb.cells s0)] (.agg (qza.cells r)):=y75.still (x:=(s0)) (y:=r) h (by kernel_rfl)
abbrev kz8 (f1:qzb→Option Bool) (s0:List qzb) (f1_f:FuncId) (f1_b:Nat) (f1_c:List AVal) (s:Int) (ex:Unit):List (Nat×AVal):=match s,ex with | t8,()=>[(0,slcV 8 qzb.cells s0),(1,.fn f1_f f1_b f1_c),(7,.int .i64 (List.length s0:Int)),(8,.int .i64 t8)]
abbrev kz9 (f1:qzb→Option Bool) (s0:List qzb) (f1_f:FuncId) (f1_b:Nat) (f1_c:List AVal) (s:Int) (ex:Unit):List (Nat×AObj):=match s,ex with | t8,()=>[]
abbrev qzde (f1:qzb→Option Bool) (s0:List qzb) (f1_f:FuncId) (f1_b:Nat) (f1_c:List AVal):Unit⊕Int→Exit→ASt→Prop:=fun o ex S'=>match o with | .inl ()=>ex=.exit 0∧See EE S' ⟨tl [] 19,hl [],[]⟩ | .inr o=>ex=.ret∧Post EE rs87 (fun x _=>x=.int .i64 o) .ret S'
theorem qzh3 (f1:qzb→Option Bool) (s0:List qzb) (f1_f:FuncId) (f1_b:Nat) (f1_c:List AVal) (f1_n:∀ x,x∈f1_c→qzt x) (f1_h:∀ a0 r,f1 a0=some r→FnOk EE Tryz.prog f1_f f1_b f1_c [.agg (qzb.cells a0)] (.bool r)) (t8:Int) (QQ:Int⊕(Unit⊕Int)→Prop) (h:Ok (kze f1 s0 t8) QQ):AW EE none Tryz.prog (qz8v 0) (fun ex S'=>(∃ s' e',ex=.normal∧QQ (.inl s')∧See EE S' ⟨tl ((kz8 f1 s0 f1_f f1_b f1_c) s' e') 19,hl ((kz9 f1 s0 f1_f f1_b f1_c) s' e'),[]⟩)∨(∃ o,QQ (.inr o)∧ex≠.normal∧(qzde f1 s0 f1_f f1_b f1_c) o ex S')) ⟨tl [(0,slcV 8 qzb.cells s0),(1,.fn f1_f f1_b f1_c),(7,.int .i64 (List.length s0:Int)),(8,.int .i64 t8)] 19,hl [],[]⟩:=by
 unfold kze at h
 refine AW.rS [(0,slcV 8 qzb.cells s0),(1,.fn f1_f f1_b f1_c),(7,.int .i64 (List.length s0:Int)),(8,.int .i64 t8),(9,.bool (decide (t8 < (List.length s0:Int))))] [] ?_ ?_
 ·simp [qz9y,-Int.pred_toNat]
  all_goals exact zq1
 refine .seq ?_
 refine AW.ifF (decide (t8 < (List.length s0:Int))) rfl (by simp) (fun e=>?_) (fun e=>?_)
 ·replace h:=h.pos e
  refine AW.skip ?_
  refine .seq ?_
  refine .block ?_
  refine AW.rS [(0,slcV 8 qzb.cells s0),(1,.fn f1_f f1_b f1_c),(5,.int .i64 t8),(7,.int .i64 (List.length s0:Int)),(8,.int .i64 t8)] [] ?_ ?_
  ·simp [qz70,-Int.pred_toNat]
   all_goals exact zq1
  obtain ⟨x1,h1,h⟩:=h.at
  obtain ⟨r1,h2,h⟩:=h.ex
  refine AW.rS [(0,slcV 8 qzb.cells s0),(1,.fn f1_f f1_b f1_c),(5,.int .i64 t8),(7,.int .i64 (List.length s0:Int)),(8,.int .i64 t8),(16,.bool r1)] [] ?_ ?_
  ·obtain ⟨f1a,f1b,f1c⟩:=h1
   have f1d:qzd qzb.cells s0 (Int.toNat t8)=qzb.cells x1:=qzo f1c
   have f1e:Int.toNat t8 < List.length s0:=by omega
   simp [qz5l,-Int.pred_toNat,f1a,f1b,f1d,f1e]
   (repeat' apply And.intro)<;>try first | omega | (simp at*<;> omega)
   ·exact (f1_h x1 _ h2).1
   refine (f1_h x1 _ h2).2.ca (by simp [-Int.pred_toNat,f1a,f1b,f1d,f1e]) ?_
   (try simp [-Int.pred_toNat,f1a,f1b,f1d,f1e])
   (repeat' apply And.intro)<;>first | omega | (simp at*<;> omega) | (intro _; intros; simp_all; done) | exact .mk (by simp [-Int.pred_toNat,f1a,f1b,f1d,f1e]) (by simp [-Int.pred_toNat,f1a,f1b,f1d,f1e]) rfl
  refine AW.ifF r1 rfl (by simp) (fun e=>?_) (fun e=>?_)
  ·replace h:=h.pos e
   refine AW.rS [(4,.int .i64 t8)] [] ?_ ?_
   ·simp [qz7q,-Int.pred_toNat]
    all_goals exact zq1
   exact .ret (.inr ⟨.inr t8,h.some,by simp,rfl,.wk (rs:=rs87) [(4,.int .i64 t8)] [] (by simp) (by simp) rfl (by simp [rs87]) (by simp [rs87]; try rfl)⟩)
  ·replace h:=h.neg e
   refine AW.skip ?_
   obtain ⟨h3,h⟩:=h.ck
   refine AW.rE [(0,slcV 8 qzb.cells s0),(1,.fn f1_f f1_b f1_c),(7,.int .i64 (List.length s0:Int)),(8,.int .i64 (t8+1))] [] ?_ (fun S' hs1=>?_)
   ·have f2:=qzr h3
    simp [qz5m,-Int.pred_toNat,f2]
    (repeat' apply And.intro)<;>first | omega | (simp at*<;> omega) | (intro _; intros; simp_all; done) | exact .mk (by simp [-Int.pred_toNat,f2]) (by simp [-Int.pred_toNat,f2]) rfl
   exact .inl ⟨(t8+1),(),rfl,h.some,(hs1.trans (.wk (by simp [kz8]) (by simp [kz9]) rfl))⟩
 ·replace h:=h.neg e
  refine .exit ?_
  exact .inr ⟨.inl (),h.some,by simp,⟨rfl,(.wk (by simp) (by simp) rfl)⟩⟩
theorem qzkk (s0:List qzb) (f1:qzb→Option Bool) (f1_f:FuncId) (f1_b:Nat) (f1_c:List AVal) (f1_n:∀ x,x∈f1_c→qzt x) (f1_h:∀ a0 r,f1 a0=some r→FnOk EE Tryz.prog f1_f f1_b f1_c [.agg (qzb.cells a0)] (.bool r)) (r:Int) (h:qzas s0 f1=some r):qzq EE Tryz.prog 87 [slcV 8 qzb.cells s0,.fn f1_f f1_b f1_c] (.int .i64 r):=by
 refine Pure.still ?_ hEE (by simp [-qzh,(fun l=>qzj (st:=8) (c:=qzb.cells) (l:=l) qzb.noref),kzp,f1_n]<;>assumption) (by simp [-qzh,(fun l=>qzj (st:=8) (c:=qzb.cells) (l:=l) qzb.noref),kzp,f1_n])
 obtain ⟨c,hb,hc⟩:=ck87
 replace h:=Ok.of h; unfold qzas at h
 refine Pure.ofs (fn:=Tryz.f87) (n:=19) rfl hb cr87 (hc 0) rfl rfl (by simp) ?_
 refine AW.rS [(0,slcV 8 qzb.cells s0),(1,.fn f1_f f1_b f1_c)] [] ?_ ?_
 ·simp [qz94,-Int.pred_toNat]
  all_goals exact zq1
 refine .seq ?_
 refine AW.rS [(0,slcV 8 qzb.cells s0),(1,.fn f1_f f1_b f1_c),(7,.int .i64 (List.length s0:Int)),(8,.int .i64 0)] [] ?_ ?_
 ·simp [qz35,-Int.pred_toNat]
  all_goals exact zq1
 refine .block ?_
 refine AW.lpF (ε:=Unit) () h.bd (kz8 f1 s0 f1_f f1_b f1_c) (kz9 f1 s0 f1_f f1_b f1_c) (qzde f1 s0 f1_f f1_b f1_c) (by simp [kz8]) (by simp [kz9]) rfl ?_ ?_
 ·rintro t8 ⟨⟩ QQ h
  exact qzh3 f1 s0 f1_f f1_b f1_c f1_n f1_h t8 QQ h
 ·intro o h ex S' hs
  rcases o with ⟨⟩ | o
  ·obtain ⟨rfl,hs⟩:=hs
   refine .see hs ?_
   refine AW.rS [(4,.int .i64 (-1))] [] ?_ ?_
   ·simp [qz80,-Int.pred_toNat]
    all_goals exact zq1
   have hr:=h.some
   subst hr
   refine AW.rt (rs:=rs87) [(4,.int .i64 (-1))] [] (by simp) (by simp) rfl rfl (by simp [rs87]) (by simp [rs87]; try rfl)
  ·obtain ⟨rfl,hs⟩:=hs
   cases h.some
   exact hs
def k114:Fc:=⟨114,[(.slc (.int .u32))],[false],[(.slc (.int .u32))],fun x=>qzx x⟩
theorem y114:FcOk EE Tryz.prog k114:=wzio hEE (H:=[]) trivial [] [] (.s .n (.s (.b none (.l [] ⟨.n,[(0,.v (.slc (.int .u32)))],[]⟩ [⟨(.x 0),[(0,.v (.slc (.int .u32)))],[]⟩] .n)) .n)) (fn:=Tryz.f114) rfl (by kernel_rfl) (by kernel_rfl) fun _=>by kernel_rfl
theorem qz4 (x0:List Int)  (r:List Int) (h:qzx x0=some r):qzq EE Tryz.prog 114 [slcV 1 (cI .u32) x0] (slcV 1 (cI .u32) r):=y114.still (x:=(x0)) (y:=r) h (by kernel_rfl)
def k136:Fc:=⟨136,[(.slc (.int .u32)),(.int .i64)],[false,false],[(.int .u64)],fun x=>kzc x.1 x.2⟩
theorem y136:FcOk EE Tryz.prog k136:=wzio hEE (H:=[]) trivial [] [] .n (fn:=Tryz.f136) rfl (by kernel_rfl) (by kernel_rfl) fun _=>by kernel_rfl
def k144:Fc:=⟨144,[(.int .i64)],[false],[.bool],fun x=>qzcc x⟩
theorem y144:FcOk EE Tryz.prog k144:=wzio hEE (H:=[]) trivial [] [] .n (fn:=Tryz.f144) rfl (by kernel_rfl) (by kernel_rfl) fun _=>by kernel_rfl
def k145:Fc:=⟨145,[(.int .u32)],[false],[.bool],fun x=>qzai x⟩
theorem y145:FcOk EE Tryz.prog k145:=wzio hEE (H:=[]) trivial [] [] .n (fn:=Tryz.f145) rfl (by kernel_rfl) (by kernel_rfl) fun _=>by kernel_rfl
def k146:Fc:=⟨146,[.str,(.int .u8)],[false,false],[.str],fun x=>jzz x.1 x.2⟩
theorem y146:FcOk EE Tryz.prog k146:=wzio hEE (H:=[]) trivial [] [] (.s .n (.s (.b none (.l [] ⟨.n,[(0,.v .str),(1,.k)],[]⟩ [⟨(.x 0),[(0,.v .str)],[]⟩] .n)) .n)) (fn:=Tryz.f146) rfl (by kernel_rfl) (by kernel_rfl) fun _=>by kernel_rfl
theorem qzhi (s0:List UInt8) (c1:Int)  (r:List UInt8) (h:jzz s0 c1=some r):qzq EE Tryz.prog 146 [.str s0,.int .u8 c1] (.str r):=y146.still (x:=(s0,c1)) (y:=r) h (by kernel_rfl)
def k30:Fc:=⟨30,[(.slc (.us 1))],[false],[.bool],fun x=>qzdx x⟩
theorem y30:FcOk EE Tryz.prog k30:=wzio hEE (H:=[k70]) ⟨y70,trivial⟩ [] [] (.s .n (.s .n (.s (.s .n (.b none (.l [] ⟨.n,[(0,.k),(3,.v (.int .i64))],[]⟩ [⟨(.x 0),[],[]⟩,⟨.r,[(2,.v .bool)],[]⟩] .n))) .n))) (fn:=Tryz.f30) rfl (by kernel_rfl) (by kernel_rfl) fun _=>by kernel_rfl
theorem qzir (s0:List qzb) (f1:qzb→Option Bool) (f1_f:FuncId) (f1_b:Nat) (f1_c:List AVal) (f1_n:∀ x,x∈f1_c→qzt x) (f1_h:∀ a0 r,f1 a0=some r→FnOk EE Tryz.prog f1_f f1_b f1_c [.agg (qzb.cells a0)] (.bool r)) (r:Bool) (h:jz8 s0 f1=some r):qzq EE Tryz.prog 52 [slcV 8 qzb.cells s0,.fn f1_f f1_b f1_c] (.bool r):=by
 refine Pure.still ?_ hEE (by simp [-qzh,(fun l=>qzj (st:=8) (c:=qzb.cells) (l:=l) qzb.noref),kzp,f1_n]<;>assumption) (by simp [-qzh,(fun l=>qzj (st:=8) (c:=qzb.cells) (l:=l) qzb.noref),kzp,f1_n])
 obtain ⟨c,hb,hc⟩:=ck52
 replace h:=Ok.of h; unfold jz8 at h
 refine Pure.ofs (fn:=Tryz.f52) (n:=9) rfl hb cr52 (hc 0) rfl rfl (by simp) ?_
 refine AW.rS [(0,slcV 8 qzb.cells s0),(1,.fn f1_f f1_b f1_c)] [] ?_ ?_
 ·simp [qz5d,-Int.pred_toNat]
  all_goals exact zq1
 obtain ⟨r1,h1,h⟩:=h.ex
 refine AW.rS [(4,.bool (decide (0≤r1)))] [] ?_ ?_
 ·simp [qz46,-Int.pred_toNat]
  (repeat' apply And.intro)<;>try first | omega | (simp at*<;> omega)
  refine (qzkk s0 f1 f1_f f1_b f1_c f1_n (fun a0 r h=>f1_h a0 r h) _ h1).ca (by simp [-Int.pred_toNat]) ?_
  (try simp [-Int.pred_toNat])
  all_goals exact zq1
 have hr:=h.some
 subst hr
 refine AW.rt (rs:=rs52) [(4,.bool (decide (0≤r1)))] [] (by simp) (by simp) rfl rfl (by simp [rs52]) (by simp [rs52]; try rfl)
def k94:Fc:=⟨94,[.str],[false],[(.slc (.int .u32))],fun x=>wzn x⟩
theorem y94:FcOk EE Tryz.prog k94:=wzio hEE (H:=[k114]) ⟨y114,trivial⟩ [] [(1,(.int .u32)),(2,(.int .u32))] (.s .n (.s .n (.s (.s .n (.b none (.l [] ⟨.n,[(0,.k),(3,.own 2),(4,.v (.int .i64))],[(0,.gone),(1,.gone),(2,.own (.int .u32))]⟩ [⟨(.x 0),[(3,.own 2)],[(0,.gone),(1,.gone),(2,.own (.int .u32))]⟩] (.s .n (.s (.b none (.s .n (.s (.s .n (.b none (.l [] ⟨.n,[(0,.k),(3,.k),(4,.k),(5,.v (.int .u32)),(20,.k),(21,.k),(22,.v (.int .i64))],[(0,.gone),(1,.gone),(2,.k)]⟩ [⟨(.x 2),[(0,.k),(3,.k),(4,.k),(5,.v (.int .u32))],[(0,.gone),(1,.gone),(2,.k)]⟩] .n))) .n))) .n))))) .n))) (fn:=Tryz.f94) rfl (by kernel_rfl) (by kernel_rfl) fun _=>by kernel_rfl
theorem wzo (a0:List UInt8)  (r:List Int) (h:wzn a0=some r):qzq EE Tryz.prog 94 [.str a0] (slcV 1 (cI .u32) r):=y94.still (x:=(a0)) (y:=r) h (by kernel_rfl)
def k113:Fc:=⟨113,[(.slc (.int .u32)),(.int .u32)],[false,false],[(.slc (.int .u32)),(.int .u32)],fun x=>jzs x.1 x.2⟩
theorem y113:FcOk EE Tryz.prog k113:=wzio hEE (H:=[k114]) ⟨y114,trivial⟩ [] [(0,(.int .u32))] (.s .n (.s .n (.s (.s .n (.b none (.l [] ⟨.n,[(0,.k),(1,.k),(6,.vec 0),(7,.v (.int .u64)),(8,.v (.int .i64))],[(0,.vec (.int .u32))]⟩ [⟨(.x 0),[(6,.vec 0),(7,.v (.int .u64))],[(0,.vec (.int .u32))]⟩] .n))) .n))) (fn:=Tryz.f113) rfl (by kernel_rfl) (by kernel_rfl) fun _=>by kernel_rfl
theorem qzez (x0:List Int) (by1:Int)  (r:(List Int)×Int) (h:jzs x0 by1=some r):qzq EE Tryz.prog 113 [slcV 1 (cI .u32) x0,.int .u32 by1] (.tup [slcV 1 (cI .u32) r.1,.int .u32 r.2]):=y113.still (x:=(x0,by1)) (y:=r) h (by kernel_rfl)
def k117:Fc:=⟨117,[(.slc (.int .u32)),(.slc (.int .u32))],[false,false],[(.slc (.int .u32))],fun x=>wz1 x.1 x.2⟩
theorem y117:FcOk EE Tryz.prog k117:=wzio hEE (H:=[k114,k136]) ⟨y114,y136,trivial⟩ [] [(0,(.int .u32))] (.s .n (.s .n (.s (.s .n (.b none (.l [] ⟨.n,[(1,.k),(5,.vec 0),(18,.k),(19,.k),(20,.v (.int .i64))],[(0,.vec (.int .u32))]⟩ [⟨(.x 0),[(5,.vec 0)],[(0,.vec (.int .u32))]⟩] (.s .n (.s .n (.s (.b none (.s .n (.s .n (.s .n (.b none (.l [] ⟨.n,[(1,.k),(5,.vec 0),(6,.k),(7,.k),(8,.v (.int .u64)),(9,.v (.int .i64)),(18,.k),(19,.k),(20,.k)],[(0,.vec (.int .u32))]⟩ [⟨(.x 2),[(1,.k),(5,.vec 0),(18,.k),(19,.k),(20,.k)],[(0,.vec (.int .u32))]⟩] .n)))))) .n)))))) .n))) (fn:=Tryz.f117) rfl (by kernel_rfl) (by kernel_rfl) fun _=>by kernel_rfl
theorem qzbl (x0:List Int) (y1:List Int)  (r:List Int) (h:wz1 x0 y1=some r):qzq EE Tryz.prog 117 [slcV 1 (cI .u32) x0,slcV 1 (cI .u32) y1] (slcV 1 (cI .u32) r):=y117.still (x:=(x0,y1)) (y:=r) h (by kernel_rfl)
def k118:Fc:=⟨118,[(.slc (.int .u32)),(.slc (.int .u32))],[false,false],[(.slc (.int .u32))],fun x=>wzz x.1 x.2⟩
theorem y118:FcOk EE Tryz.prog k118:=wzio hEE (H:=[k114,k136]) ⟨y114,y136,trivial⟩ [] [(0,(.int .u32)),(1,(.int .u32))] (.s .n (.s .n (.s .n (.s (.s .n (.b none (.l [] ⟨.n,[(0,.k),(1,.k),(5,.own 1),(6,.v (.int .u64)),(10,.k),(11,.v (.int .i64))],[(0,.gone),(1,.own (.int .u32))]⟩ [⟨(.x 0),[(5,.own 1)],[(0,.gone),(1,.own (.int .u32))]⟩] .n))) .n)))) (fn:=Tryz.f118) rfl (by kernel_rfl) (by kernel_rfl) fun _=>by kernel_rfl
theorem qzbu (x0:List Int) (y1:List Int)  (r:List Int) (h:wzz x0 y1=some r):qzq EE Tryz.prog 118 [slcV 1 (cI .u32) x0,slcV 1 (cI .u32) y1] (slcV 1 (cI .u32) r):=y118.still (x:=(x0,y1)) (y:=r) h (by kernel_rfl)
def k121:Fc:=⟨121,[(.slc (.int .u32)),(.slc (.int .u32))],[false,false],[(.slc (.int .u32))],fun x=>vzk x.1 x.2⟩
theorem y121:FcOk EE Tryz.prog k121:=wzio hEE (H:=[k114,k136]) ⟨y114,y136,trivial⟩ [] [(0,(.int .u32)),(1,(.int .u32))] (.s .n (.s .n (.s .n (.s (.s .n (.b none (.l [] ⟨.n,[(0,.k),(1,.k),(5,.own 1),(6,.v (.int .u64)),(14,.k),(15,.v (.int .i64))],[(0,.gone),(1,.own (.int .u32))]⟩ [⟨(.x 0),[(5,.own 1)],[(0,.gone),(1,.own (.int .u32))]⟩] .n))) .n)))) (fn:=Tryz.f121) rfl (by kernel_rfl) (by kernel_rfl) fun _=>by kernel_rfl
def k134:Fc:=⟨134,[(.int .i64),(.int .i64)],[false,false],[(.int .i64)],fun x=>qzca x.1 x.2⟩
theorem y134:FcOk EE Tryz.prog k134:=wzio hEE (H:=[k144]) ⟨y144,trivial⟩ [] [] .n (fn:=Tryz.f134) rfl (by kernel_rfl) (by kernel_rfl) fun _=>by kernel_rfl
def k135:Fc:=⟨135,[(.int .u32),(.int .u32)],[false,false],[(.int .i64)],fun x=>qzax x.1 x.2⟩
theorem y135:FcOk EE Tryz.prog k135:=wzio hEE (H:=[k145]) ⟨y145,trivial⟩ [] [] .n (fn:=Tryz.f135) rfl (by kernel_rfl) (by kernel_rfl) fun _=>by kernel_rfl
theorem qzjg (s0:List UInt8) (cutset1:List UInt8)  (r:List UInt8) (h:qzav s0 cutset1=some r):qzq EE Tryz.prog 137 [.str s0,.str cutset1] (.str r):=by
 refine Pure.still ?_ hEE (by simp<;>assumption) (by simp)
 obtain ⟨c,hb,hc⟩:=wzg4
 replace h:=Ok.of h; unfold qzav at h
 refine Pure.ofs (fn:=Tryz.f137) (n:=37) rfl hb wzgr (hc 0) rfl rfl (by simp) ?_
 refine AW.rS [(0,.str s0),(1,.str cutset1)] [] ?_ ?_
 ·simp [qzz7,-Int.pred_toNat]
  all_goals exact zq1
 refine .seq ?_
 refine AW.rS [(0,.str s0),(1,.str cutset1),(12,.bool (bif (decide (s0=[])) then true else (decide (cutset1=[]))))] [] ?_ ?_
 ·simp [qz0z,-Int.pred_toNat]
  all_goals exact zq1
 refine AW.ifF (bif (decide (s0=[])) then true else (decide (cutset1=[]))) rfl (by simp) (fun e=>?_) (fun e=>?_)
 ·replace h:=h.pos e
  refine AW.rS [(4,.str s0)] [] ?_ ?_
  ·simp [qz2o,-Int.pred_toNat]
   all_goals exact zq1
  have hr:=h.some
  subst hr
  refine AW.rt (rs:=qzlw) [(4,.str s0)] [] (by simp) (by simp) rfl rfl (by simp [qzlw]) (by simp [qzlw]; try rfl)
 ·replace h:=h.neg e
  refine AW.skip ?_
  refine .seq ?_
  obtain ⟨h1,h⟩:=h.ck
  refine AW.rS [(0,.str s0),(1,.str cutset1),(21,.bool (bif (decide ((List.length cutset1:Int)=1)) then (decide ((wzw cutset1 0) < 128)) else false))] [] ?_ ?_
  ·rcases Bool.eq_false_or_eq_true (decide ((List.length cutset1:Int)=1)) with e1 | e1
   ·have e1n:=e1
    (try simp at e1n)
    obtain ⟨f1a,f1b⟩:=qznu (ck_g h1 e1)
    simp [qzt6,-Int.pred_toNat,e1,e1n,f1a,f1b]
    (repeat' apply And.intro)<;>first | omega | (simp at*<;> omega) | (intro _; intros; simp_all; done) | exact .mk (by simp [-Int.pred_toNat,e1,e1n,f1a,f1b]) (by simp [-Int.pred_toNat,e1,e1n,f1a,f1b]) rfl
   ·have e1n:=e1
    (try simp at e1n)
    simp [qzt6,-Int.pred_toNat,e1,e1n]
    (repeat' apply And.intro)<;>first | omega | (simp at*<;> omega) | (intro _; intros; simp_all; done) | exact .mk (by simp [-Int.pred_toNat,e1,e1n]) (by simp [-Int.pred_toNat,e1,e1n]) rfl
  refine AW.ifF (bif (decide ((List.length cutset1:Int)=1)) then (decide ((wzw cutset1 0) < 128)) else false) rfl (by simp) (fun e=>?_) (fun e=>?_)
  ·replace h:=h.pos e
   obtain ⟨h2,h⟩:=h.ck
   obtain ⟨r1,h3,h⟩:=h.ex
   refine AW.rS [(4,.str r1)] [] ?_ ?_
   ·obtain ⟨f2a,f2b⟩:=qznu h2
    simp [qz2m,-Int.pred_toNat,f2a,f2b]
    (repeat' apply And.intro)<;>try first | omega | (simp at*<;> omega)
    refine (qzhi s0 (wzw cutset1 0)  _ h3).ca (by simp [-Int.pred_toNat,f2a,f2b]) ?_
    (try simp [-Int.pred_toNat,f2a,f2b])
    (repeat' apply And.intro)<;>first | omega | (simp at*<;> omega) | (intro _; intros; simp_all; done) | exact .mk (by simp [-Int.pred_toNat,f2a,f2b]) (by simp [-Int.pred_toNat,f2a,f2b]) rfl
   have hr:=h.some
   subst hr
   refine AW.rt (rs:=qzlw) [(4,.str r1)] [] (by simp) (by simp) rfl rfl (by simp [qzlw]) (by simp [qzlw]; try rfl)
  ·replace h:=h.neg e
   refine AW.skip ?_
   refine .seq ?_
   exact h.no
def k137:Fc:=⟨137,[.str,.str],[false,false],[.str],fun x=>qzav x.1 x.2⟩
theorem y137:FcOk EE Tryz.prog k137:=⟨by kernel_rfl,fun x _ h=>(qzjg x.1 x.2 _ h).cast (by kernel_rfl)⟩
def k8:Fc:=⟨8,[(.slc (.us 1)),(.us 0)],[false,false],[.bool],fun x=>qzcf x.1 x.2⟩
theorem y8:FcOk EE Tryz.prog k8:=wzio hEE (H:=[k30]) ⟨y30,trivial⟩ [] [] .n (fn:=Tryz.f8) rfl (by kernel_rfl) (by kernel_rfl) fun _=>by kernel_rfl
def k112:Fc:=⟨112,[(.slc (.int .u32)),(.slc (.int .u32))],[false,false],[(.int .i64)],fun x=>wzl x.1 x.2⟩
theorem y112:FcOk EE Tryz.prog k112:=wzio hEE (H:=[k134,k135]) ⟨y134,y135,trivial⟩ [] [] (.s .n (.s .n (.s (.s .n (.b none (.l [] ⟨.n,[(0,.k),(1,.k),(6,.v (.int .i64))],[]⟩ [⟨(.x 0),[],[]⟩,⟨.r,[(4,.v (.int .i64))],[]⟩] .n))) .n))) (fn:=Tryz.f112) rfl (by kernel_rfl) (by kernel_rfl) fun _=>by kernel_rfl
theorem vzq (x0:List Int) (y1:List Int)  (r:Int) (h:wzl x0 y1=some r):qzq EE Tryz.prog 112 [slcV 1 (cI .u32) x0,slcV 1 (cI .u32) y1] (.int .i64 r):=y112.still (x:=(x0,y1)) (y:=r) h (by kernel_rfl)
def k115:Fc:=⟨115,[(.slc (.int .u32)),(.int .i64)],[false,false],[(.slc (.int .u32))],fun x=>wzm x.1 x.2⟩
theorem y115:FcOk EE Tryz.prog k115:=wzio hEE (H:=[k113,k117]) ⟨y113,y117,trivial⟩ [] [(0,(.int .u32))] .n (fn:=Tryz.f115) rfl (by kernel_rfl) (by kernel_rfl) fun _=>by kernel_rfl
theorem qzbn (x0:List Int) (bits1:Int)  (r:List Int) (h:wzm x0 bits1=some r):qzq EE Tryz.prog 115 [slcV 1 (cI .u32) x0,.int .i64 bits1] (slcV 1 (cI .u32) r):=y115.still (x:=(x0,bits1)) (y:=r) h (by kernel_rfl)
def k120:Fc:=⟨120,[.str],[false],[.str],fun x=>qzdj x⟩
theorem y120:FcOk EE Tryz.prog k120:=wzio hEE (H:=[k137]) ⟨y137,trivial⟩ [] [] .n (fn:=Tryz.f120) rfl (by kernel_rfl) (by kernel_rfl) fun _=>by kernel_rfl
theorem qzqv (a0:List UInt8)  (r:List UInt8) (h:qzdj a0=some r):qzq EE Tryz.prog 120 [.str a0] (.str r):=y120.still (x:=(a0)) (y:=r) h (by kernel_rfl)
abbrev yz3 (bits8:Int) (j13:Int) (l1:List Int) (l5:List Int) (r4:List Int) (ep6:Nat) (ep9:Nat) (s:Int×(List Int)) (ex:Nat):List (Nat×AVal):=match s,ex with | (guess15',product18),ep7'=>[(8,.int .i64 bits8),(9,slcV 1 (cI .u32) r4),(10,.vec 1 3 0 (List.length l1)),(11,.int .i64 (List.length r4:Int)),(12,.vec 5 1 0 (List.length l5)),(13,.int .i64 j13),(15,.int .u64 guess15'),(17,.vec 1 3 (Int.toNat j13) (Int.toNat (((j13+(List.length r4:Int))+1) - j13))),(18,slcV 1 (cI .u32) product18)]
abbrev yz8 (bits8:Int) (j13:Int) (l1:List Int) (l5:List Int) (r4:List Int) (ep6:Nat) (ep9:Nat) (s:Int×(List Int)) (ex:Nat):List (Nat×AObj):=match s,ex with | (guess15',product18),ep7'=>[(1,.vec 3 1 (List.length l1) (qzd (cI .u32) l1)),(3,.gone 1),(5,.vec 1 1 (List.length l5) (qzd (cI .u32) l5)),(6,.gone (ep6+2)),(7,.gone ep7'),(9,.gone ep9)]
abbrev qzfs (bits8:Int) (j13:Int) (l1:List Int) (l5:List Int) (r4:List Int) (ep6:Nat) (ep9:Nat):Int×(List Int)→Exit→ASt→Prop:=fun o ex S'=>match o with | (guess15',product18)=>∃ ep7':Nat,ex=.exit 6∧See EE S' ⟨tl [(8,.int .i64 bits8),(9,slcV 1 (cI .u32) r4),(10,.vec 1 3 0 (List.length l1)),(11,.int .i64 (List.length r4:Int)),(12,.vec 5 1 0 (List.length l5)),(13,.int .i64 j13),(15,.int .u64 guess15'),(17,.vec 1 3 (Int.toNat j13) (Int.toNat (((j13+(List.length r4:Int))+1) - j13))),(18,slcV 1 (cI .u32) product18)] 193,hl [(1,.vec 3 1 (List.length l1) (qzd (cI .u32) l1)),(3,.gone 1),(5,.vec 1 1 (List.length l5) (qzd (cI .u32) l5)),(6,.gone (ep6+2)),(7,.gone ep7'),(9,.gone ep9)],[]⟩
theorem qzle (bits8:Int) (j13:Int) (l1:List Int) (l5:List Int) (r4:List Int) (ep6:Nat) (ep9:Nat) (guess15':Int) (product18:List Int) (ep7':Nat) (QQ:(Int×(List Int))⊕(Int×(List Int))→Prop) (h:Ok (yzk j13 l1 r4 (guess15',product18)) QQ):AW EE none Tryz.prog (qz8b 0) (fun ex S'=>(∃ s' e',ex=.normal∧QQ (.inl s')∧See EE S' ⟨tl ((yz3 bits8 j13 l1 l5 r4 ep6 ep9) s' e') 193,hl ((yz8 bits8 j13 l1 l5 r4 ep6 ep9) s' e'),[]⟩)∨(∃ o,QQ (.inr o)∧ex≠.normal∧(qzfs bits8 j13 l1 l5 r4 ep6 ep9) o ex S')) ⟨tl [(8,.int .i64 bits8),(9,slcV 1 (cI .u32) r4),(10,.vec 1 3 0 (List.length l1)),(11,.int .i64 (List.length r4:Int)),(12,.vec 5 1 0 (List.length l5)),(13,.int .i64 j13),(15,.int .u64 guess15'),(17,.vec 1 3 (Int.toNat j13) (Int.toNat (((j13+(List.length r4:Int))+1) - j13))),(18,slcV 1 (cI .u32) product18)] 193,hl [(1,.vec 3 1 (List.length l1) (qzd (cI .u32) l1)),(3,.gone 1),(5,.vec 1 1 (List.length l5) (qzd (cI .u32) l5)),(6,.gone (ep6+2)),(7,.gone ep7'),(9,.gone ep9)],[]⟩:=by
 unfold yzk at h
 refine .seq ?_
 obtain ⟨h40,h⟩:=h.ck
 obtain ⟨r8,h41,h⟩:=h.ex
 obtain ⟨r9,h42,h⟩:=h.ex
 obtain ⟨r10,h43,h⟩:=h.ex
 refine AW.rG [(8,.int .i64 bits8),(9,slcV 1 (cI .u32) r4),(10,.vec 1 3 0 (List.length l1)),(11,.int .i64 (List.length r4:Int)),(12,.vec 5 1 0 (List.length l5)),(13,.int .i64 j13),(15,.int .u64 guess15'),(17,.vec 1 3 (Int.toNat j13) (Int.toNat (((j13+(List.length r4:Int))+1) - j13))),(18,slcV 1 (cI .u32) product18),(166,.bool (decide (r10 < 0)))] [(1,.vec 3 1 (List.length l1) (qzd (cI .u32) l1)),(3,.gone 1),(5,.vec 1 1 (List.length l5) (qzd (cI .u32) l5)),(6,.gone (ep6+2)),(7,.gone (ep7'+3)),(9,.gone ep9)] ?_ ?_
 ·refine SReg.cut 2 [(8,.int .i64 bits8),(9,slcV 1 (cI .u32) r4),(10,.vec 1 3 0 (List.length l1)),(11,.int .i64 (List.length r4:Int)),(12,.vec 5 1 0 (List.length l5)),(13,.int .i64 j13),(15,.int .u64 guess15'),(17,.vec 1 3 (Int.toNat j13) (Int.toNat (((j13+(List.length r4:Int))+1) - j13))),(18,slcV 1 (cI .u32) product18),(162,.vec 7 (ep7'+2) 0 (List.length r8))] [(1,.vec 3 1 (List.length l1) (qzd (cI .u32) l1)),(3,.gone 1),(5,.vec 1 1 (List.length l5) (qzd (cI .u32) l5)),(6,.gone (ep6+2)),(7,.vec (ep7'+2) 1 (List.length r8) (qzd (cI .u32) r8)),(9,.gone ep9)] ?_ ?_
  ·have f32s:=vzn h40
   obtain ⟨f32a,f32b,f32c⟩:=vz4 h40
   simp [qzuc,-Int.pred_toNat,f32s,f32a,f32b,f32c]
   (repeat' apply And.intro)<;>try first | omega | (simp at*<;> omega)
   refine ATr.mono (qzcu 7 (sub l1 j13 ((j13+(List.length r4:Int))+1)) _ h41 _ _ (by simp [hl,qz8]) ?_) ?_
   ·exact (qzaz.view (id:=1) h40 (by simp [hl,qz8]; try rfl) (by decide)).of (by simp [-Int.pred_toNat,f32s,f32a,f32b,f32c])
   rintro v h' ⟨f',rfl,rfl,h41f⟩
   simp [-Int.pred_toNat,f32s,f32a,f32b,f32c]
   (repeat' apply And.intro)<;>first | omega | (simp at*<;> omega) | (intro _; intros; simp_all; done) | exact .mk (by simp [-Int.pred_toNat,f32s,f32a,f32b,f32c]<;>first | (intro k hk; exact h41f k (by simpa using hk)) | (intro k hk; simpa using kzw (c:=(cI .u32)) h40 k (by omega))) (by simp [-Int.pred_toNat,f32s,f32a,f32b,f32c]<;>first | (intro k hk; exact h41f k (by simpa using hk)) | (intro k hk; simpa using kzw (c:=(cI .u32)) h40 k (by omega))) rfl
  refine SReg.frz 7 [(8,.int .i64 bits8),(9,slcV 1 (cI .u32) r4),(10,.vec 1 3 0 (List.length l1)),(11,.int .i64 (List.length r4:Int)),(12,.vec 5 1 0 (List.length l5)),(13,.int .i64 j13),(15,.int .u64 guess15'),(17,.vec 1 3 (Int.toNat j13) (Int.toNat (((j13+(List.length r4:Int))+1) - j13))),(18,slcV 1 (cI .u32) product18),(162,slcV 1 (cI .u32) r8)] [(1,.vec 3 1 (List.length l1) (qzd (cI .u32) l1)),(3,.gone 1),(5,.vec 1 1 (List.length l5) (qzd (cI .u32) l5)),(6,.gone (ep6+2)),(7,.gone (ep7'+3)),(9,.gone ep9)] rfl rfl trivial (by simp) (by simp) rfl ?_
  refine SReg.fin ?_
  simp [qzuc,-Int.pred_toNat]
  (repeat' apply And.intro)<;>try first | omega | (simp at*<;> omega)
  refine (qz4 r8  _ h42).ca (by simp [-Int.pred_toNat]) ?_
  (try simp [-Int.pred_toNat])
  (repeat' apply And.intro)<;>try first | omega | (simp at*<;> omega)
  refine (vzq r9 product18  _ h43).ca (by simp [-Int.pred_toNat]) ?_
  (try simp [-Int.pred_toNat])
  all_goals exact zq1
 refine AW.ifF (decide (r10 < 0)) rfl (by simp) (fun e=>?_) (fun e=>?_)
 ·replace h:=h.pos e
  refine AW.skip ?_
  refine .block ?_
  refine AW.rS [(8,.int .i64 bits8),(9,slcV 1 (cI .u32) r4),(10,.vec 1 3 0 (List.length l1)),(11,.int .i64 (List.length r4:Int)),(12,.vec 5 1 0 (List.length l5)),(13,.int .i64 j13),(15,.int .u64 ((guess15' - 1)%18446744073709551616)),(17,.vec 1 3 (Int.toNat j13) (Int.toNat (((j13+(List.length r4:Int))+1) - j13))),(18,slcV 1 (cI .u32) product18)] [(1,.vec 3 1 (List.length l1) (qzd (cI .u32) l1)),(3,.gone 1),(5,.vec 1 1 (List.length l5) (qzd (cI .u32) l5)),(6,.gone (ep6+2)),(7,.gone (ep7'+3)),(9,.gone ep9)] ?_ ?_
  ·simp [qz1j,-Int.pred_toNat]
   all_goals exact zq1
  obtain ⟨r11,h44,h⟩:=h.ex
  refine AW.rE [(8,.int .i64 bits8),(9,slcV 1 (cI .u32) r4),(10,.vec 1 3 0 (List.length l1)),(11,.int .i64 (List.length r4:Int)),(12,.vec 5 1 0 (List.length l5)),(13,.int .i64 j13),(15,.int .u64 ((guess15' - 1)%18446744073709551616)),(17,.vec 1 3 (Int.toNat j13) (Int.toNat (((j13+(List.length r4:Int))+1) - j13))),(18,slcV 1 (cI .u32) r11)] [(1,.vec 3 1 (List.length l1) (qzd (cI .u32) l1)),(3,.gone 1),(5,.vec 1 1 (List.length l5) (qzd (cI .u32) l5)),(6,.gone (ep6+2)),(7,.gone (ep7'+3)),(9,.gone ep9)] ?_ (fun S' hs3=>?_)
  ·simp [qz11,-Int.pred_toNat]
   (repeat' apply And.intro)<;>try first | omega | (simp at*<;> omega)
   refine (qzbu product18 r4  _ h44).ca (by simp [-Int.pred_toNat]) ?_
   (try simp [-Int.pred_toNat])
   all_goals exact zq1
  exact .inl ⟨(((guess15' - 1)%18446744073709551616),r11),(ep7'+3),rfl,h.some,(hs3.trans (.wk (by simp [yz3]) (by simp [yz8]) rfl))⟩
 ·replace h:=h.neg e
  refine .exit ?_
  exact .inr ⟨(guess15',product18),h.some,by simp,⟨(ep7'+3),rfl,(.wk (by simp) (by simp) rfl)⟩⟩
abbrev yz7 (bits8:Int) (j13:Int) (l1:List Int) (l5:List Int) (r4:List Int) (ep6:Nat) (ep7:Nat) (ep9:Nat) (s:Int×Int) (ex:Unit):List (Nat×AVal):=match s,ex with | (guess15,left16),()=>[(8,.int .i64 bits8),(9,slcV 1 (cI .u32) r4),(10,.vec 1 3 0 (List.length l1)),(11,.int .i64 (List.length r4:Int)),(12,.vec 5 1 0 (List.length l5)),(13,.int .i64 j13),(15,.int .u64 guess15),(16,.int .u64 left16)]
abbrev qzaf (bits8:Int) (j13:Int) (l1:List Int) (l5:List Int) (r4:List Int) (ep6:Nat) (ep7:Nat) (ep9:Nat) (s:Int×Int) (ex:Unit):List (Nat×AObj):=match s,ex with | (guess15,left16),()=>[(1,.vec 3 1 (List.length l1) (qzd (cI .u32) l1)),(3,.gone 1),(5,.vec 1 1 (List.length l5) (qzd (cI .u32) l5)),(6,.gone ep6),(7,.gone ep7),(9,.gone ep9)]
abbrev qzfp (bits8:Int) (j13:Int) (l1:List Int) (l5:List Int) (r4:List Int) (ep6:Nat) (ep7:Nat) (ep9:Nat):Int→Exit→ASt→Prop:=fun o ex S'=>match o with | guess15=>ex=.exit 4∧See EE S' ⟨tl [(8,.int .i64 bits8),(9,slcV 1 (cI .u32) r4),(10,.vec 1 3 0 (List.length l1)),(11,.int .i64 (List.length r4:Int)),(12,.vec 5 1 0 (List.length l5)),(13,.int .i64 j13),(15,.int .u64 guess15)] 193,hl [(1,.vec 3 1 (List.length l1) (qzd (cI .u32) l1)),(3,.gone 1),(5,.vec 1 1 (List.length l5) (qzd (cI .u32) l5)),(6,.gone ep6),(7,.gone ep7),(9,.gone ep9)],[]⟩
theorem qzlm (bits8:Int) (j13:Int) (l1:List Int) (l5:List Int) (r4:List Int) (ep6:Nat) (ep7:Nat) (ep9:Nat) (guess15:Int) (left16:Int) (QQ:(Int×Int)⊕Int→Prop) (h:Ok (kz2 j13 l1 r4 (guess15,left16)) QQ):AW EE none Tryz.prog (wzas 0) (fun ex S'=>(∃ s' e',ex=.normal∧QQ (.inl s')∧See EE S' ⟨tl ((yz7 bits8 j13 l1 l5 r4 ep6 ep7 ep9) s' e') 193,hl ((qzaf bits8 j13 l1 l5 r4 ep6 ep7 ep9) s' e'),[]⟩)∨(∃ o,QQ (.inr o)∧ex≠.normal∧(qzfp bits8 j13 l1 l5 r4 ep6 ep7 ep9) o ex S')) ⟨tl [(8,.int .i64 bits8),(9,slcV 1 (cI .u32) r4),(10,.vec 1 3 0 (List.length l1)),(11,.int .i64 (List.length r4:Int)),(12,.vec 5 1 0 (List.length l5)),(13,.int .i64 j13),(15,.int .u64 guess15),(16,.int .u64 left16)] 193,hl [(1,.vec 3 1 (List.length l1) (qzd (cI .u32) l1)),(3,.gone 1),(5,.vec 1 1 (List.length l5) (qzd (cI .u32) l5)),(6,.gone ep6),(7,.gone ep7),(9,.gone ep9)],[]⟩:=by
 unfold kz2 at h
 refine .seq ?_
 obtain ⟨h29,h⟩:=h.ck
 obtain ⟨x7,h30,h⟩:=h.ex
 obtain ⟨h31,h⟩:=h.ck
 obtain ⟨h32,h⟩:=h.ck
 obtain ⟨x8,h33,h⟩:=h.ex
 refine AW.dS [(8,.int .i64 bits8),(9,slcV 1 (cI .u32) r4),(10,.vec 1 3 0 (List.length l1)),(11,.int .i64 (List.length r4:Int)),(12,.vec 5 1 0 (List.length l5)),(13,.int .i64 j13),(15,.int .u64 guess15),(16,.int .u64 left16),(136,.bool (bif (decide (left16 < 4294967296)) then (decide ((bitI .or .u64 ((left16*4294967296)%18446744073709551616) (x8%18446744073709551616)) < ((guess15*(x7%18446744073709551616))%18446744073709551616))) else false))] [(1,.vec 3 1 (List.length l1) (qzd (cI .u32) l1)),(3,.gone 1),(5,.vec 1 1 (List.length l5) (qzd (cI .u32) l5)),(6,.gone ep6),(7,.gone ep7),(9,.gone ep9)] ?_ ?_
 ·rcases Bool.eq_false_or_eq_true (decide (left16 < 4294967296)) with e1 | e1
  ·have e1n:=e1
   (try simp at e1n)
   have f22:=qzr (ck_g h29 e1)
   obtain ⟨f23a,f23b,f23c⟩:=qzlv (gd_t e1 h30)
   have f23d:qzd (cI .u32) r4 (Int.toNat ((List.length r4:Int) - 2))=(cI .u32) x7:=qzo f23c
   have f23e:Int.toNat ((List.length r4:Int) - 2) < List.length r4:=by omega
   have f24:=qzr (ck_g h31 e1)
   have f25:=qzr (ck_g h32 e1)
   obtain ⟨f26a,f26b,f26c⟩:=qzlv (gd_t e1 h33)
   have f26d:qzd (cI .u32) l1 (Int.toNat ((j13+(List.length r4:Int)) - 2))=(cI .u32) x8:=qzo f26c
   have f26e:Int.toNat ((j13+(List.length r4:Int)) - 2) < List.length l1:=by omega
   simp [qzsv,-Int.pred_toNat,e1,e1n,f22,f23a,f23b,f23d,f23e,f24,f25,f26a,f26b,f26d,f26e]
   (repeat' apply And.intro)<;>first | omega | (simp at*<;> omega) | kernel_rfl | (intro _; intros; simp_all; done) | exact .mk (by simp [-Int.pred_toNat,e1,e1n,f22,f23a,f23b,f23d,f23e,f24,f25,f26a,f26b,f26d,f26e]<;>first | (intro k hk; rw [qzn _ k (by first | simpa using hk | omega)]; simp)) (by simp [-Int.pred_toNat,e1,e1n,f22,f23a,f23b,f23d,f23e,f24,f25,f26a,f26b,f26d,f26e]<;>first | (intro k hk; rw [qzn _ k (by first | simpa using hk | omega)]; simp)) rfl
  ·have e1n:=e1
   (try simp at e1n)
   simp [qzsv,-Int.pred_toNat,e1,e1n]
   (repeat' apply And.intro)<;>first | omega | (simp at*<;> omega) | kernel_rfl | (intro _; intros; simp_all; done) | exact .mk (by simp [-Int.pred_toNat,e1,e1n]<;>first | (intro k hk; rw [qzn _ k (by first | simpa using hk | omega)]; simp)) (by simp [-Int.pred_toNat,e1,e1n]<;>first | (intro k hk; rw [qzn _ k (by first | simpa using hk | omega)]; simp)) rfl
 refine AW.ifF (bif (decide (left16 < 4294967296)) then (decide ((bitI .or .u64 ((left16*4294967296)%18446744073709551616) (x8%18446744073709551616)) < ((guess15*(x7%18446744073709551616))%18446744073709551616))) else false) rfl (by simp) (fun e=>?_) (fun e=>?_)
 ·replace h:=h.pos e
  refine AW.skip ?_
  refine .block ?_
  refine AW.rS [(8,.int .i64 bits8),(9,slcV 1 (cI .u32) r4),(10,.vec 1 3 0 (List.length l1)),(11,.int .i64 (List.length r4:Int)),(12,.vec 5 1 0 (List.length l5)),(13,.int .i64 j13),(15,.int .u64 ((guess15 - 1)%18446744073709551616)),(16,.int .u64 left16)] [(1,.vec 3 1 (List.length l1) (qzd (cI .u32) l1)),(3,.gone 1),(5,.vec 1 1 (List.length l5) (qzd (cI .u32) l5)),(6,.gone ep6),(7,.gone ep7),(9,.gone ep9)] ?_ ?_
  ·simp [qzzd,-Int.pred_toNat]
   all_goals exact zq1
  obtain ⟨h34,h⟩:=h.ck
  obtain ⟨x9,h35,h⟩:=h.at
  refine AW.rE [(8,.int .i64 bits8),(9,slcV 1 (cI .u32) r4),(10,.vec 1 3 0 (List.length l1)),(11,.int .i64 (List.length r4:Int)),(12,.vec 5 1 0 (List.length l5)),(13,.int .i64 j13),(15,.int .u64 ((guess15 - 1)%18446744073709551616)),(16,.int .u64 ((left16+(x9%18446744073709551616))%18446744073709551616))] [(1,.vec 3 1 (List.length l1) (qzd (cI .u32) l1)),(3,.gone 1),(5,.vec 1 1 (List.length l5) (qzd (cI .u32) l5)),(6,.gone ep6),(7,.gone ep7),(9,.gone ep9)] ?_ (fun S' hs2=>?_)
  ·have f27:=qzr h34
   obtain ⟨f28a,f28b,f28c⟩:=h35
   have f28d:qzd (cI .u32) r4 (Int.toNat ((List.length r4:Int) - 1))=(cI .u32) x9:=qzo f28c
   have f28e:Int.toNat ((List.length r4:Int) - 1) < List.length r4:=by omega
   simp [qz0g,-Int.pred_toNat,f27,f28a,f28b,f28d,f28e]
   (repeat' apply And.intro)<;>first | omega | (simp at*<;> omega) | (intro _; intros; simp_all; done) | exact .mk (by simp [-Int.pred_toNat,f27,f28a,f28b,f28d,f28e]<;>first | (intro k hk; rw [qzn _ k (by first | simpa using hk | omega)]; simp)) (by simp [-Int.pred_toNat,f27,f28a,f28b,f28d,f28e]<;>first | (intro k hk; rw [qzn _ k (by first | simpa using hk | omega)]; simp)) rfl
  exact .inl ⟨(((guess15 - 1)%18446744073709551616),((left16+(x9%18446744073709551616))%18446744073709551616)),(),rfl,h.some,(hs2.trans (.wk (by simp [yz7]) (by simp [qzaf]) rfl))⟩
 ·replace h:=h.neg e
  refine .exit ?_
  exact .inr ⟨guess15,h.some,by simp,⟨rfl,(.wk (by simp) (by simp) rfl)⟩⟩
abbrev vzc (bits8:Int) (r4:List Int) (s:Int×(List Int)×(List Int)) (ex:Nat×Nat×Nat):List (Nat×AVal):=match s,ex with | (j13,l1,l5),(ep6,ep7,ep9)=>[(8,.int .i64 bits8),(9,slcV 1 (cI .u32) r4),(10,.vec 1 3 0 (List.length l1)),(11,.int .i64 (List.length r4:Int)),(12,.vec 5 1 0 (List.length l5)),(13,.int .i64 j13)]
abbrev vza (bits8:Int) (r4:List Int) (s:Int×(List Int)×(List Int)) (ex:Nat×Nat×Nat):List (Nat×AObj):=match s,ex with | (j13,l1,l5),(ep6,ep7,ep9)=>[(1,.vec 3 1 (List.length l1) (qzd (cI .u32) l1)),(3,.gone 1),(5,.vec 1 1 (List.length l5) (qzd (cI .u32) l5)),(6,.gone ep6),(7,.gone ep7),(9,.gone ep9)]
abbrev qzfn (bits8:Int) (r4:List Int):(List Int)×(List Int)→Exit→ASt→Prop:=fun o ex S'=>match o with | (l1,l5)=>∃ ep6:Nat,∃ ep7:Nat,∃ ep9:Nat,ex=.exit 2∧See EE S' ⟨tl [(8,.int .i64 bits8),(10,.vec 1 3 0 (List.length l1)),(12,.vec 5 1 0 (List.length l5))] 193,hl [(1,.vec 3 1 (List.length l1) (qzd (cI .u32) l1)),(3,.gone 1),(5,.vec 1 1 (List.length l5) (qzd (cI .u32) l5)),(6,.gone ep6),(7,.gone ep7),(9,.gone ep9)],[]⟩
theorem qzk1 (bits8:Int) (r4:List Int) (j13:Int) (l1:List Int) (l5:List Int) (ep6:Nat) (ep7:Nat) (ep9:Nat) (QQ:(Int×(List Int)×(List Int))⊕((List Int)×(List Int))→Prop) (h:Ok (wz2 r4 (j13,l1,l5)) QQ):AW EE none Tryz.prog (qz9a 0) (fun ex S'=>(∃ s' e',ex=.normal∧QQ (.inl s')∧See EE S' ⟨tl ((vzc bits8 r4) s' e') 193,hl ((vza bits8 r4) s' e'),[]⟩)∨(∃ o,QQ (.inr o)∧ex≠.normal∧(qzfn bits8 r4) o ex S')) ⟨tl [(8,.int .i64 bits8),(9,slcV 1 (cI .u32) r4),(10,.vec 1 3 0 (List.length l1)),(11,.int .i64 (List.length r4:Int)),(12,.vec 5 1 0 (List.length l5)),(13,.int .i64 j13)] 193,hl [(1,.vec 3 1 (List.length l1) (qzd (cI .u32) l1)),(3,.gone 1),(5,.vec 1 1 (List.length l5) (qzd (cI .u32) l5)),(6,.gone ep6),(7,.gone ep7),(9,.gone ep9)],[]⟩:=by
 unfold wz2 at h
 refine .seq ?_
 refine AW.rS [(8,.int .i64 bits8),(9,slcV 1 (cI .u32) r4),(10,.vec 1 3 0 (List.length l1)),(11,.int .i64 (List.length r4:Int)),(12,.vec 5 1 0 (List.length l5)),(13,.int .i64 j13),(74,.bool (decide (0≤j13)))] [(1,.vec 3 1 (List.length l1) (qzd (cI .u32) l1)),(3,.gone 1),(5,.vec 1 1 (List.length l5) (qzd (cI .u32) l5)),(6,.gone ep6),(7,.gone ep7),(9,.gone ep9)] ?_ ?_
 ·simp [qzyu,-Int.pred_toNat]
  all_goals exact zq1
 refine AW.ifF (decide (0≤j13)) rfl (by simp) (fun e=>?_) (fun e=>?_)
 ·replace h:=h.pos e
  refine AW.skip ?_
  refine .seq ?_
  refine .block ?_
  obtain ⟨h19,h⟩:=h.ck
  obtain ⟨x3,h20,h⟩:=h.at
  obtain ⟨h21,h⟩:=h.ck
  obtain ⟨h22,h⟩:=h.ck
  obtain ⟨x4,h23,h⟩:=h.at
  refine AW.dS [(8,.int .i64 bits8),(9,slcV 1 (cI .u32) r4),(10,.vec 1 3 0 (List.length l1)),(11,.int .i64 (List.length r4:Int)),(12,.vec 5 1 0 (List.length l5)),(13,.int .i64 j13),(14,.int .u64 (bitI .or .u64 (((x3%18446744073709551616)*4294967296)%18446744073709551616) (x4%18446744073709551616)))] [(1,.vec 3 1 (List.length l1) (qzd (cI .u32) l1)),(3,.gone 1),(5,.vec 1 1 (List.length l5) (qzd (cI .u32) l5)),(6,.gone ep6),(7,.gone ep7),(9,.gone ep9)] ?_ ?_
  ·have f12:=qzr h19
   obtain ⟨f13a,f13b,f13c⟩:=h20
   have f13d:qzd (cI .u32) l1 (Int.toNat (j13+(List.length r4:Int)))=(cI .u32) x3:=qzo f13c
   have f13e:Int.toNat (j13+(List.length r4:Int)) < List.length l1:=by omega
   have f14:=qzr h21
   have f15:=qzr h22
   obtain ⟨f16a,f16b,f16c⟩:=h23
   have f16d:qzd (cI .u32) l1 (Int.toNat ((j13+(List.length r4:Int)) - 1))=(cI .u32) x4:=qzo f16c
   have f16e:Int.toNat ((j13+(List.length r4:Int)) - 1) < List.length l1:=by omega
   simp [qzyt,-Int.pred_toNat,f12,f13a,f13b,f13d,f13e,f14,f15,f16a,f16b,f16d,f16e]
   (repeat' apply And.intro)<;>first | omega | (simp at*<;> omega) | kernel_rfl | (intro _; intros; simp_all; done) | exact .mk (by simp [-Int.pred_toNat,f12,f13a,f13b,f13d,f13e,f14,f15,f16a,f16b,f16d,f16e]<;>first | (intro k hk; rw [qzn _ k (by first | simpa using hk | omega)]; simp)) (by simp [-Int.pred_toNat,f12,f13a,f13b,f13d,f13e,f14,f15,f16a,f16b,f16d,f16e]<;>first | (intro k hk; rw [qzn _ k (by first | simpa using hk | omega)]; simp)) rfl
  obtain ⟨h24,h⟩:=h.ck
  obtain ⟨x5,h25,h⟩:=h.at
  obtain ⟨h26,h⟩:=h.ck
  refine AW.rS [(8,.int .i64 bits8),(9,slcV 1 (cI .u32) r4),(10,.vec 1 3 0 (List.length l1)),(11,.int .i64 (List.length r4:Int)),(12,.vec 5 1 0 (List.length l5)),(13,.int .i64 j13),(14,.int .u64 (bitI .or .u64 (((x3%18446744073709551616)*4294967296)%18446744073709551616) (x4%18446744073709551616))),(15,.int .u64 (min (((bitI .or .u64 (((x3%18446744073709551616)*4294967296)%18446744073709551616) (x4%18446744073709551616)).tdiv (x5%18446744073709551616))%18446744073709551616) 4294967295))] [(1,.vec 3 1 (List.length l1) (qzd (cI .u32) l1)),(3,.gone 1),(5,.vec 1 1 (List.length l5) (qzd (cI .u32) l5)),(6,.gone ep6),(7,.gone ep7),(9,.gone ep9)] ?_ ?_
  ·have f17:=qzr h24
   obtain ⟨f18a,f18b,f18c⟩:=h25
   have f18d:qzd (cI .u32) r4 (Int.toNat ((List.length r4:Int) - 1))=(cI .u32) x5:=qzo f18c
   have f18e:Int.toNat ((List.length r4:Int) - 1) < List.length r4:=by omega
   have f19:=h26
   simp [qz1o,-Int.pred_toNat,f17,f18a,f18b,f18d,f18e,f19]
   (repeat' apply And.intro)<;>first | omega | (simp at*<;> omega) | (intro _; intros; simp_all; done) | exact .mk (by simp [-Int.pred_toNat,f17,f18a,f18b,f18d,f18e,f19]<;>first | (intro k hk; rw [qzn _ k (by first | simpa using hk | omega)]; simp)) (by simp [-Int.pred_toNat,f17,f18a,f18b,f18d,f18e,f19]<;>first | (intro k hk; rw [qzn _ k (by first | simpa using hk | omega)]; simp)) rfl
  obtain ⟨h27,h⟩:=h.ck
  obtain ⟨x6,h28,h⟩:=h.at
  refine AW.rS [(8,.int .i64 bits8),(9,slcV 1 (cI .u32) r4),(10,.vec 1 3 0 (List.length l1)),(11,.int .i64 (List.length r4:Int)),(12,.vec 5 1 0 (List.length l5)),(13,.int .i64 j13),(15,.int .u64 (min (((bitI .or .u64 (((x3%18446744073709551616)*4294967296)%18446744073709551616) (x4%18446744073709551616)).tdiv (x5%18446744073709551616))%18446744073709551616) 4294967295)),(16,.int .u64 (((bitI .or .u64 (((x3%18446744073709551616)*4294967296)%18446744073709551616) (x4%18446744073709551616)) - (((min (((bitI .or .u64 (((x3%18446744073709551616)*4294967296)%18446744073709551616) (x4%18446744073709551616)).tdiv (x5%18446744073709551616))%18446744073709551616) 4294967295)*(x6%18446744073709551616))%18446744073709551616))%18446744073709551616))] [(1,.vec 3 1 (List.length l1) (qzd (cI .u32) l1)),(3,.gone 1),(5,.vec 1 1 (List.length l5) (qzd (cI .u32) l5)),(6,.gone ep6),(7,.gone ep7),(9,.gone ep9)] ?_ ?_
  ·have f20:=qzr h27
   obtain ⟨f21a,f21b,f21c⟩:=h28
   have f21d:qzd (cI .u32) r4 (Int.toNat ((List.length r4:Int) - 1))=(cI .u32) x6:=qzo f21c
   have f21e:Int.toNat ((List.length r4:Int) - 1) < List.length r4:=by omega
   simp [qzzm,-Int.pred_toNat,f20,f21a,f21b,f21d,f21e]
   (repeat' apply And.intro)<;>first | omega | (simp at*<;> omega) | (intro _; intros; simp_all; done) | exact .mk (by simp [-Int.pred_toNat,f20,f21a,f21b,f21d,f21e]<;>first | (intro k hk; rw [qzn _ k (by first | simpa using hk | omega)]; simp)) (by simp [-Int.pred_toNat,f20,f21a,f21b,f21d,f21e]<;>first | (intro k hk; rw [qzn _ k (by first | simpa using hk | omega)]; simp)) rfl
  refine .seq ?_
  refine .block ?_
  refine AW.lpF (ε:=Unit) () h.bd (yz7 bits8 j13 l1 l5 r4 ep6 ep7 ep9) (qzaf bits8 j13 l1 l5 r4 ep6 ep7 ep9) (qzfp bits8 j13 l1 l5 r4 ep6 ep7 ep9) (by simp [yz7]) (by simp [qzaf]) rfl ?_ ?_
  ·rintro ⟨guess15,left16⟩ ⟨⟩ QQ h
   exact qzlm bits8 j13 l1 l5 r4 ep6 ep7 ep9 guess15 left16 QQ h
  ·rintro guess15 h ex S' hs
   obtain ⟨rfl,hs⟩:=hs
   refine .see hs ?_
   refine .seq ?_
   refine AW.rS [(8,.int .i64 bits8),(9,slcV 1 (cI .u32) r4),(10,.vec 1 3 0 (List.length l1)),(11,.int .i64 (List.length r4:Int)),(12,.vec 5 1 0 (List.length l5)),(13,.int .i64 j13),(15,.int .u64 guess15),(148,.bool (decide (guess15=0)))] [(1,.vec 3 1 (List.length l1) (qzd (cI .u32) l1)),(3,.gone 1),(5,.vec 1 1 (List.length l5) (qzd (cI .u32) l5)),(6,.gone ep6),(7,.gone ep7),(9,.gone ep9)] ?_ ?_
   ·simp [qz00,-Int.pred_toNat]
    all_goals exact zq1
   refine AW.sub (fun o ex S'=>match o with | .inl ()=>ex=.normal∧See EE S' ⟨tl [(8,.int .i64 bits8),(9,slcV 1 (cI .u32) r4),(10,.vec 1 3 0 (List.length l1)),(11,.int .i64 (List.length r4:Int)),(12,.vec 5 1 0 (List.length l5)),(13,.int .i64 j13),(15,.int .u64 guess15)] 193,hl [(1,.vec 3 1 (List.length l1) (qzd (cI .u32) l1)),(3,.gone 1),(5,.vec 1 1 (List.length l5) (qzd (cI .u32) l5)),(6,.gone ep6),(7,.gone ep7),(9,.gone ep9)],[]⟩ | .inr ()=>ex=.exit 3∧See EE S' ⟨tl [(8,.int .i64 bits8),(9,slcV 1 (cI .u32) r4),(10,.vec 1 3 0 (List.length l1)),(11,.int .i64 (List.length r4:Int)),(12,.vec 5 1 0 (List.length l5)),(13,.int .i64 j13)] 193,hl [(1,.vec 3 1 (List.length l1) (qzd (cI .u32) l1)),(3,.gone 1),(5,.vec 1 1 (List.length l5) (qzd (cI .u32) l5)),(6,.gone ep6),(7,.gone ep7),(9,.gone ep9)],[]⟩) h.bd (fun QQ h=>?_) ?_
   ·refine AW.ifF (decide (guess15=0)) rfl (by simp) (fun e=>?_) (fun e=>?_)
    ·replace h:=h.pos e
     refine .exit ?_
     exact ⟨.inr (),h.some,⟨rfl,(.wk (by simp) (by simp) rfl)⟩⟩
    ·replace h:=h.neg e
     refine AW.skip ?_
     exact ⟨.inl (),h.some,⟨rfl,(.wk (by simp) (by simp) rfl)⟩⟩
   ·intro o h ex S' hs
    rcases o with ⟨⟩ | ⟨⟩
    ·obtain ⟨rfl,hs⟩:=hs
     refine .see hs ?_
     obtain ⟨h36,h⟩:=h.ck
     obtain ⟨h37,h⟩:=h.ck
     obtain ⟨h38,h⟩:=h.ck
     refine AW.rS [(8,.int .i64 bits8),(9,slcV 1 (cI .u32) r4),(10,.vec 1 3 0 (List.length l1)),(11,.int .i64 (List.length r4:Int)),(12,.vec 5 1 0 (List.length l5)),(13,.int .i64 j13),(15,.int .u64 guess15),(17,.vec 1 3 (Int.toNat j13) (Int.toNat (((j13+(List.length r4:Int))+1) - j13)))] [(1,.vec 3 1 (List.length l1) (qzd (cI .u32) l1)),(3,.gone 1),(5,.vec 1 1 (List.length l5) (qzd (cI .u32) l5)),(6,.gone ep6),(7,.gone ep7),(9,.gone ep9)] ?_ ?_
     ·have f29:=qzr h36
      have f30:=qzr h37
      have f31s:=vzn h38
      obtain ⟨f31a,f31b,f31c⟩:=vz4 h38
      simp [qzy5,-Int.pred_toNat,f29,f30,f31s,f31a,f31b,f31c]
      (repeat' apply And.intro)<;>first | omega | (simp at*<;> omega) | (intro _; intros; simp_all; done) | exact .mk (by simp [-Int.pred_toNat,f29,f30,f31s,f31a,f31b,f31c]<;>first | (intro k hk; simpa using kzw (c:=(cI .u32)) h38 k (by omega))) (by simp [-Int.pred_toNat,f29,f30,f31s,f31a,f31b,f31c]<;>first | (intro k hk; simpa using kzw (c:=(cI .u32)) h38 k (by omega))) rfl
     obtain ⟨r7,h39,h⟩:=h.ex
     refine AW.rG [(8,.int .i64 bits8),(9,slcV 1 (cI .u32) r4),(10,.vec 1 3 0 (List.length l1)),(11,.int .i64 (List.length r4:Int)),(12,.vec 5 1 0 (List.length l5)),(13,.int .i64 j13),(15,.int .u64 guess15),(17,.vec 1 3 (Int.toNat j13) (Int.toNat (((j13+(List.length r4:Int))+1) - j13))),(18,slcV 1 (cI .u32) r7)] [(1,.vec 3 1 (List.length l1) (qzd (cI .u32) l1)),(3,.gone 1),(5,.vec 1 1 (List.length l5) (qzd (cI .u32) l5)),(6,.gone (ep6+2)),(7,.gone ep7),(9,.gone ep9)] ?_ ?_
     ·refine SReg.cut 4 [(8,.int .i64 bits8),(9,slcV 1 (cI .u32) r4),(10,.vec 1 3 0 (List.length l1)),(11,.int .i64 (List.length r4:Int)),(12,.vec 5 1 0 (List.length l5)),(13,.int .i64 j13),(15,.int .u64 guess15),(17,.vec 1 3 (Int.toNat j13) (Int.toNat (((j13+(List.length r4:Int))+1) - j13))),(156,slcV 1 (cI .u32) r4),(159,.vec 6 (ep6+1) 0 (List.length [(guess15%4294967296)]))] [(1,.vec 3 1 (List.length l1) (qzd (cI .u32) l1)),(3,.gone 1),(5,.vec 1 1 (List.length l5) (qzd (cI .u32) l5)),(6,.vec (ep6+1) 1 (List.length [(guess15%4294967296)]) (qzd (cI .u32) [(guess15%4294967296)])),(7,.gone ep7),(9,.gone ep9)] ?_ ?_
      ·simp [qzsw,-Int.pred_toNat]
       (repeat' apply And.intro)<;>first | omega | (simp at*<;> omega) | (intro _; intros; simp_all; done) | exact .mk (by simp [-Int.pred_toNat]<;>first | (intro k hk; rw [qzn _ k (by first | simpa using hk | omega)]; simp)) (by simp [-Int.pred_toNat]<;>first | (intro k hk; rw [qzn _ k (by first | simpa using hk | omega)]; simp)) rfl
      refine SReg.frz 6 [(8,.int .i64 bits8),(9,slcV 1 (cI .u32) r4),(10,.vec 1 3 0 (List.length l1)),(11,.int .i64 (List.length r4:Int)),(12,.vec 5 1 0 (List.length l5)),(13,.int .i64 j13),(15,.int .u64 guess15),(17,.vec 1 3 (Int.toNat j13) (Int.toNat (((j13+(List.length r4:Int))+1) - j13))),(156,slcV 1 (cI .u32) r4),(159,slcV 1 (cI .u32) [(guess15%4294967296)])] [(1,.vec 3 1 (List.length l1) (qzd (cI .u32) l1)),(3,.gone 1),(5,.vec 1 1 (List.length l5) (qzd (cI .u32) l5)),(6,.gone (ep6+2)),(7,.gone ep7),(9,.gone ep9)] rfl rfl trivial (by simp) (by simp) rfl ?_
      refine SReg.fin ?_
      simp [qzsw,-Int.pred_toNat]
      (repeat' apply And.intro)<;>try first | omega | (simp at*<;> omega)
      refine (qzbl r4 [(guess15%4294967296)]  _ h39).ca (by simp [-Int.pred_toNat]<;>first | (intro k hk; rw [qzn _ k (by first | simpa using hk | omega)]; simp)) ?_
      (try simp [-Int.pred_toNat])
      (repeat' apply And.intro)<;>first | omega | (simp at*<;> omega) | (intro _; intros; simp_all; done) | exact .mk (by simp [-Int.pred_toNat]<;>first | (intro k hk; rw [qzn _ k (by first | simpa using hk | omega)]; simp)) (by simp [-Int.pred_toNat]<;>first | (intro k hk; rw [qzn _ k (by first | simpa using hk | omega)]; simp)) rfl
     refine .seq ?_
     refine .block ?_
     refine AW.lpF (ε:=Nat) ep7 h.bd (yz3 bits8 j13 l1 l5 r4 ep6 ep9) (yz8 bits8 j13 l1 l5 r4 ep6 ep9) (qzfs bits8 j13 l1 l5 r4 ep6 ep9) (by simp [yz3]) (by simp [yz8]) rfl ?_ ?_
     ·rintro ⟨guess15',product18⟩ ep7' QQ h
      exact qzle bits8 j13 l1 l5 r4 ep6 ep9 guess15' product18 ep7' QQ h
     ·rintro ⟨guess15',product18⟩ h ex S' hs
      obtain ⟨ep7',rfl,hs⟩:=hs
      refine .see hs ?_
      obtain ⟨h45,h⟩:=h.ck
      obtain ⟨r12,h46,h⟩:=h.ex
      obtain ⟨r13,h47,h⟩:=h.ex
      obtain ⟨r14,h48,h⟩:=h.ex
      refine AW.rG [(8,.int .i64 bits8),(9,slcV 1 (cI .u32) r4),(10,.vec 1 3 0 (List.length l1)),(11,.int .i64 (List.length r4:Int)),(12,.vec 5 1 0 (List.length l5)),(13,.int .i64 j13),(15,.int .u64 guess15'),(17,.vec 1 3 (Int.toNat j13) (Int.toNat (((j13+(List.length r4:Int))+1) - j13))),(19,slcV 1 (cI .u32) r14)] [(1,.vec 3 1 (List.length l1) (qzd (cI .u32) l1)),(3,.gone 1),(5,.vec 1 1 (List.length l5) (qzd (cI .u32) l5)),(6,.gone (ep6+2)),(7,.gone ep7'),(9,.gone (ep9+3))] ?_ ?_
      ·refine SReg.cut 2 [(8,.int .i64 bits8),(9,slcV 1 (cI .u32) r4),(10,.vec 1 3 0 (List.length l1)),(11,.int .i64 (List.length r4:Int)),(12,.vec 5 1 0 (List.length l5)),(13,.int .i64 j13),(15,.int .u64 guess15'),(17,.vec 1 3 (Int.toNat j13) (Int.toNat (((j13+(List.length r4:Int))+1) - j13))),(18,slcV 1 (cI .u32) product18),(173,.vec 9 (ep9+2) 0 (List.length r12))] [(1,.vec 3 1 (List.length l1) (qzd (cI .u32) l1)),(3,.gone 1),(5,.vec 1 1 (List.length l5) (qzd (cI .u32) l5)),(6,.gone (ep6+2)),(7,.gone ep7'),(9,.vec (ep9+2) 1 (List.length r12) (qzd (cI .u32) r12))] ?_ ?_
       ·have f33s:=vzn h45
        obtain ⟨f33a,f33b,f33c⟩:=vz4 h45
        simp [qzs3,-Int.pred_toNat,f33s,f33a,f33b,f33c]
        (repeat' apply And.intro)<;>try first | omega | (simp at*<;> omega)
        refine ATr.mono (qzcu 9 (sub l1 j13 ((j13+(List.length r4:Int))+1)) _ h46 _ _ (by simp [hl,qz8]) ?_) ?_
        ·exact (qzaz.view (id:=1) h45 (by simp [hl,qz8]; try rfl) (by decide)).of (by simp [-Int.pred_toNat,f33s,f33a,f33b,f33c])
        rintro v h' ⟨f',rfl,rfl,h46f⟩
        simp [-Int.pred_toNat,f33s,f33a,f33b,f33c]
        (repeat' apply And.intro)<;>first | omega | (simp at*<;> omega) | (intro _; intros; simp_all; done) | exact .mk (by simp [-Int.pred_toNat,f33s,f33a,f33b,f33c]<;>first | (intro k hk; exact h46f k (by simpa using hk)) | (intro k hk; simpa using kzw (c:=(cI .u32)) h45 k (by omega))) (by simp [-Int.pred_toNat,f33s,f33a,f33b,f33c]<;>first | (intro k hk; exact h46f k (by simpa using hk)) | (intro k hk; simpa using kzw (c:=(cI .u32)) h45 k (by omega))) rfl
       refine SReg.frz 9 [(8,.int .i64 bits8),(9,slcV 1 (cI .u32) r4),(10,.vec 1 3 0 (List.length l1)),(11,.int .i64 (List.length r4:Int)),(12,.vec 5 1 0 (List.length l5)),(13,.int .i64 j13),(15,.int .u64 guess15'),(17,.vec 1 3 (Int.toNat j13) (Int.toNat (((j13+(List.length r4:Int))+1) - j13))),(18,slcV 1 (cI .u32) product18),(173,slcV 1 (cI .u32) r12)] [(1,.vec 3 1 (List.length l1) (qzd (cI .u32) l1)),(3,.gone 1),(5,.vec 1 1 (List.length l5) (qzd (cI .u32) l5)),(6,.gone (ep6+2)),(7,.gone ep7'),(9,.gone (ep9+3))] rfl rfl trivial (by simp) (by simp) rfl ?_
       refine SReg.fin ?_
       simp [qzs3,-Int.pred_toNat]
       (repeat' apply And.intro)<;>try first | omega | (simp at*<;> omega)
       refine (qz4 r12  _ h47).ca (by simp [-Int.pred_toNat]) ?_
       (try simp [-Int.pred_toNat])
       (repeat' apply And.intro)<;>try first | omega | (simp at*<;> omega)
       refine (qzbu r13 product18  _ h48).ca (by simp [-Int.pred_toNat]) ?_
       (try simp [-Int.pred_toNat])
       all_goals exact zq1
      obtain ⟨h49,h⟩:=h.ck
      refine AW.rS [(8,.int .i64 bits8),(9,slcV 1 (cI .u32) r4),(10,.vec 1 3 0 (List.length (qzy l1 (Int.toNat j13) (List.replicate (Int.toNat (((j13+(List.length r4:Int))+1) - j13)) 0)))),(11,.int .i64 (List.length r4:Int)),(12,.vec 5 1 0 (List.length l5)),(13,.int .i64 j13),(15,.int .u64 guess15'),(17,.vec 1 3 (Int.toNat j13) (Int.toNat (((j13+(List.length r4:Int))+1) - j13))),(19,slcV 1 (cI .u32) r14)] [(1,.vec 3 1 (List.length (qzy l1 (Int.toNat j13) (List.replicate (Int.toNat (((j13+(List.length r4:Int))+1) - j13)) 0))) (qzd (cI .u32) (qzy l1 (Int.toNat j13) (List.replicate (Int.toNat (((j13+(List.length r4:Int))+1) - j13)) 0)))),(3,.gone 1),(5,.vec 1 1 (List.length l5) (qzd (cI .u32) l5)),(6,.gone (ep6+2)),(7,.gone ep7'),(9,.gone (ep9+3))] ?_ ?_
      ·have f34s:=vzn h49
       obtain ⟨f34a,f34b,f34c⟩:=vz4 h49
       have fp1:Int.toNat j13+List.length ((List.replicate (Int.toNat (((j13+(List.length r4:Int))+1) - j13)) 0):List Int)≤List.length l1:=by simp; omega
       have fp1l:=qzc1 fp1
       simp [qz22,-Int.pred_toNat,f34s,f34a,f34b,f34c,fp1l]
       (repeat' apply And.intro)<;>first | omega | (simp at*<;> omega) | (intro _; intros; simp_all; done) | exact .mk (by simp [-Int.pred_toNat,f34s,f34a,f34b,f34c,fp1l]<;>first | (intro k hk; rw [qzf6 fp1]; (try simp only [List.length_replicate,List.length_take]); split<;>split<;>first | exact .refl _ | (exfalso; omega) | (rw [qzfj (by omega)]; exact .refl _) | (rw [kzl (by omega)]; exact .refl _)) | (intro k hk; simpa using kzw (c:=(cI .u32)) h49 k (by omega))) (by simp [-Int.pred_toNat,f34s,f34a,f34b,f34c,fp1l]<;>first | (intro k hk; rw [qzf6 fp1]; (try simp only [List.length_replicate,List.length_take]); split<;>split<;>first | exact .refl _ | (exfalso; omega) | (rw [qzfj (by omega)]; exact .refl _) | (rw [kzl (by omega)]; exact .refl _)) | (intro k hk; simpa using kzw (c:=(cI .u32)) h49 k (by omega))) rfl
      obtain ⟨h51,h⟩:=h.ck
      refine AW.rS [(8,.int .i64 bits8),(9,slcV 1 (cI .u32) r4),(10,.vec 1 3 0 (List.length (qzy (qzy l1 (Int.toNat j13) (List.replicate (Int.toNat (((j13+(List.length r4:Int))+1) - j13)) 0)) (Int.toNat j13) (List.take (Int.toNat (((j13+(List.length r4:Int))+1) - j13)) r14)))),(11,.int .i64 (List.length r4:Int)),(12,.vec 5 1 0 (List.length l5)),(13,.int .i64 j13),(15,.int .u64 guess15')] [(1,.vec 3 1 (List.length (qzy (qzy l1 (Int.toNat j13) (List.replicate (Int.toNat (((j13+(List.length r4:Int))+1) - j13)) 0)) (Int.toNat j13) (List.take (Int.toNat (((j13+(List.length r4:Int))+1) - j13)) r14))) (qzd (cI .u32) (qzy (qzy l1 (Int.toNat j13) (List.replicate (Int.toNat (((j13+(List.length r4:Int))+1) - j13)) 0)) (Int.toNat j13) (List.take (Int.toNat (((j13+(List.length r4:Int))+1) - j13)) r14)))),(3,.gone 1),(5,.vec 1 1 (List.length l5) (qzd (cI .u32) l5)),(6,.gone (ep6+2)),(7,.gone ep7'),(9,.gone (ep9+3))] ?_ ?_
      ·have f35s:=vzn h51
       obtain ⟨f35a,f35b,f35c⟩:=vz4 h51
       have fp2:Int.toNat j13+List.length ((List.take (Int.toNat (((j13+(List.length r4:Int))+1) - j13)) r14):List Int)≤List.length (qzy l1 (Int.toNat j13) (List.replicate (Int.toNat (((j13+(List.length r4:Int))+1) - j13)) 0)):=by simp; omega
       have fp2l:=qzc1 fp2
       simp [qz0b,-Int.pred_toNat,f35s,f35a,f35b,f35c,fp2l]
       (repeat' apply And.intro)<;>first | omega | (simp at*<;> omega) | (intro _; intros; simp_all; done) | exact .mk (by simp [-Int.pred_toNat,f35s,f35a,f35b,f35c,fp2l]<;>first | (intro k hk; rw [qzf6 fp2]; (try simp only [List.length_replicate,List.length_take]); split<;>split<;>first | exact .refl _ | (exfalso; omega) | (rw [qzfj (by omega)]; exact .refl _) | (rw [kzl (by omega)]; exact .refl _)) | (intro k hk; simpa using kzw (c:=(cI .u32)) h51 k (by omega))) (by simp [-Int.pred_toNat,f35s,f35a,f35b,f35c,fp2l]<;>first | (intro k hk; rw [qzf6 fp2]; (try simp only [List.length_replicate,List.length_take]); split<;>split<;>first | exact .refl _ | (exfalso; omega) | (rw [qzfj (by omega)]; exact .refl _) | (rw [kzl (by omega)]; exact .refl _)) | (intro k hk; simpa using kzw (c:=(cI .u32)) h51 k (by omega))) rfl
      obtain ⟨x10,h53,h⟩:=h.at
      refine AW.rE [(8,.int .i64 bits8),(9,slcV 1 (cI .u32) r4),(10,.vec 1 3 0 (List.length (qzy (qzy l1 (Int.toNat j13) (List.replicate (Int.toNat (((j13+(List.length r4:Int))+1) - j13)) 0)) (Int.toNat j13) (List.take (Int.toNat (((j13+(List.length r4:Int))+1) - j13)) r14)))),(11,.int .i64 (List.length r4:Int)),(12,.vec 5 1 0 (List.length (List.set l5 (Int.toNat j13) (guess15'%4294967296)))),(13,.int .i64 j13)] [(1,.vec 3 1 (List.length (qzy (qzy l1 (Int.toNat j13) (List.replicate (Int.toNat (((j13+(List.length r4:Int))+1) - j13)) 0)) (Int.toNat j13) (List.take (Int.toNat (((j13+(List.length r4:Int))+1) - j13)) r14))) (qzd (cI .u32) (qzy (qzy l1 (Int.toNat j13) (List.replicate (Int.toNat (((j13+(List.length r4:Int))+1) - j13)) 0)) (Int.toNat j13) (List.take (Int.toNat (((j13+(List.length r4:Int))+1) - j13)) r14)))),(3,.gone 1),(5,.vec 1 1 (List.length (List.set l5 (Int.toNat j13) (guess15'%4294967296))) (qzd (cI .u32) (List.set l5 (Int.toNat j13) (guess15'%4294967296)))),(6,.gone (ep6+2)),(7,.gone ep7'),(9,.gone (ep9+3))] ?_ (fun S' hs4=>?_)
      ·obtain ⟨f36a,f36b,f36c⟩:=h53
       have f36d:qzd (cI .u32) l5 (Int.toNat j13)=(cI .u32) x10:=qzo f36c
       have f36e:Int.toNat j13 < List.length l5:=by omega
       simp [qz1t,-Int.pred_toNat,f36a,f36b,f36d,f36e]
       (repeat' apply And.intro)<;>first | omega | (simp at*<;> omega) | (intro _; intros; simp_all; done) | exact .mk (by simp [-Int.pred_toNat,f36a,f36b,f36d,f36e]<;>first | (intro k hk; split<;>simp) | (intro k hk; rw [qzn _ k (by first | simpa using hk | omega)]; simp)) (by simp [-Int.pred_toNat,f36a,f36b,f36d,f36e]<;>first | (intro k hk; split<;>simp) | (intro k hk; rw [qzn _ k (by first | simpa using hk | omega)]; simp)) rfl
      refine .see hs4 ?_
      obtain ⟨h55,h⟩:=h.ck
      refine AW.rE [(8,.int .i64 bits8),(9,slcV 1 (cI .u32) r4),(10,.vec 1 3 0 (List.length (qzy (qzy l1 (Int.toNat j13) (List.replicate (Int.toNat (((j13+(List.length r4:Int))+1) - j13)) 0)) (Int.toNat j13) (List.take (Int.toNat (((j13+(List.length r4:Int))+1) - j13)) r14)))),(11,.int .i64 (List.length r4:Int)),(12,.vec 5 1 0 (List.length (List.set l5 (Int.toNat j13) (guess15'%4294967296)))),(13,.int .i64 (j13 - 1))] [(1,.vec 3 1 (List.length (qzy (qzy l1 (Int.toNat j13) (List.replicate (Int.toNat (((j13+(List.length r4:Int))+1) - j13)) 0)) (Int.toNat j13) (List.take (Int.toNat (((j13+(List.length r4:Int))+1) - j13)) r14))) (qzd (cI .u32) (qzy (qzy l1 (Int.toNat j13) (List.replicate (Int.toNat (((j13+(List.length r4:Int))+1) - j13)) 0)) (Int.toNat j13) (List.take (Int.toNat (((j13+(List.length r4:Int))+1) - j13)) r14)))),(3,.gone 1),(5,.vec 1 1 (List.length (List.set l5 (Int.toNat j13) (guess15'%4294967296))) (qzd (cI .u32) (List.set l5 (Int.toNat j13) (guess15'%4294967296)))),(6,.gone (ep6+2)),(7,.gone ep7'),(9,.gone (ep9+3))] ?_ (fun S' hs5=>?_)
      ·have f37:=qzr h55
       simp [qzsz,-Int.pred_toNat,f37]
       (repeat' apply And.intro)<;>first | omega | (simp at*<;> omega) | (intro _; intros; simp_all; done) | exact .mk (by simp [-Int.pred_toNat,f37]) (by simp [-Int.pred_toNat,f37]) rfl
      exact .inl ⟨((j13 - 1),(qzy (qzy l1 (Int.toNat j13) (List.replicate (Int.toNat (((j13+(List.length r4:Int))+1) - j13)) 0)) (Int.toNat j13) (List.take (Int.toNat (((j13+(List.length r4:Int))+1) - j13)) r14)),(List.set l5 (Int.toNat j13) (guess15'%4294967296))),((ep6+2),ep7',(ep9+3)),rfl,h.some,(hs5.trans (.wk (by simp [vzc]) (by simp [vza]) rfl))⟩
    ·obtain ⟨rfl,hs⟩:=hs
     refine .see hs ?_
     obtain ⟨h56,h⟩:=h.ck
     refine AW.rE [(8,.int .i64 bits8),(9,slcV 1 (cI .u32) r4),(10,.vec 1 3 0 (List.length l1)),(11,.int .i64 (List.length r4:Int)),(12,.vec 5 1 0 (List.length l5)),(13,.int .i64 (j13 - 1))] [(1,.vec 3 1 (List.length l1) (qzd (cI .u32) l1)),(3,.gone 1),(5,.vec 1 1 (List.length l5) (qzd (cI .u32) l5)),(6,.gone ep6),(7,.gone ep7),(9,.gone ep9)] ?_ (fun S' hs6=>?_)
     ·have f38:=qzr h56
      simp [qzsz,-Int.pred_toNat,f38]
      (repeat' apply And.intro)<;>first | omega | (simp at*<;> omega) | (intro _; intros; simp_all; done) | exact .mk (by simp [-Int.pred_toNat,f38]) (by simp [-Int.pred_toNat,f38]) rfl
     exact .inl ⟨((j13 - 1),l1,l5),(ep6,ep7,ep9),rfl,h.some,(hs6.trans (.wk (by simp [vzc]) (by simp [vza]) rfl))⟩
 ·replace h:=h.neg e
  refine .exit ?_
  exact .inr ⟨(l1,l5),h.some,by simp,⟨ep6,ep7,ep9,rfl,(.wk (by simp) (by simp) rfl)⟩⟩
abbrev qzad (x0:List Int) (y1:List Int) (s:Int) (ex:Unit):List (Nat×AVal):=match s,ex with | bits8,()=>[(0,slcV 1 (cI .u32) x0),(1,slcV 1 (cI .u32) y1),(8,.int .i64 bits8)]
abbrev yz6 (x0:List Int) (y1:List Int) (s:Int) (ex:Unit):List (Nat×AObj):=match s,ex with | bits8,()=>[]
abbrev qzfo (x0:List Int) (y1:List Int):Int→Exit→ASt→Prop:=fun o ex S'=>match o with | bits8=>ex=.exit 0∧See EE S' ⟨tl [(0,slcV 1 (cI .u32) x0),(1,slcV 1 (cI .u32) y1),(8,.int .i64 bits8)] 193,hl [],[]⟩
theorem qzlo (x0:List Int) (y1:List Int) (bits8:Int) (QQ:Int⊕Int→Prop) (h:Ok (kzx y1 bits8) QQ):AW EE none Tryz.prog (qz7x 0) (fun ex S'=>(∃ s' e',ex=.normal∧QQ (.inl s')∧See EE S' ⟨tl ((qzad x0 y1) s' e') 193,hl ((yz6 x0 y1) s' e'),[]⟩)∨(∃ o,QQ (.inr o)∧ex≠.normal∧(qzfo x0 y1) o ex S')) ⟨tl [(0,slcV 1 (cI .u32) x0),(1,slcV 1 (cI .u32) y1),(8,.int .i64 bits8)] 193,hl [],[]⟩:=by
 unfold kzx at h
 refine .seq ?_
 obtain ⟨h5,h⟩:=h.ck
 obtain ⟨x2,h6,h⟩:=h.at
 obtain ⟨h7,h⟩:=h.ck
 refine AW.rS [(0,slcV 1 (cI .u32) x0),(1,slcV 1 (cI .u32) y1),(8,.int .i64 bits8),(48,.bool (decide (((x2*2 ^ min (Int.toNat bits8) 32)%4294967296) < 2147483648)))] [] ?_ ?_
 ·have f2:=qzr h5
  obtain ⟨f3a,f3b,f3c⟩:=h6
  have f3d:qzd (cI .u32) y1 (Int.toNat ((List.length y1:Int) - 1))=(cI .u32) x2:=qzo f3c
  have f3e:Int.toNat ((List.length y1:Int) - 1) < List.length y1:=by omega
  have f4:=h7
  simp [qz4s,-Int.pred_toNat,f2,f3a,f3b,f3d,f3e,f4]
  (repeat' apply And.intro)<;>first | omega | (simp at*<;> omega) | (intro _; intros; simp_all; done) | exact .mk (by simp [-Int.pred_toNat,f2,f3a,f3b,f3d,f3e,f4]) (by simp [-Int.pred_toNat,f2,f3a,f3b,f3d,f3e,f4]) rfl
 refine AW.ifF (decide (((x2*2 ^ min (Int.toNat bits8) 32)%4294967296) < 2147483648)) rfl (by simp) (fun e=>?_) (fun e=>?_)
 ·replace h:=h.pos e
  refine AW.skip ?_
  refine .block ?_
  obtain ⟨h8,h⟩:=h.ck
  refine AW.rE [(0,slcV 1 (cI .u32) x0),(1,slcV 1 (cI .u32) y1),(8,.int .i64 (bits8+1))] [] ?_ (fun S' hs1=>?_)
  ·have f5:=qzr h8
   simp [wzaf,-Int.pred_toNat,f5]
   (repeat' apply And.intro)<;>first | omega | (simp at*<;> omega) | (intro _; intros; simp_all; done) | exact .mk (by simp [-Int.pred_toNat,f5]) (by simp [-Int.pred_toNat,f5]) rfl
  exact .inl ⟨(bits8+1),(),rfl,h.some,(hs1.trans (.wk (by simp [qzad]) (by simp [yz6]) rfl))⟩
 ·replace h:=h.neg e
  refine .exit ?_
  exact .inr ⟨bits8,h.some,by simp,⟨rfl,(.wk (by simp) (by simp) rfl)⟩⟩
theorem qzhc (x0:List Int) (y1:List Int)  (r:(List Int)×(List Int)) (h:kzf x0 y1=some r):qzq EE Tryz.prog 93 [slcV 1 (cI .u32) x0,slcV 1 (cI .u32) y1] (.tup [slcV 1 (cI .u32) r.1,slcV 1 (cI .u32) r.2]):=by
 refine Pure.still ?_ hEE (by simp [-qzh,(fun l=>qzj (st:=1) (c:=(cI .u32)) (l:=l) (fun a=>qz1 (n:=a)))]<;>assumption) (by simp [-qzh,(fun l=>qzj (st:=1) (c:=(cI .u32)) (l:=l) (fun a=>qz1 (n:=a)))])
 obtain ⟨c,hb,hc⟩:=ck93
 replace h:=Ok.of h; unfold kzf at h
 refine Pure.ofs (fn:=Tryz.f93) (n:=193) rfl hb cr93 (hc 0) rfl rfl (by simp) ?_
 refine AW.rS [(0,slcV 1 (cI .u32) x0),(1,slcV 1 (cI .u32) y1)] [] ?_ ?_
 ·simp [qz90,-Int.pred_toNat]
  all_goals exact zq1
 refine .scope ?_
 refine .seq ?_
 obtain ⟨r1,h1,h⟩:=h.ex
 refine AW.rS [(0,slcV 1 (cI .u32) x0),(1,slcV 1 (cI .u32) y1),(23,.bool (decide (r1 < 0)))] [] ?_ ?_
 ·simp [wzbv,-Int.pred_toNat]
  (repeat' apply And.intro)<;>try first | omega | (simp at*<;> omega)
  refine (vzq x0 y1  _ h1).ca (by simp [-Int.pred_toNat]) ?_
  (try simp [-Int.pred_toNat])
  all_goals exact zq1
 refine AW.ifF (decide (r1 < 0)) rfl (by simp) (fun e=>?_) (fun e=>?_)
 ·replace h:=h.pos e
  refine AW.rS [(4,.nils),(5,slcV 1 (cI .u32) x0)] [] ?_ ?_
  ·simp [wzaa,-Int.pred_toNat]
   all_goals exact zq1
  have hr:=h.some
  subst hr
  refine AW.rt (rs:=rs93) [(4,slcV 1 (cI .u32) []),(5,slcV 1 (cI .u32) x0)] [] (by simp) (by simp) rfl rfl (by simp [rs93]) (by simp [rs93]; try rfl)
 ·replace h:=h.neg e
  refine AW.skip ?_
  refine .seq ?_
  refine AW.rS [(0,slcV 1 (cI .u32) x0),(1,slcV 1 (cI .u32) y1),(27,.bool (decide ((List.length y1:Int)=1)))] [] ?_ ?_
  ·simp [qz9p,-Int.pred_toNat]
   all_goals exact zq1
  refine AW.ifF (decide ((List.length y1:Int)=1)) rfl (by simp) (fun e=>?_) (fun e=>?_)
  ·replace h:=h.pos e
   obtain ⟨x1,h2,h⟩:=h.at
   obtain ⟨r2,h3,h⟩:=h.ex
   refine AW.rS [(6,slcV 1 (cI .u32) r2.1),(7,.int .u32 r2.2)] [] ?_ ?_
   ·obtain ⟨f1a,f1b,f1c⟩:=h2
    have f1d:qzd (cI .u32) y1 (0)=(cI .u32) x1:=qzo f1c
    have f1e:0 < List.length y1:=by omega
    simp [qz8e,-Int.pred_toNat,f1a,f1b,f1d,f1e]
    (repeat' apply And.intro)<;>try first | omega | (simp at*<;> omega)
    refine (qzez x0 x1  _ h3).ca (by simp [-Int.pred_toNat,f1a,f1b,f1d,f1e]) ?_
    (try simp [-Int.pred_toNat,f1a,f1b,f1d,f1e])
    (repeat' apply And.intro)<;>first | omega | (simp at*<;> omega) | (intro _; intros; simp_all; done) | exact .mk (by simp [-Int.pred_toNat,f1a,f1b,f1d,f1e]) (by simp [-Int.pred_toNat,f1a,f1b,f1d,f1e]) rfl
   obtain ⟨r3,h4,h⟩:=h.ex
   refine AW.rG [(4,slcV 1 (cI .u32) r2.1),(5,slcV 1 (cI .u32) r3)] [(0,.gone 2)] ?_ ?_
   ·refine SReg.cut 3 [(36,slcV 1 (cI .u32) r2.1),(38,.vec 0 1 0 (List.length [r2.2]))] [(0,.vec 1 1 (List.length [r2.2]) (qzd (cI .u32) [r2.2]))] ?_ ?_
    ·simp [qzwe,-Int.pred_toNat]
     all_goals exact zq1
    refine SReg.frz 0 [(36,slcV 1 (cI .u32) r2.1),(38,slcV 1 (cI .u32) [r2.2])] [(0,.gone 2)] rfl rfl trivial (by simp) (by simp) rfl ?_
    refine SReg.fin ?_
    simp [qzwe,-Int.pred_toNat]
    (repeat' apply And.intro)<;>try first | omega | (simp at*<;> omega)
    refine (qz4 [r2.2]  _ h4).ca (by simp [-Int.pred_toNat]) ?_
    (try simp [-Int.pred_toNat])
    all_goals exact zq1
   have hr:=h.some
   subst hr
   refine AW.rt (rs:=rs93) [(4,slcV 1 (cI .u32) r2.1),(5,slcV 1 (cI .u32) r3)] [(0,.gone 2)] (by simp) (by simp) rfl rfl (by simp [rs93]) (by simp [rs93]; try rfl)
  ·replace h:=h.neg e
   refine AW.skip ?_
   refine AW.rS [(0,slcV 1 (cI .u32) x0),(1,slcV 1 (cI .u32) y1),(8,.int .i64 0)] [] ?_ ?_
   ·simp [wzal,-Int.pred_toNat]
    all_goals exact zq1
   refine .seq ?_
   refine .block ?_
   refine AW.lpF (ε:=Unit) () h.bd (qzad x0 y1) (yz6 x0 y1) (qzfo x0 y1) (by simp [qzad]) (by simp [yz6]) rfl ?_ ?_
   ·rintro bits8 ⟨⟩ QQ h
    exact qzlo x0 y1 bits8 QQ h
   ·rintro bits8 h ex S' hs
    obtain ⟨rfl,hs⟩:=hs
    refine .see hs ?_
    obtain ⟨r4,h9,h⟩:=h.ex
    refine AW.rS [(0,slcV 1 (cI .u32) x0),(8,.int .i64 bits8),(9,slcV 1 (cI .u32) r4)] [] ?_ ?_
    ·simp [wzce,-Int.pred_toNat]
     (repeat' apply And.intro)<;>try first | omega | (simp at*<;> omega)
     refine (qzbn y1 bits8  _ h9).ca (by simp [-Int.pred_toNat]) ?_
     (try simp [-Int.pred_toNat])
     all_goals exact zq1
    obtain ⟨r5,h10,h⟩:=h.ex
    obtain ⟨r6,h11,h⟩:=h.ex
    obtain ⟨h12,h⟩:=h.ck
    refine AW.rS [(0,slcV 1 (cI .u32) x0),(8,.int .i64 bits8),(9,slcV 1 (cI .u32) r4),(10,.vec 1 3 0 (List.length (r6++[0,0])))] [(1,.vec 3 1 (List.length (r6++[0,0])) (qzd (cI .u32) (r6++[0,0]))),(3,.gone 1)] ?_ ?_
    ·have f6:=h12
     have f6m:=f6
     (try simp [-Int.pred_toNat] at f6m)
     simp [qz2e,-Int.pred_toNat,f6,f6m]
     (repeat' apply And.intro)<;>try first | omega | (simp at*<;> omega)
     refine (qzbn x0 bits8  _ h10).ca (by simp [-Int.pred_toNat,f6,f6m]<;>first | (intro k hk; exact h11f k (by simpa using hk)) | (intro k hk; rw [yzt]; split<;>rename_i hk2; (first | exact .refl _ | exact h11f k hk2); have hj:k - List.length r6 < 2:=(by first | omega | (simp at hk; omega)); revert hj; generalize k - List.length r6=j; revert j; simp<;>((repeat' apply And.intro)<;>exact .refl _))) ?_
     (try simp [-Int.pred_toNat,f6,f6m])
     (repeat' apply And.intro)<;>try first | omega | (simp at*<;> omega)
     refine ATr.mono (qzcu 1 r5 _ h11 _ _ (by simp [hl,qz8]) ?_) ?_
     ·exact .inl ⟨_,rfl,by simp<;>first | (intro k hk; exact h11f k (by simpa using hk)) | (intro k hk; rw [yzt]; split<;>rename_i hk2; (first | exact .refl _ | exact h11f k hk2); have hj:k - List.length r6 < 2:=(by first | omega | (simp at hk; omega)); revert hj; generalize k - List.length r6=j; revert j; simp<;>((repeat' apply And.intro)<;>exact .refl _))⟩
     rintro v h' ⟨f',rfl,rfl,h11f⟩
     simp [-Int.pred_toNat,f6,f6m]
     (repeat' apply And.intro)<;>first | omega | (simp at*<;> omega) | (intro _; intros; simp_all; done) | exact .mk (by simp [-Int.pred_toNat,f6,f6m]<;>first | (intro k hk; exact h11f k (by simpa using hk)) | (intro k hk; rw [yzt]; split<;>rename_i hk2; (first | exact .refl _ | exact h11f k hk2); have hj:k - List.length r6 < 2:=(by first | omega | (simp at hk; omega)); revert hj; generalize k - List.length r6=j; revert j; simp<;>((repeat' apply And.intro)<;>exact .refl _))) (by simp [-Int.pred_toNat,f6,f6m]<;>first | (intro k hk; exact h11f k (by simpa using hk)) | (intro k hk; rw [yzt]; split<;>rename_i hk2; (first | exact .refl _ | exact h11f k hk2); have hj:k - List.length r6 < 2:=(by first | omega | (simp at hk; omega)); revert hj; generalize k - List.length r6=j; revert j; simp<;>((repeat' apply And.intro)<;>exact .refl _))) rfl
    refine AW.rS [(0,slcV 1 (cI .u32) x0),(8,.int .i64 bits8),(9,slcV 1 (cI .u32) r4),(10,.vec 1 3 0 (List.length (r6++[0,0]))),(11,.int .i64 (List.length r4:Int))] [(1,.vec 3 1 (List.length (r6++[0,0])) (qzd (cI .u32) (r6++[0,0]))),(3,.gone 1)] ?_ ?_
    ·simp [qzx7,-Int.pred_toNat]
     all_goals exact zq1
    obtain ⟨h14,h⟩:=h.ck
    obtain ⟨h15,h⟩:=h.ck
    obtain ⟨h16,h⟩:=h.ck
    refine AW.rS [(8,.int .i64 bits8),(9,slcV 1 (cI .u32) r4),(10,.vec 1 3 0 (List.length (r6++[0,0]))),(11,.int .i64 (List.length r4:Int)),(12,.vec 5 1 0 (List.length (List.replicate (Int.toNat (((List.length x0:Int) - (List.length r4:Int))+2)) 0)))] [(1,.vec 3 1 (List.length (r6++[0,0])) (qzd (cI .u32) (r6++[0,0]))),(3,.gone 1),(5,.vec 1 1 (List.length (List.replicate (Int.toNat (((List.length x0:Int) - (List.length r4:Int))+2)) 0)) (qzd (cI .u32) (List.replicate (Int.toNat (((List.length x0:Int) - (List.length r4:Int))+2)) 0)))] ?_ ?_
    ·have f7:=qzr h14
     have f8:=qzr h15
     obtain ⟨f9a,f9b⟩:=qztk h16
     simp [qzxy,-Int.pred_toNat,f7,f8,f9a,f9b]
     (repeat' apply And.intro)<;>first | omega | (simp at*<;> omega) | (intro _; intros; simp_all; done) | exact .mk (by simp [-Int.pred_toNat,f7,f8,f9a,f9b]<;>first | (intro k hk; rw [kzl (by simpa using hk)]; simp)) (by simp [-Int.pred_toNat,f7,f8,f9a,f9b]<;>first | (intro k hk; rw [kzl (by simpa using hk)]; simp)) rfl
    refine .seq ?_
    refine AW.label ?_
    refine .seq ?_
    obtain ⟨h17,h⟩:=h.ck
    obtain ⟨h18,h⟩:=h.ck
    refine AW.rS [(8,.int .i64 bits8),(9,slcV 1 (cI .u32) r4),(10,.vec 1 3 0 (List.length (r6++[0,0]))),(11,.int .i64 (List.length r4:Int)),(12,.vec 5 1 0 (List.length (List.replicate (Int.toNat (((List.length x0:Int) - (List.length r4:Int))+2)) 0))),(13,.int .i64 (((List.length (r6++[0,0]):Int) - (List.length r4:Int)) - 1))] [(1,.vec 3 1 (List.length (r6++[0,0])) (qzd (cI .u32) (r6++[0,0]))),(3,.gone 1),(5,.vec 1 1 (List.length (List.replicate (Int.toNat (((List.length x0:Int) - (List.length r4:Int))+2)) 0)) (qzd (cI .u32) (List.replicate (Int.toNat (((List.length x0:Int) - (List.length r4:Int))+2)) 0)))] ?_ ?_
    ·have f10:=qzr h17
     have f10m:=f10
     (try simp [-Int.pred_toNat] at f10m)
     have f11:=qzr h18
     have f11m:=f11
     (try simp [-Int.pred_toNat] at f11m)
     simp [qz1e,-Int.pred_toNat,f10,f10m,f11,f11m]
     (repeat' apply And.intro)<;>first | omega | (simp at*<;> omega) | (intro _; intros; simp_all; done) | exact .mk (by simp [-Int.pred_toNat,f10,f10m,f11,f11m]) (by simp [-Int.pred_toNat,f10,f10m,f11,f11m]) rfl
    refine .block ?_
    refine AW.lpF (ε:=Nat×Nat×Nat) (0,0,0) h.bd (vzc bits8 r4) (vza bits8 r4) (qzfn bits8 r4) (by simp [vzc]) (by simp [vza]) rfl ?_ ?_
    ·rintro ⟨j13,l1,l5⟩ ⟨ep6,ep7,ep9⟩ QQ h
     exact qzk1 bits8 r4 j13 l1 l5 ep6 ep7 ep9 QQ h
    ·rintro ⟨l1,l5⟩ h ex S' hs
     obtain ⟨ep6,ep7,ep9,rfl,hs⟩:=hs
     refine .see hs ?_
     refine AW.frz 5 [(8,.int .i64 bits8),(10,.vec 1 3 0 (List.length l1)),(12,slcV 1 (cI .u32) l5)] [(1,.vec 3 1 (List.length l1) (qzd (cI .u32) l1)),(3,.gone 1),(5,.gone 2),(6,.gone ep6),(7,.gone ep7),(9,.gone ep9)] rfl rfl trivial (by simp) (by simp) rfl ?_
     refine AW.frz 1 [(8,.int .i64 bits8),(10,slcV 1 (cI .u32) l1),(12,slcV 1 (cI .u32) l5)] [(1,.gone 4),(3,.gone 1),(5,.gone 2),(6,.gone ep6),(7,.gone ep7),(9,.gone ep9)] rfl rfl trivial (by simp) (by simp) rfl ?_
     obtain ⟨r15,h57,h⟩:=h.ex
     obtain ⟨r16,h58,h⟩:=h.ex
     obtain ⟨h59,h⟩:=h.ck
     obtain ⟨r17,h60,h⟩:=h.ex
     refine AW.rS [(4,slcV 1 (cI .u32) r15),(5,slcV 1 (cI .u32) r17)] [(1,.gone 4),(3,.gone 1),(5,.gone 2),(6,.gone ep6),(7,.gone ep7),(9,.gone ep9)] ?_ ?_
     ·have f39:=qzr h59
      simp [qz2d,-Int.pred_toNat,f39]
      (repeat' apply And.intro)<;>try first | omega | (simp at*<;> omega)
      refine (qz4 l5  _ h57).ca (by simp [-Int.pred_toNat,f39]) ?_
      (try simp [-Int.pred_toNat,f39])
      (repeat' apply And.intro)<;>try first | omega | (simp at*<;> omega)
      refine (qz4 l1  _ h58).ca (by simp [-Int.pred_toNat,f39]) ?_
      (try simp [-Int.pred_toNat,f39])
      (repeat' apply And.intro)<;>try first | omega | (simp at*<;> omega)
      refine (qzbn r16 (-bits8)  _ h60).ca (by simp [-Int.pred_toNat,f39]) ?_
      (try simp [-Int.pred_toNat,f39])
      (repeat' apply And.intro)<;>first | omega | (simp at*<;> omega) | (intro _; intros; simp_all; done) | exact .mk (by simp [-Int.pred_toNat,f39]) (by simp [-Int.pred_toNat,f39]) rfl
     have hr:=h.some
     subst hr
     refine AW.rt (rs:=rs93) [(4,slcV 1 (cI .u32) r15),(5,slcV 1 (cI .u32) r17)] [(1,.gone 4),(3,.gone 1),(5,.gone 2),(6,.gone ep6),(7,.gone ep7),(9,.gone ep9)] (by simp) (by simp) rfl rfl (by simp [rs93]) (by simp [rs93]; try rfl)
def k93:Fc:=⟨93,[(.slc (.int .u32)),(.slc (.int .u32))],[false,false],[(.slc (.int .u32)),(.slc (.int .u32))],fun x=>kzf x.1 x.2⟩
theorem y93:FcOk EE Tryz.prog k93:=⟨by kernel_rfl,fun x _ h=>(qzhc x.1 x.2 _ h).cast (by kernel_rfl)⟩
abbrev vz9 (x0:List Int) (s:Int×(List Int)) (ex:Nat×Nat):List (Nat×AVal):=match s,ex with | (t8,l1),(ep0,ep1)=>[(3,ownV 1 ep1 l1),(6,slcV 1 (cI .u32) x0),(7,.int .i64 (List.length x0:Int)),(8,.int .i64 t8)]
abbrev yza (x0:List Int) (s:Int×(List Int)) (ex:Nat×Nat):List (Nat×AObj):=match s,ex with | (t8,l1),(ep0,ep1)=>[(0,.gone ep0),(1,ownO ep1 1 (cI .u8) l1)]
abbrev qzel (x0:List Int):(List Int)→Exit→ASt→Prop:=fun o ex S'=>match o with | l1=>∃ ep0:Nat,∃ ep1:Nat,ex=.exit 0∧See EE S' ⟨tl [(3,ownV 1 ep1 l1)] 32,hl [(0,.gone ep0),(1,ownO ep1 1 (cI .u8) l1)],[]⟩
theorem qzjd (x0:List Int) (t8:Int) (l1:List Int) (ep0:Nat) (ep1:Nat) (QQ:(Int×(List Int))⊕(List Int)→Prop) (h:Ok (vzb x0 (t8,l1)) QQ):AW EE none Tryz.prog (wzcd 0) (fun ex S'=>(∃ s' e',ex=.normal∧QQ (.inl s')∧See EE S' ⟨tl ((vz9 x0) s' e') 32,hl ((yza x0) s' e'),[]⟩)∨(∃ o,QQ (.inr o)∧ex≠.normal∧(qzel x0) o ex S')) ⟨tl [(3,ownV 1 ep1 l1),(6,slcV 1 (cI .u32) x0),(7,.int .i64 (List.length x0:Int)),(8,.int .i64 t8)] 32,hl [(0,.gone ep0),(1,ownO ep1 1 (cI .u8) l1)],[]⟩:=by
 unfold vzb at h
 refine AW.rS [(3,ownV 1 ep1 l1),(6,slcV 1 (cI .u32) x0),(7,.int .i64 (List.length x0:Int)),(8,.int .i64 t8),(9,.bool (decide (t8 < (List.length x0:Int))))] [(0,.gone ep0),(1,ownO ep1 1 (cI .u8) l1)] ?_ ?_
 ·simp [wzb1,-Int.pred_toNat]
  all_goals exact zq1
 refine .seq ?_
 refine AW.ifF (decide (t8 < (List.length x0:Int))) rfl (by simp) (fun e=>?_) (fun e=>?_)
 ·replace h:=h.pos e
  refine AW.skip ?_
  refine .seq ?_
  refine .block ?_
  obtain ⟨x1,h1,h⟩:=h.at
  refine AW.rS [(3,ownV 1 ep1 l1),(5,.int .u32 x1),(6,slcV 1 (cI .u32) x0),(7,.int .i64 (List.length x0:Int)),(8,.int .i64 t8)] [(0,.gone ep0),(1,ownO ep1 1 (cI .u8) l1)] ?_ ?_
  ·obtain ⟨f1a,f1b,f1c⟩:=h1
   have f1d:qzd (cI .u32) x0 (Int.toNat t8)=(cI .u32) x1:=qzo f1c
   have f1e:Int.toNat t8 < List.length x0:=by omega
   simp [wzb8,-Int.pred_toNat,f1a,f1b,f1d,f1e]
   (repeat' apply And.intro)<;>first | omega | (simp at*<;> omega) | (intro _; intros; simp_all; done) | exact .mk (by simp [-Int.pred_toNat,f1a,f1b,f1d,f1e]) (by simp [-Int.pred_toNat,f1a,f1b,f1d,f1e]) rfl
  obtain ⟨h2,h⟩:=h.ck
  refine AW.rE [(3,ownV 1 (ep1+1) (l1++[(x1%256),((Int.fdiv x1 256)%256),((Int.fdiv x1 65536)%256),((Int.fdiv x1 16777216)%256)])),(6,slcV 1 (cI .u32) x0),(7,.int .i64 (List.length x0:Int)),(8,.int .i64 t8)] [(0,.gone (ep0+1)),(1,ownO (ep1+1) 1 (cI .u8) (l1++[(x1%256),((Int.fdiv x1 256)%256),((Int.fdiv x1 65536)%256),((Int.fdiv x1 16777216)%256)]))] ?_ (fun S' hs1=>?_)
  ·have f2:=h2
   have f2m:=f2
   (try simp [-Int.pred_toNat] at f2m)
   rcases hl:l1 with _ | ⟨y,l⟩
   ·(try simp [hl] at f2)
    simp [qzxa,-Int.pred_toNat,f2,f2m,hl]
    (repeat' apply And.intro)<;>first | omega | (simp at*<;> omega) | (intro _; intros; simp_all; done) | exact .mk (by simp [-Int.pred_toNat,f2,f2m,hl]<;>first | (intro k hk; rw [qzn _ k (by first | simpa using hk | omega)]; simp)) (by simp [-Int.pred_toNat,f2,f2m,hl]<;>first | (intro k hk; rw [qzn _ k (by first | simpa using hk | omega)]; simp)) rfl
   ·(try simp [hl] at f2)
    simp [qzxa,-Int.pred_toNat,f2,f2m,hl]
    (repeat' apply And.intro)<;>first | omega | skip
    refine .mk (by simp [-Int.pred_toNat,f2,f2m,hl]) ?_ rfl
    simp [-Int.pred_toNat,f2,f2m,hl]
    intro k hk
    split<;>rename_i hk2
    ·rw [yz1 hk2]; exact .refl _
    ·rw [yze hk2]
     have hj:k - (l.length+1) < 4:=by omega
     revert hj; generalize k - (l.length+1)=j; revert j; simp
  refine .see hs1 ?_
  obtain ⟨h4,h⟩:=h.ck
  refine AW.rE [(3,ownV 1 (ep1+1) (l1++[(x1%256),((Int.fdiv x1 256)%256),((Int.fdiv x1 65536)%256),((Int.fdiv x1 16777216)%256)])),(6,slcV 1 (cI .u32) x0),(7,.int .i64 (List.length x0:Int)),(8,.int .i64 (t8+1))] [(0,.gone (ep0+1)),(1,ownO (ep1+1) 1 (cI .u8) (l1++[(x1%256),((Int.fdiv x1 256)%256),((Int.fdiv x1 65536)%256),((Int.fdiv x1 16777216)%256)]))] ?_ (fun S' hs2=>?_)
  ·have f3:=qzr h4
   simp [qz47,-Int.pred_toNat,f3]
   (repeat' apply And.intro)<;>first | omega | (simp at*<;> omega) | (intro _; intros; simp_all; done) | exact .mk (by simp [-Int.pred_toNat,f3]) (by simp [-Int.pred_toNat,f3]) rfl
  exact .inl ⟨((t8+1),(l1++[(x1%256),((Int.fdiv x1 256)%256),((Int.fdiv x1 65536)%256),((Int.fdiv x1 16777216)%256)])),((ep0+1),(ep1+1)),rfl,h.some,(hs2.trans (.wk (by simp [vz9]) (by simp [yza]) rfl))⟩
 ·replace h:=h.neg e
  refine .exit ?_
  exact .inr ⟨l1,h.some,by simp,⟨ep0,ep1,rfl,(.wk (by simp) (by simp) rfl)⟩⟩
theorem wz6 (x0:List Int)  (r:List UInt8) (h:qz7 x0=some r):qzq EE Tryz.prog 95 [slcV 1 (cI .u32) x0] (.str r):=by
 refine Pure.still ?_ hEE (by simp [-qzh,(fun l=>qzj (st:=1) (c:=(cI .u32)) (l:=l) (fun a=>qz1 (n:=a)))]<;>assumption) (by simp [-qzh,(fun l=>qzj (st:=1) (c:=(cI .u32)) (l:=l) (fun a=>qz1 (n:=a)))])
 obtain ⟨c,hb,hc⟩:=ck95
 replace h:=Ok.of h; unfold qz7 at h
 refine Pure.ofs (fn:=Tryz.f95) (n:=32) rfl hb cr95 (hc 0) rfl rfl (by simp) ?_
 refine AW.rS [(0,slcV 1 (cI .u32) x0)] [] ?_ ?_
 ·simp [qz50,-Int.pred_toNat]
  all_goals exact zq1
 refine AW.rS [(0,slcV 1 (cI .u32) x0),(3,.nils)] [] ?_ ?_
 ·simp [wzad,-Int.pred_toNat]
  all_goals exact zq1
 refine .seq ?_
 refine AW.rS [(3,.nils),(6,slcV 1 (cI .u32) x0),(7,.int .i64 (List.length x0:Int)),(8,.int .i64 0)] [] ?_ ?_
 ·simp [wza9,-Int.pred_toNat]
  all_goals exact zq1
 refine .block ?_
 refine AW.lpF (ε:=Nat×Nat) (0,0) h.bd (vz9 x0) (yza x0) (qzel x0) (by simp [vz9]) (by simp [yza]) rfl ?_ ?_
 ·rintro ⟨t8,l1⟩ ⟨ep0,ep1⟩ QQ h
  exact qzjd x0 t8 l1 ep0 ep1 QQ h
 ·rintro l1 h ex S' hs
  obtain ⟨ep0,ep1,rfl,hs⟩:=hs
  refine .see hs ?_
  obtain ⟨r1,h5,h⟩:=h.ex
  refine AW.rS [(3,ownV 1 ep1 r1)] [(0,.gone ep0),(1,ownO ep1 1 (cI .u8) r1)] ?_ ?_
  ·simp [qz92,-Int.pred_toNat]
   (repeat' apply And.intro)<;>try first | omega | (simp at*<;> omega)
   refine ATr.mono (qzk8 1 ep1 l1 _ h5 _ ?_) ?_
   ·simp [hl,qz8]
   rintro v h' ⟨rfl,rfl,hov⟩
   simp [-Int.pred_toNat,hov]
   all_goals exact zq1
  refine AW.frzO 1 ep1 1 (cI .u8) r1 [(3,slcV 1 (cI .u8) r1)] [(0,.gone ep0),(1,.gone (ep1+1))] rfl (fun e=>⟨by simp [e],by simp [e],rfl⟩) (fun y k e o ho=>⟨by simp [e,ho],by simp [e,ho],rfl⟩) ?_
  obtain ⟨r2,h6,h⟩:=h.ex
  refine AW.rS [(2,.str r2)] [(0,.gone ep0),(1,.gone (ep1+1))] ?_ ?_
  ·simp [qz65,-Int.pred_toNat]
   (repeat' apply And.intro)<;>try first | omega | (simp at*<;> omega)
   refine (qzqv (vzg r1)  _ h6).ca (by simp [-Int.pred_toNat]<;>first | (intro k hk; rw [qzn _ k (by first | simpa using hk | omega)]; simp)) ?_
   (try simp [-Int.pred_toNat])
   (repeat' apply And.intro)<;>first | omega | (simp at*<;> omega) | (intro _; intros; simp_all; done) | exact .mk (by simp [-Int.pred_toNat]<;>first | (intro k hk; rw [qzn _ k (by first | simpa using hk | omega)]; simp)) (by simp [-Int.pred_toNat]<;>first | (intro k hk; rw [qzn _ k (by first | simpa using hk | omega)]; simp)) rfl
  have hr:=h.some
  subst hr
  refine AW.rt (rs:=rs95) [(2,.str r2)] [(0,.gone ep0),(1,.gone (ep1+1))] (by simp) (by simp) rfl rfl (by simp [rs95]) (by simp [rs95]; try rfl)
def k95:Fc:=⟨95,[(.slc (.int .u32))],[false],[.str],fun x=>qz7 x⟩
theorem y95:FcOk EE Tryz.prog k95:=⟨by kernel_rfl,fun x _ h=>(wz6 x _ h).cast (by kernel_rfl)⟩
theorem qzvn:kzz Tryz.prog 92=true:=by kernel_rfl
theorem wzd4:∀ (n:Nat) (x y r:List Int),lpN wzp n (x,y)=some r→∀ h:qzl,h 0=.box 1 [.fn 92 0 [.ptr 0 1 0]] →
  ATr EE Tryz.prog 92 [slcV 1 (cI .u32) x,slcV 1 (cI .u32) y,.ptr 0 1 0] h (fun v h'=>v=slcV 1 (cI .u32) r∧h'=h):=by
 intro n
 induction n with
 | zero=>intro x y r hr; cases hr
 | succ n ih =>
  intro x y r hr h h0
  rw [lpN] at hr
  obtain ⟨c,hbd,hc⟩:=ck92
  refine ATr.of (fn:=Tryz.f92) rfl hbd cr92 (hc 0) 19 rfl ?_
  refine .seq (.reg ?_)
  simp [qz36]
  refine .seq (.seq (.reg ?_))
  simp [qz9c]
  refine .cond (t:=decide ((List.length y:Int)=0)) (by simp) (fun e=>?_) (fun e=>?_)
  ·have e':(wzp (x,y))=some (.inr x):=by simp only [wzp,e,ite']
   rw [e'] at hr
   cases hr
   refine .seq (.reg ?_)
   simp [qz7i]
   refine .ret ?_
   simp only [qzdb,ablk]
   refine .here ?_ rfl ⟨?_,?_⟩
   ·simp [rs92]
   ·simp [rs92]
   ·simp
  ·have e':(wzp (x,y))=bd (kzf x y) fun r=>some (.inl (y,r.2)):=by simp only [wzp,e,ite']
   rw [e'] at hr
   cases hby:kzf x y with
   | none=>rw [hby] at hr; cases hr
   | some q =>
   rw [hby] at hr
   have hr:lpN wzp n (y,q.2)=some r:=hr
   refine .skip ?_
   refine .seq (.reg ?_)
   simp [wzax]
   refine (qzhc x y q hby).ca (by simp) ?_
   simp
   refine .seq (.reg ?_)
   simp [qz6x,h0]
   refine ⟨qzvn,?_⟩
   try simp [fnArgs]
   refine ((ih y q.2 r hr h h0).w (by simp)).mono ?_
   rintro v h' ⟨rfl,rfl⟩
   refine .ret ?_
   try simp only [qzdb,ablk]
   refine .here ?_ rfl ⟨?_,?_⟩
   ·simp [rs92]
   ·simp [rs92]
   ·simp
theorem qzm1 (a0:List UInt8) (b1:List UInt8)  (r:List UInt8) (h:qzeo a0 b1=some r):qzq EE Tryz.prog 60 [.str a0,.str b1] (.str r):=by
 refine Pure.still ?_ hEE (by simp) (by simp)
 obtain ⟨c,hb,hc⟩:=ck60
 replace h:=Ok.of h; unfold qzeo at h
 obtain ⟨x,hx,h⟩:=h.ex
 obtain ⟨y,hy,h⟩:=h.ex
 obtain ⟨q,hq,h⟩:=h.ex
 have ht:qz7 q=some r:=by
  cases hx:qz7 q with
  | none=>rw [hx] at h; exact h.no
  | some v=>rw [hx] at h; exact congrArg some h.some
 rw [qztg] at hq
 refine Pure.ofs (fn:=Tryz.f60) (n:=14) rfl hb cr60 (hc 0) rfl rfl (by simp) ?_
 refine AW.rS [(0,.str a0),(1,.str b1)] [] ?_ ?_
 ·simp [qz6d]
  exact .mk (by simp) (by simp) rfl
 refine AW.rS [(0,.str a0),(1,.str b1),(5,.ptr 0 1 0)] [(0,.box 1 [.nilfn])] ?_ ?_
 ·simp [qz83]
  exact .mk (by simp) (by simp) rfl
 refine AW.rS [(0,.str a0),(1,.str b1),(5,.ptr 0 1 0)] [(0,.box 1 [.fn 92 0 [.ptr 0 1 0]])] ?_ ?_
 ·simp [wzao]
  exact .mk (by simp) (by simp) rfl
 refine AW.dS [(4,.str r)] [(0,.gone 1)] ?_ ?_
 ·simp [qz5o]
  refine (wzo a0 x hx).cd (by simp) ?_
  (try simp)
  refine (wzo b1 y hy).cd (by simp) ?_
  (try simp)
  refine ⟨qzvn,?_⟩
  try simp
  refine ⟨slcV 1 (cI .u32) q,[0],fun h' e=>((wzd4 _ x y q hq h' ?_).w (by simp)).mono ?_,?_⟩
  ·rw [e 0 (by simp)]; simp [hl,qz8]
  ·rintro v h' ⟨rfl,rfl⟩; exact ⟨rfl,rfl⟩
  simp
  refine (wz6 q r ht).cd (by simp) ?_
  (try simp)
  (repeat' apply And.intro)<;>first | kernel_rfl | exact .mk (by simp) (by simp) rfl
 exact AW.rt (rs:=rs60) [(4,.str r)] [(0,.gone 1)] (by simp) (by simp) rfl rfl (by simp [rs60]) (by simp [rs60])
def k60:Fc:=⟨60,[.str,.str],[false,false],[.str],fun x=>qzeo x.1 x.2⟩
theorem y60:FcOk EE Tryz.prog k60:=⟨by kernel_rfl,fun x _ h=>(qzm1 x.1 x.2 _ h).cast (by kernel_rfl)⟩
def k96:Fc:=⟨96,[.str,.str],[false,false],[.str,.str,(.int .i64)],fun x=>qza9 x.1 x.2⟩
theorem y96:FcOk EE Tryz.prog k96:=wzio hEE (H:=[k93,k94,k95]) ⟨y93,y94,y95,trivial⟩ [] [] .n (fn:=Tryz.f96) rfl (by kernel_rfl) (by kernel_rfl) fun _=>by kernel_rfl
def k97:Fc:=⟨97,[.str,.str],[false,false],[.str],fun x=>qzau x.1 x.2⟩
theorem y97:FcOk EE Tryz.prog k97:=wzio hEE (H:=[k94,k95,k117]) ⟨y94,y95,y117,trivial⟩ [] [] .n (fn:=Tryz.f97) rfl (by kernel_rfl) (by kernel_rfl) fun _=>by kernel_rfl
def k98:Fc:=⟨98,[.str,.str],[false,false],[.str],fun x=>qzg3 x.1 x.2⟩
theorem y98:FcOk EE Tryz.prog k98:=wzio hEE (H:=[k94,k95,k121]) ⟨y94,y95,y121,trivial⟩ [] [] .n (fn:=Tryz.f98) rfl (by kernel_rfl) (by kernel_rfl) fun _=>by kernel_rfl
def k99:Fc:=⟨99,[.str,.str],[false,false],[(.int .i64)],fun x=>qzgu x.1 x.2⟩
theorem y99:FcOk EE Tryz.prog k99:=wzio hEE (H:=[k94,k112]) ⟨y94,y112,trivial⟩ [] [] .n (fn:=Tryz.f99) rfl (by kernel_rfl) (by kernel_rfl) fun _=>by kernel_rfl
def k100:Fc:=⟨100,[.str,.str],[false,false],[.str,(.int .i64)],fun x=>qzgk x.1 x.2⟩
theorem y100:FcOk EE Tryz.prog k100:=wzio hEE (H:=[k94,k95,k112,k118]) ⟨y94,y95,y112,y118,trivial⟩ [] [] .n (fn:=Tryz.f100) rfl (by kernel_rfl) (by kernel_rfl) fun _=>by kernel_rfl
def k101:Fc:=⟨101,[(.int .i64)],[false],[.str,(.int .i64)],fun x=>qzgv x⟩
theorem y101:FcOk EE Tryz.prog k101:=wzio hEE (H:=[k95,k114]) ⟨y95,y114,trivial⟩ [] [(0,(.int .u32))] .n (fn:=Tryz.f101) rfl (by kernel_rfl) (by kernel_rfl) fun _=>by kernel_rfl
def k21:Fc:=⟨21,[(.us 0)],[false],[.bool],fun x=>yzs x⟩
theorem y21:FcOk EE Tryz.prog k21:=wzio hEE (H:=[k59,k60]) ⟨y59,y60,trivial⟩ [] [] .n (fn:=Tryz.f21) rfl (by kernel_rfl) (by kernel_rfl) fun _=>by kernel_rfl
def k51:Fc:=⟨51,[(.us 0)],[false],[.bool],fun x=>jz7 x⟩
theorem y51:FcOk EE Tryz.prog k51:=wzio hEE (H:=[k21]) ⟨y21,trivial⟩ [] [] .n (fn:=Tryz.f51) rfl (by kernel_rfl) (by kernel_rfl) fun _=>by kernel_rfl
theorem qzcg (a0:qza)  (r:Bool) (h:jz7 a0=some r):qzq EE Tryz.prog 51 [.agg (qza.cells a0)] (.bool r):=y51.still (x:=(a0)) (y:=r) h (by kernel_rfl)
def k61:Fc:=⟨61,[(.us 0)],[false],[(.us 5)],fun x=>jzg x⟩
theorem y61:FcOk EE Tryz.prog k61:=wzio hEE (H:=[k21]) ⟨y21,trivial⟩ [] [] .n (fn:=Tryz.f61) rfl (by kernel_rfl) (by kernel_rfl) fun _=>by kernel_rfl
theorem jzj (a0:qza)  (r:qzf) (h:jzg a0=some r):qzq EE Tryz.prog 61 [.agg (qza.cells a0)] (.agg (qzf.cells r)):=y61.still (x:=(a0)) (y:=r) h (by kernel_rfl)
def k62:Fc:=⟨62,[(.us 5)],[false],[(.us 0)],fun x=>qzw x⟩
theorem y62:FcOk EE Tryz.prog k62:=wzio hEE (H:=[k60,k96]) ⟨y60,y96,trivial⟩ [] [] .n (fn:=Tryz.f62) rfl (by kernel_rfl) (by kernel_rfl) fun _=>by kernel_rfl
theorem wzf (f0:qzf)  (r:qza) (h:qzw f0=some r):qzq EE Tryz.prog 62 [.agg (qzf.cells f0)] (.agg (qza.cells r)):=y62.still (x:=(f0)) (y:=r) h (by kernel_rfl)
theorem qzf8 (op0:qzf→Option qzf) (b1:qza) (op0_f:FuncId) (op0_b:Nat) (op0_c:List AVal) (op0_n:∀ x,x∈op0_c→qzt x) (op0_h:∀ a0 r,op0 a0=some r→FnOk EE Tryz.prog op0_f op0_b op0_c [.agg (qzf.cells a0)] (.agg (qzf.cells r))) (r:qza) (h:qza0 op0 b1=some r):qzq EE Tryz.prog 63 [.fn op0_f op0_b op0_c,.agg (qza.cells b1)] (.agg (qza.cells r)):=by
 refine Pure.still ?_ hEE (by simp [-qzh,kzp,op0_n,qza.cells]<;>assumption) (by simp [-qzh,kzp,op0_n,qza.cells])
 obtain ⟨c,hb,hc⟩:=ck63
 replace h:=Ok.of h; unfold qza0 at h
 refine Pure.ofs (fn:=Tryz.f63) (n:=10) rfl hb cr63 (hc 0) rfl rfl (by simp) ?_
 refine AW.rS [(0,.fn op0_f op0_b op0_c),(3,.ptr 0 1 0),(4,.ptr 1 1 0)] [(0,.box 1 [.bool b1.Neg,.str b1.Num,.str b1.Den]),(1,.box 1 [.bool false,.str [],.str []])] ?_ ?_
 ·simp [qz9v,-Int.pred_toNat]
  all_goals exact zq1
 obtain ⟨r1,h1,h⟩:=h.ex
 obtain ⟨r2,h2,h⟩:=h.ex
 obtain ⟨r3,h3,h⟩:=h.ex
 refine AW.rS [(4,.ptr 1 1 0)] [(0,.gone 1),(1,.box 1 (qza.cells r3))] ?_ ?_
 ·simp [qz9r,-Int.pred_toNat]
  (repeat' apply And.intro)<;>try first | omega | (simp at*<;> omega)
  refine (jzj b1  _ h1).ca (by simp [-Int.pred_toNat]) ?_
  (try simp [-Int.pred_toNat])
  (repeat' apply And.intro)<;>try first | omega | (simp at*<;> omega)
  ·exact (op0_h r1 _ h2).1
  refine (op0_h r1 _ h2).2.ca (by simp [-Int.pred_toNat]) ?_
  (try simp [-Int.pred_toNat])
  (repeat' apply And.intro)<;>try first | omega | (simp at*<;> omega)
  refine (wzf r2  _ h3).ca (by simp [-Int.pred_toNat]) ?_
  (try simp [-Int.pred_toNat])
  all_goals exact zq1
 have hr:=h.some
 subst hr
 refine AW.rt (rs:=rs63) [(4,.ptr 1 1 0)] [(0,.gone 1),(1,.box 1 (qza.cells r3))] (by simp) (by simp) rfl rfl (by simp [rs63]) (by simp [rs63]; try rfl)
def k64:Fc:=⟨64,[(.us 5),(.us 5)],[false,false],[(.us 5)],fun x=>wz3 x.1 x.2⟩
theorem y64:FcOk EE Tryz.prog k64:=wzio hEE (H:=[k97,k98,k99,k100]) ⟨y97,y98,y99,y100,trivial⟩ [] [] (.s .n (.s .n (.s .n (.s (.s .n (.c (some [⟨.n,[(2,.ptr 0 0),(4,.k),(5,.v .str),(6,.v .str),(7,.k)],[(0,.box (.us 5)),(1,.gone),(2,.k)]⟩]) .n .n)) .n)))) (fn:=Tryz.f64) rfl (by kernel_rfl) (by kernel_rfl) fun _=>by kernel_rfl
theorem qzdv (f0:qzf) (g1:qzf)  (r:qzf) (h:wz3 f0 g1=some r):qzq EE Tryz.prog 64 [.agg (qzf.cells f0),.agg (qzf.cells g1)] (.agg (qzf.cells r)):=y64.still (x:=(f0,g1)) (y:=r) h (by kernel_rfl)
def k66:Fc:=⟨66,[(.us 5),(.us 5)],[false,false],[(.us 5)],fun x=>wz5 x.1 x.2⟩
theorem y66:FcOk EE Tryz.prog k66:=wzio hEE (H:=[k64]) ⟨y64,trivial⟩ [] [] .n (fn:=Tryz.f66) rfl (by kernel_rfl) (by kernel_rfl) fun _=>by kernel_rfl
theorem qzdr (f0:qzf) (g1:qzf)  (r:qzf) (h:wz5 f0 g1=some r):qzq EE Tryz.prog 66 [.agg (qzf.cells f0),.agg (qzf.cells g1)] (.agg (qzf.cells r)):=y66.still (x:=(f0,g1)) (y:=r) h (by kernel_rfl)
def k67:Fc:=⟨67,[(.us 5),(.us 5)],[false,false],[(.us 5)],fun x=>wzv x.1 x.2⟩
theorem y67:FcOk EE Tryz.prog k67:=wzio hEE (H:=[k97]) ⟨y97,trivial⟩ [] [] .n (fn:=Tryz.f67) rfl (by kernel_rfl) (by kernel_rfl) fun _=>by kernel_rfl
theorem qzdc (f0:qzf) (g1:qzf)  (r:qzf) (h:wzv f0 g1=some r):qzq EE Tryz.prog 67 [.agg (qzf.cells f0),.agg (qzf.cells g1)] (.agg (qzf.cells r)):=y67.still (x:=(f0,g1)) (y:=r) h (by kernel_rfl)
def k69:Fc:=⟨69,[(.int .i64)],[false],[(.us 5)],fun x=>yzh x⟩
theorem y69:FcOk EE Tryz.prog k69:=wzio hEE (H:=[k101]) ⟨y101,trivial⟩ [] [] .n (fn:=Tryz.f69) rfl (by kernel_rfl) (by kernel_rfl) fun _=>by kernel_rfl
def k102:Fc:=⟨102,[(.us 5),(.us 5)],[false,false],[(.us 5)],fun x=>wz4 x.1 x.2⟩
theorem y102:FcOk EE Tryz.prog k102:=wzio hEE (H:=[k67]) ⟨y67,trivial⟩ [] [] .n (fn:=Tryz.f102) rfl (by kernel_rfl) (by kernel_rfl) fun _=>by kernel_rfl
theorem qzd3 (f0:qzf) (g1:qzf)  (r:qzf) (h:wz4 f0 g1=some r):qzq EE Tryz.prog 102 [.agg (qzf.cells f0),.agg (qzf.cells g1)] (.agg (qzf.cells r)):=y102.still (x:=(f0,g1)) (y:=r) h (by kernel_rfl)
theorem qzev (a0:qza) (b1:qza)  (r:qza) (h:qzbi a0 b1=some r):qzq EE Tryz.prog 24 [.agg (qza.cells a0),.agg (qza.cells b1)] (.agg (qza.cells r)):=by
 refine Pure.still ?_ hEE (by simp [-qzh,qza.cells]<;>assumption) (by simp [-qzh,qza.cells])
 obtain ⟨c,hb,hc⟩:=ck24
 replace h:=Ok.of h; unfold qzbi at h
 refine Pure.ofs (fn:=Tryz.f24) (n:=10) rfl hb cr24 (hc 0) rfl rfl (by simp) ?_
 refine AW.rS [(2,.ptr 0 1 0),(3,.ptr 1 1 0),(4,.ptr 2 1 0)] [(0,.box 1 [.bool a0.Neg,.str a0.Num,.str a0.Den]),(1,.box 1 [.bool b1.Neg,.str b1.Num,.str b1.Den]),(2,.box 1 [.bool false,.str [],.str []])] ?_ ?_
 ·simp [qz99,-Int.pred_toNat]
  all_goals exact zq1
 obtain ⟨r1,h1,h⟩:=h.ex
 obtain ⟨r2,h2,h⟩:=h.ex
 refine AW.dS [(4,.ptr 2 1 0)] [(0,.gone 1),(1,.gone 1),(2,.box 1 (qza.cells r2))] ?_ ?_
 ·simp [qz4w,-Int.pred_toNat]
  (repeat' apply And.intro)<;>try first | omega | (simp at*<;> omega)
  refine (jzj a0  _ h1).cd (by simp [-Int.pred_toNat]) ?_
  (try simp [-Int.pred_toNat])
  (repeat' apply And.intro)<;>try first | omega | (simp at*<;> omega)
  refine (qzf8 (fun a0=>wz3 r1 a0) b1 64 1 [.agg (qzf.cells r1)] (by simp [jzc]) (fun a0 r h=>⟨by kernel_rfl,(qzdv r1 a0  r h).w (by simp [fnArgs])⟩) _ h2).cd (by simp [-Int.pred_toNat]) ?_
  (try simp [-Int.pred_toNat])
  all_goals exact zq2
 have hr:=h.some
 subst hr
 refine AW.rt (rs:=rs24) [(4,.ptr 2 1 0)] [(0,.gone 1),(1,.gone 1),(2,.box 1 (qza.cells r2))] (by simp) (by simp) rfl rfl (by simp [rs24]) (by simp [rs24]; try rfl)
def k24:Fc:=⟨24,[(.us 0),(.us 0)],[false,false],[(.us 0)],fun x=>qzbi x.1 x.2⟩
theorem y24:FcOk EE Tryz.prog k24:=⟨by kernel_rfl,fun x _ h=>(qzev x.1 x.2 _ h).cast (by kernel_rfl)⟩
def k26:Fc:=⟨26,[(.us 0),(.us 0)],[false,false],[(.int .i64)],fun x=>wz0 x.1 x.2⟩
theorem y26:FcOk EE Tryz.prog k26:=wzio hEE (H:=[k61,k66]) ⟨y61,y66,trivial⟩ [] [] .n (fn:=Tryz.f26) rfl (by kernel_rfl) (by kernel_rfl) fun _=>by kernel_rfl
theorem jze (a0:qza) (b1:qza)  (r:Int) (h:wz0 a0 b1=some r):qzq EE Tryz.prog 26 [.agg (qza.cells a0),.agg (qza.cells b1)] (.int .i64 r):=y26.still (x:=(a0,b1)) (y:=r) h (by kernel_rfl)
theorem qzic (a0:qza) (b1:qza)  (r:qza) (h:qzcw a0 b1=some r):qzq EE Tryz.prog 27 [.agg (qza.cells a0),.agg (qza.cells b1)] (.agg (qza.cells r)):=by
 refine Pure.still ?_ hEE (by simp [-qzh,qza.cells]<;>assumption) (by simp [-qzh,qza.cells])
 obtain ⟨c,hb,hc⟩:=ck27
 replace h:=Ok.of h; unfold qzcw at h
 refine Pure.ofs (fn:=Tryz.f27) (n:=10) rfl hb cr27 (hc 0) rfl rfl (by simp) ?_
 refine AW.rS [(2,.ptr 0 1 0),(3,.ptr 1 1 0),(4,.ptr 2 1 0)] [(0,.box 1 [.bool a0.Neg,.str a0.Num,.str a0.Den]),(1,.box 1 [.bool b1.Neg,.str b1.Num,.str b1.Den]),(2,.box 1 [.bool false,.str [],.str []])] ?_ ?_
 ·simp [wzbu,-Int.pred_toNat]
  all_goals exact zq1
 obtain ⟨r1,h1,h⟩:=h.ex
 obtain ⟨r2,h2,h⟩:=h.ex
 refine AW.dS [(4,.ptr 2 1 0)] [(0,.gone 1),(1,.gone 1),(2,.box 1 (qza.cells r2))] ?_ ?_
 ·simp [qz9i,-Int.pred_toNat]
  (repeat' apply And.intro)<;>try first | omega | (simp at*<;> omega)
  refine (jzj a0  _ h1).cd (by simp [-Int.pred_toNat]) ?_
  (try simp [-Int.pred_toNat])
  (repeat' apply And.intro)<;>try first | omega | (simp at*<;> omega)
  refine (qzf8 (fun a0=>wzv r1 a0) b1 67 1 [.agg (qzf.cells r1)] (by simp [jzc]) (fun a0 r h=>⟨by kernel_rfl,(qzdc r1 a0  r h).w (by simp [fnArgs])⟩) _ h2).cd (by simp [-Int.pred_toNat]) ?_
  (try simp [-Int.pred_toNat])
  all_goals exact zq2
 have hr:=h.some
 subst hr
 refine AW.rt (rs:=rs27) [(4,.ptr 2 1 0)] [(0,.gone 1),(1,.gone 1),(2,.box 1 (qza.cells r2))] (by simp) (by simp) rfl rfl (by simp [rs27]) (by simp [rs27]; try rfl)
def k27:Fc:=⟨27,[(.us 0),(.us 0)],[false,false],[(.us 0)],fun x=>qzcw x.1 x.2⟩
theorem y27:FcOk EE Tryz.prog k27:=⟨by kernel_rfl,fun x _ h=>(qzic x.1 x.2 _ h).cast (by kernel_rfl)⟩
def k28:Fc:=⟨28,[(.int .i64)],[false],[(.us 0)],fun x=>qzz x⟩
theorem y28:FcOk EE Tryz.prog k28:=wzio hEE (H:=[k62,k68,k69]) ⟨y62,y68,y69,trivial⟩ [] [] .n (fn:=Tryz.f28) rfl (by kernel_rfl) (by kernel_rfl) fun _=>by kernel_rfl
theorem qzv (n0:Int)  (r:qza) (h:qzz n0=some r):qzq EE Tryz.prog 28 [.int .i64 n0] (.agg (qza.cells r)):=y28.still (x:=(n0)) (y:=r) h (by kernel_rfl)
theorem qze9 (a0:qza) (b1:qza)  (r:qza) (h:qzbh a0 b1=some r):qzq EE Tryz.prog 29 [.agg (qza.cells a0),.agg (qza.cells b1)] (.agg (qza.cells r)):=by
 refine Pure.still ?_ hEE (by simp [-qzh,qza.cells]<;>assumption) (by simp [-qzh,qza.cells])
 obtain ⟨c,hb,hc⟩:=ck29
 replace h:=Ok.of h; unfold qzbh at h
 refine Pure.ofs (fn:=Tryz.f29) (n:=10) rfl hb cr29 (hc 0) rfl rfl (by simp) ?_
 refine AW.rS [(2,.ptr 0 1 0),(3,.ptr 1 1 0),(4,.ptr 2 1 0)] [(0,.box 1 [.bool a0.Neg,.str a0.Num,.str a0.Den]),(1,.box 1 [.bool b1.Neg,.str b1.Num,.str b1.Den]),(2,.box 1 [.bool false,.str [],.str []])] ?_ ?_
 ·simp [qz5k,-Int.pred_toNat]
  all_goals exact zq1
 obtain ⟨r1,h1,h⟩:=h.ex
 obtain ⟨r2,h2,h⟩:=h.ex
 refine AW.dS [(4,.ptr 2 1 0)] [(0,.gone 1),(1,.gone 1),(2,.box 1 (qza.cells r2))] ?_ ?_
 ·simp [qz9l,-Int.pred_toNat]
  (repeat' apply And.intro)<;>try first | omega | (simp at*<;> omega)
  refine (jzj a0  _ h1).cd (by simp [-Int.pred_toNat]) ?_
  (try simp [-Int.pred_toNat])
  (repeat' apply And.intro)<;>try first | omega | (simp at*<;> omega)
  refine (qzf8 (fun a0=>wz5 r1 a0) b1 66 1 [.agg (qzf.cells r1)] (by simp [jzc]) (fun a0 r h=>⟨by kernel_rfl,(qzdr r1 a0  r h).w (by simp [fnArgs])⟩) _ h2).cd (by simp [-Int.pred_toNat]) ?_
  (try simp [-Int.pred_toNat])
  all_goals exact zq2
 have hr:=h.some
 subst hr
 refine AW.rt (rs:=rs29) [(4,.ptr 2 1 0)] [(0,.gone 1),(1,.gone 1),(2,.box 1 (qza.cells r2))] (by simp) (by simp) rfl rfl (by simp [rs29]) (by simp [rs29]; try rfl)
def k32:Fc:=⟨32,[(.slc (.int .i64))],[false],[(.slc (.us 0))],fun x=>qzb3 x⟩
theorem y32:FcOk EE Tryz.prog k32:=wzio hEE (H:=[k28]) ⟨y28,trivial⟩ [] [(0,(.us 0)),(1,(.us 0))] (.s .n (.s .n (.s (.s .n (.b none (.l [] ⟨.n,[(3,.own 1),(6,.k),(7,.k),(8,.v (.int .i64))],[(0,.gone),(1,.own (.us 0))]⟩ [⟨(.x 0),[(3,.own 1)],[(0,.gone),(1,.own (.us 0))]⟩] .n))) .n))) (fn:=Tryz.f32) rfl (by kernel_rfl) (by kernel_rfl) fun _=>by kernel_rfl
def k40:Fc:=⟨40,[(.us 1),(.us 0)],[false,true],[(.us 0)],fun x=>vzj x.1 x.2⟩
theorem y40:FcOk EE Tryz.prog k40:=wzio hEE (H:=[k27]) ⟨y27,trivial⟩ [] [] .n (fn:=Tryz.f40) rfl (by kernel_rfl) (by kernel_rfl) fun _=>by kernel_rfl
theorem qzl6 (s0:qzb) (c0:qza)  (r:qza) (h:vzj s0 c0=some r):qzq EE Tryz.prog 40 [.agg (qzb.cells s0),.cptr (fun k=>(qza.cells c0).getD k .top) 3 0] (.agg (qza.cells r)):=y40.still (x:=(s0,c0)) (y:=r) h (by kernel_rfl)
def k65:Fc:=⟨65,[(.slc (.us 0))],[false],[(.us 0)],fun x=>qzf9 x⟩
theorem y65:FcOk EE Tryz.prog k65:=wzio hEE (H:=[k24]) ⟨y24,trivial⟩ [] [] (.s .n (.s .n (.s (.s .n (.b none (.l [] ⟨.n,[(2,.k),(3,.ptr 1 0),(6,.k),(7,.k),(8,.v (.int .i64))],[(0,.k),(1,.box (.us 0)),(2,.gone)]⟩ [⟨(.x 0),[(2,.k),(3,.ptr 1 0)],[(0,.k),(1,.box (.us 0)),(2,.gone)]⟩] .n))) .n))) (fn:=Tryz.f65) rfl (by kernel_rfl) (by kernel_rfl) fun _=>by kernel_rfl
def k71:Fc:=⟨71,[(.int .i64),(.int .i64)],[false,false],[(.us 0),(.int .i64)],fun x=>qzlk x.1 x.2⟩
theorem y71:FcOk EE Tryz.prog k71:=wzio hEE (H:=[k62,k68,k69,k102]) ⟨y62,y68,y69,y102,trivial⟩ [] [] .n (fn:=Tryz.f71) rfl (by kernel_rfl) (by kernel_rfl) fun _=>by kernel_rfl
def k74:Fc:=⟨74,[(.us 0),(.us 0)],[false,false],[(.int .i64)],fun x=>wzha x.1 x.2⟩
theorem y74:FcOk EE Tryz.prog k74:=wzio hEE (H:=[k26]) ⟨y26,trivial⟩ [] [] .n (fn:=Tryz.f74) rfl (by kernel_rfl) (by kernel_rfl) fun _=>by kernel_rfl
theorem wzhb (a0:qza) (b1:qza)  (r:Int) (h:wzha a0 b1=some r):qzq EE Tryz.prog 74 [.agg (qza.cells a0),.agg (qza.cells b1)] (.int .i64 r):=y74.still (x:=(a0,b1)) (y:=r) h (by kernel_rfl)
theorem qzia (a:qza):∀ l,(qzeg a l).Perm (a :: l)
 | []=>List.Perm.refl _
 | b :: l=>by
  unfold qzeg
  split
  ·exact List.Perm.refl _
  ·exact ((qzia a l).cons b).trans (List.Perm.swap a b l)
theorem qzp3:∀ l,(qzi1 l).Perm l
 | []=>List.Perm.refl _
 | a :: l=>(qzia a (qzi1 l)).trans ((qzp3 l).cons a)
def qzps (a b:qza):Prop:=ratV a≤ratV b
theorem qzkf (a:qza):∀ l,List.Pairwise qzps l→List.Pairwise qzps (qzeg a l)
 | [],_=>List.pairwise_singleton _ _
 | b :: l,h=>by
  unfold qzeg
  obtain ⟨h1,h2⟩:=List.pairwise_cons.1 h
  split
  ·rename_i e
   exact List.pairwise_cons.2 ⟨fun c hc=>by
    rcases List.mem_cons.1 hc with rfl | hc
    ·exact e
    ·exact Rat.le_trans e (h1 c hc),h⟩
  ·rename_i e
   refine List.pairwise_cons.2 ⟨fun c hc=>?_,qzkf a l h2⟩
   rcases List.mem_cons.1 ((qzia a l).mem_iff.1 hc) with rfl | hc
   ·exact (Rat.le_total).resolve_left e
   ·exact h1 c hc
theorem qzmz:∀ l,List.Pairwise qzps (qzi1 l)
 | []=>List.Pairwise.nil
 | a :: l=>qzkf a _ (qzmz l)
theorem qzpf {l:List qza} (h:qzjz l=true) {a b:qza} (ha:a∈l) (hb:b∈l):(∃ c,wzha a b=some c∧(c < 0↔ratV a < ratV b))∧(ratV a=ratV b→a=b):=by
 unfold qzjz at h
 have h1:=List.all_eq_true.1 (List.all_eq_true.1 h a ha) b hb
 simp only [Bool.and_eq_true] at h1
 obtain ⟨h1,h2⟩:=h1
 refine ⟨?_,fun e=>by simpa [e] using h2⟩
 cases hx:wzha a b with
 | none=>rw [hx] at h1; cases h1
 | some c=>rw [hx] at h1; exact ⟨c,rfl,by simpa using h1⟩
def qzqf (a:qza):List Value:=[.bool a.Neg,.string ⟨a.Num.toArray⟩,.string ⟨a.Den.toArray⟩]
theorem qz3i {g:Gh} {w:World} {b:Bool} {v:Value} (h:RV g w (.bool b) v):v=.bool b:=by cases h; rfl
theorem qzvv {g:Gh} {w:World} {s:List UInt8} {v:Value} (h:RV g w (.str s) v):v=.string ⟨s.toArray⟩:=by
 cases h with
 | str _ b hb=>subst hb; rfl
theorem qz1m (g:Gh) (w:World) (a:qza) (l:List Value) (h:RVs g w a.cells l):l=qzqf a:=by
 obtain ⟨hl,hx⟩:=h
 match l,hl with
 | [u,v,x],_ =>
  have h0:=hx 0 _ _ rfl rfl
  have h1:=hx 1 _ _ rfl rfl
  have h2:=hx 2 _ _ rfl rfl
  rw [qz3i h0,qzvv h1,qzvv h2]
  rfl
theorem qz2w (g:Gh) (w:World) (a:qza):RVs g w a.cells (qzqf a) :=
 .cons (.bool _) (.cons (.str _ _ rfl) (.cons (.str _ _ rfl) (.nil _ _)))
set_option maxHeartbeats 1000000 in
theorem qzkd (id ep:Nat) (l r:List qza) (h:yzm l=some r) (H:qzl) (hid:H id=ownO ep 3 qza.cells l):ATr EE Tryz.prog 73 [ownV id ep l,.fn 74 0 []] H (fun v h'=>v=.tup []∧h'=hset H id (ownO ep 3 qza.cells r)∧ownV id ep l=ownV id ep r):=by
 unfold yzm at h
 cases hx:(decide (0 < List.length l)&&qzjz l&&decide (List.length l≤4611686018427387900))
 ·rw [hx] at h; cases h
 rw [hx] at h
 have hr:r=qzi1 l:=(Option.some.inj h).symm
 simp only [Bool.and_eq_true,decide_eq_true_eq] at hx
 obtain ⟨⟨hn,hok⟩,hlen⟩:=hx
 have hperm:r.Perm l:=hr▸qzp3 l
 have hlr:r.length=l.length:=hperm.length_eq
 obtain ⟨x,t,rfl⟩:∃ x t,l=x :: t:=by
  cases l with
  | nil=>simp at hn
  | cons x t=>exact ⟨x,t,rfl⟩
 let α:={a:qza // a∈x :: t}
 have:Inhabited α:=⟨⟨x,by simp⟩⟩
 have m:=fun (a b:α)=>qzpf hok a.2 b.2
 have hlt:∀ a b:α,ltOf (fun a b:α=>(wzha a.1 b.1).getD 0) a b=decide (ratV a.1 < ratV b.1):=by
  intro a b
  obtain ⟨⟨c,hc,hc2⟩,_⟩:=m a b
  unfold ltOf
  simp only [hc,Option.getD_some]
  exact decide_eq_decide.2 hc2
 have hswo:Go.Sort.SWO (ltOf (fun a b:α=>(wzha a.1 b.1).getD 0)):=by
  refine ⟨fun a=>?_,fun a b c h1 h2=>?_,fun a b c h1 h2=>?_⟩
  ·rw [hlt]; simp [Rat.lt_irrefl]
  ·rw [hlt] at *
   simp only [decide_eq_true_eq] at *
   rw [← Rat.not_le] at *
   exact fun e=>h1 (Rat.le_trans (Rat.le_of_lt (Rat.not_le.1 h2)) e)
  ·rw [hlt] at *
   simp only [decide_eq_false_iff_not,Rat.not_lt] at *
   exact Rat.le_trans h2 h1
 have main:=wzfu (E:=EE) Tryz.sortF0 3 (by omega) Tryz.isAgg24 Tryz.sizeOf24 (fun a:α=>a.1.cells) (fun a:α=>qzqf a.1) (fun _=>rfl) (fun _=>rfl)
  (fun a v hv=>by simp [qzqf] at hv; rcases hv with rfl | rfl | rfl<;>rfl) (fun g w a l hl=>qz1m g w a.1 l hl) (fun g w a=>qz2w g w a.1)
  (fun a b:α=>(wzha a.1 b.1).getD 0) hswo 74 (enters_of Tryz.func74 (by kernel_rfl) rfl)
  (fun a b=>by
   obtain ⟨⟨c,hc,_⟩,_⟩:=m a b
   simp only [hc,Option.getD_some]
   exact wzhb a.1 b.1 c hc)
  (h:=H) (id:=id) (ep:=ep) (n:=(x :: t).length) (f:=qzd qza.cells (x :: t)) (d:=(x :: t).attach.toArray) hid (by simp) (by simp) (by omega)
  (fun j hj=>by
   rw [qzo (List.getElem?_eq_getElem hj)]
   have:j < ((x :: t).attach.toArray).size:=by simpa using hj
   rw [getElem!_pos _ j this]
   simp only [List.getElem_toArray]
   exact congrArg (fun a:α=>a.1.cells) (List.getElem_attach (xs:=x :: t) (by simpa using hj)).symm)
 refine main.sub ?_
 rintro v h' ⟨rfl,d',hp,hs,rfl⟩
 obtain ⟨hp1,_,hp2⟩:=hp
 have hds:d'.size=(x :: t).length:=by rw [hp1]; simp
 have gen:∀ A:Array α,A.extract 0 A.size=A:=fun A=>by simp
 have e1:d'.extract 0 (x :: t).length=d':=by rw [← hds]; simp
 have e2:((x :: t).attach.toArray).extract 0 (x :: t).length=(x :: t).attach.toArray:=by
  have:(x :: t).length=((x :: t).attach.toArray).size:=by simp
  rw [this]; exact gen _
 rw [e1,e2] at hp2
 have hp3:(d'.toList.map (·.1)).Perm (x :: t):=by
  have:=hp2.map (·.1)
  simpa using this
 have hdr:d'.toList.map (·.1)=r:=by
  refine List.Perm.eq_of_pairwise (le:=qzps) (fun a b ha hb h1 h2=>?_) ?_ (hr▸qzmz _) (hp3.trans hperm.symm)
  ·exact (qzpf hok (hp3.mem_iff.1 ha) (hperm.mem_iff.1 hb)).2 (Rat.le_antisymm h1 h2)
  ·rw [List.pairwise_iff_getElem]
   intro i j hi hj hij
   have hi':i < d'.size:=by simpa using hi
   have hj':j < d'.size:=by simpa using hj
   have:=hs i j (Nat.zero_le _) hij (by rw [← hds]; exact hj')
   rw [hlt,getElem!_pos d' i hi',getElem!_pos d' j hj'] at this
   simp only [decide_eq_false_iff_not,Rat.not_lt] at this
   simpa [qzps] using this
 have hov:ownV id ep (x :: t)=ownV id ep r:=qzvh hlr.symm
 refine ⟨_,⟨rfl,rfl,hov⟩,fun i=>?_⟩
 simp only [hset]
 split
 ·obtain ⟨z,zs,rfl⟩:∃ z zs,r=z :: zs:=by
   cases r with
   | nil=>simp at hlr
   | cons z zs=>exact ⟨z,zs,rfl⟩
  refine .inr (.inr ⟨ep,3,(x :: t).length,_,qzd qza.cells (z :: zs),rfl,?_,fun k hk=>?_⟩)
  ·rw [← hlr]; rfl
  ·have hk':k < d'.size:=by rw [hds]; exact hk
   have hk2:k < (z :: zs).length:=by rw [hlr]; exact hk
   rw [qzo (List.getElem?_eq_getElem hk2),getElem!_pos d' k hk']
   have:(z :: zs)[k]?=some d'[k].1:=by rw [← hdr]; simp [hk']
   rw [List.getElem?_eq_getElem hk2] at this
   rw [Option.some.inj this]
 ·exact .refl _
theorem qzt1 (a0:qza) (b1:qza)  (r:qza×Int) (h:qzgm a0 b1=some r):qzq EE Tryz.prog 76 [.agg (qza.cells a0),.agg (qza.cells b1)] (.tup [.agg (qza.cells r.1),.int .i64 r.2]):=by
 refine Pure.still ?_ hEE (by simp [-qzh,qza.cells]<;>assumption) (by simp [-qzh,qza.cells])
 obtain ⟨c,hb,hc⟩:=ck76
 replace h:=Ok.of h; unfold qzgm at h
 refine Pure.ofs (fn:=Tryz.f76) (n:=16) rfl hb cr76 (hc 0) rfl rfl (by simp) ?_
 refine AW.rS [(2,.ptr 0 1 0),(3,.ptr 1 1 0),(4,.ptr 2 1 0)] [(0,.box 1 [.bool a0.Neg,.str a0.Num,.str a0.Den]),(1,.box 1 [.bool b1.Neg,.str b1.Num,.str b1.Den]),(2,.box 1 [.bool false,.str [],.str []])] ?_ ?_
 ·simp [qz9s,-Int.pred_toNat]
  all_goals exact zq1
 refine .seq ?_
 obtain ⟨r1,h1,h⟩:=h.ex
 refine AW.rS [(2,.ptr 0 1 0),(3,.ptr 1 1 0),(4,.ptr 2 1 0),(9,.bool (decide (r1.num=[])))] [(0,.box 1 [.bool a0.Neg,.str a0.Num,.str a0.Den]),(1,.box 1 [.bool b1.Neg,.str b1.Num,.str b1.Den]),(2,.box 1 [.bool false,.str [],.str []])] ?_ ?_
 ·simp [qz4l,-Int.pred_toNat]
  (repeat' apply And.intro)<;>try first | omega | (simp at*<;> omega)
  refine (jzj b1  _ h1).ca (by simp [-Int.pred_toNat]) ?_
  (try simp [-Int.pred_toNat])
  all_goals exact zq1
 refine AW.ifF (decide (r1.num=[])) rfl (by simp) (fun e=>?_) (fun e=>?_)
 ·replace h:=h.pos e
  refine AW.rS [(4,.ptr 2 1 0),(5,.int .i64 1)] [(0,.gone 1),(1,.gone 1),(2,.box 1 [.bool false,.str [],.str []])] ?_ ?_
  ·simp [wzcs,-Int.pred_toNat]
   all_goals exact zq1
  have hr:=h.some
  subst hr
  refine AW.rt (rs:=rs76) [(4,.ptr 2 1 0),(5,.int .i64 1)] [(0,.gone 1),(1,.gone 1),(2,.box 1 (qza.cells (qza.mk false [] [])))] (by simp) (by simp) rfl rfl (by simp [rs76]) (by simp [rs76]; try rfl)
 ·replace h:=h.neg e
  refine AW.skip ?_
  obtain ⟨r2,h2,h⟩:=h.ex
  obtain ⟨r3,h3,h⟩:=h.ex
  refine AW.dS [(4,.ptr 2 1 0),(5,.int .i64 0)] [(0,.gone 1),(1,.gone 1),(2,.box 1 (qza.cells r3))] ?_ ?_
  ·simp [qz9d,-Int.pred_toNat]
   (repeat' apply And.intro)<;>try first | omega | (simp at*<;> omega)
   refine (jzj a0  _ h2).cd (by simp [-Int.pred_toNat]) ?_
   (try simp [-Int.pred_toNat])
   (repeat' apply And.intro)<;>try first | omega | (simp at*<;> omega)
   refine (qzf8 (fun a0=>wz4 r2 a0) b1 102 1 [.agg (qzf.cells r2)] (by simp [jzc]) (fun a0 r h=>⟨by kernel_rfl,(qzd3 r2 a0  r h).w (by simp [fnArgs])⟩) _ h3).cd (by simp [-Int.pred_toNat]) ?_
   (try simp [-Int.pred_toNat])
   all_goals exact zq2
  have hr:=h.some
  subst hr
  refine AW.rt (rs:=rs76) [(4,.ptr 2 1 0),(5,.int .i64 0)] [(0,.gone 1),(1,.gone 1),(2,.box 1 (qza.cells r3))] (by simp) (by simp) rfl rfl (by simp [rs76]) (by simp [rs76]; try rfl)
def k76:Fc:=⟨76,[(.us 0),(.us 0)],[false,false],[(.us 0),(.int .i64)],fun x=>qzgm x.1 x.2⟩
theorem y76:FcOk EE Tryz.prog k76:=⟨by kernel_rfl,fun x _ h=>(qzt1 x.1 x.2 _ h).cast (by kernel_rfl)⟩
abbrev qzaq (l0:List qzb) (s:Int) (ex:Nat):List (Nat×AVal):=match s,ex with | t16,ep0=>[(0,slcV 8 qzb.cells l0),(14,slcV 8 qzb.cells l0),(15,.int .i64 (List.length l0:Int)),(16,.int .i64 t16)]
abbrev qzao (l0:List qzb) (s:Int) (ex:Nat):List (Nat×AObj):=match s,ex with | t16,ep0=>[(0,.gone ep0)]
abbrev qzgp (l0:List qzb):Unit⊕Int→Exit→ASt→Prop:=fun o ex S'=>match o with | .inl ()=>∃ ep0:Nat,ex=.exit 0∧See EE S' ⟨tl [] 66,hl [(0,.gone ep0)],[]⟩ | .inr o=>ex=.ret∧Post EE rs16 (fun x _=>x=.int .i64 o) .ret S'
theorem qzl7 (l0:List qzb) (t16:Int) (ep0:Nat) (QQ:Int⊕(Unit⊕Int)→Prop) (h:Ok (yzv l0 t16) QQ):AW EE none Tryz.prog (wzbl 0) (fun ex S'=>(∃ s' e',ex=.normal∧QQ (.inl s')∧See EE S' ⟨tl ((qzaq l0) s' e') 66,hl ((qzao l0) s' e'),[]⟩)∨(∃ o,QQ (.inr o)∧ex≠.normal∧(qzgp l0) o ex S')) ⟨tl [(0,slcV 8 qzb.cells l0),(14,slcV 8 qzb.cells l0),(15,.int .i64 (List.length l0:Int)),(16,.int .i64 t16)] 66,hl [(0,.gone ep0)],[]⟩:=by
 unfold yzv at h
 refine AW.rS [(0,slcV 8 qzb.cells l0),(14,slcV 8 qzb.cells l0),(15,.int .i64 (List.length l0:Int)),(16,.int .i64 t16),(17,.bool (decide (t16 < (List.length l0:Int))))] [(0,.gone ep0)] ?_ ?_
 ·simp [wzaj,-Int.pred_toNat]
  all_goals exact zq1
 refine .seq ?_
 refine AW.ifF (decide (t16 < (List.length l0:Int))) rfl (by simp) (fun e=>?_) (fun e=>?_)
 ·replace h:=h.pos e
  refine AW.skip ?_
  refine .seq ?_
  refine .block ?_
  obtain ⟨x1,h1,h⟩:=h.at
  refine AW.rS [(0,slcV 8 qzb.cells l0),(4,.int .i64 t16),(5,.ptr 0 (ep0+1) 0),(14,slcV 8 qzb.cells l0),(15,.int .i64 (List.length l0:Int)),(16,.int .i64 t16)] [(0,.box (ep0+1) [.int .i64 x1.State,.int .i64 x1.Weight,.bool x1.Floor.Neg,.str x1.Floor.Num,.str x1.Floor.Den,.bool x1.Cap.Neg,.str x1.Cap.Num,.str x1.Cap.Den])] ?_ ?_
  ·obtain ⟨f1a,f1b,f1c⟩:=h1
   have f1d:qzd qzb.cells l0 (Int.toNat t16)=qzb.cells x1:=qzo f1c
   have f1e:Int.toNat t16 < List.length l0:=by omega
   simp [wza4,-Int.pred_toNat,f1a,f1b,f1d,f1e]
   (repeat' apply And.intro)<;>first | omega | (simp at*<;> omega) | (intro _; intros; simp_all; done) | exact .mk (by simp [-Int.pred_toNat,f1a,f1b,f1d,f1e]) (by simp [-Int.pred_toNat,f1a,f1b,f1d,f1e]) rfl
  refine .block ?_
  refine AW.rS [(0,slcV 8 qzb.cells l0),(4,.int .i64 t16),(5,.ptr 0 (ep0+1) 0),(14,slcV 8 qzb.cells l0),(15,.int .i64 (List.length l0:Int)),(16,.int .i64 t16),(21,.bool (bif (bif (bif (decide (x1.State < 0)) then true else (decide (8≤x1.State))) then true else (decide (x1.Weight < 1))) then true else (decide (1000000 < x1.Weight))))] [(0,.box (ep0+1) [.int .i64 x1.State,.int .i64 x1.Weight,.bool x1.Floor.Neg,.str x1.Floor.Num,.str x1.Floor.Den,.bool x1.Cap.Neg,.str x1.Cap.Num,.str x1.Cap.Den])] ?_ ?_
  ·simp [qz53,-Int.pred_toNat]
   all_goals exact zq1
  refine AW.ifF (bif (bif (bif (decide (x1.State < 0)) then true else (decide (8≤x1.State))) then true else (decide (x1.Weight < 1))) then true else (decide (1000000 < x1.Weight))) rfl (by simp) (fun e=>?_) (fun e=>?_)
  ·replace h:=h.pos e
   refine AW.rS [(2,.int .i64 3)] [(0,.gone (ep0+1))] ?_ ?_
   ·simp [qz9h,-Int.pred_toNat]
    all_goals exact zq1
   exact .ret (.inr ⟨.inr 3,h.some,by simp,rfl,.wk (rs:=rs16) [(2,.int .i64 3)] [(0,.gone (ep0+1))] (by simp) (by simp) rfl (by simp [rs16]) (by simp [rs16]; try rfl)⟩)
  ·replace h:=h.neg e
   obtain ⟨r1,h2,h⟩:=h.ex
   obtain ⟨r2,h3,h⟩:=h.ex
   obtain ⟨r3,h4,h⟩:=h.ex
   refine AW.rS [(0,slcV 8 qzb.cells l0),(4,.int .i64 t16),(5,.ptr 0 (ep0+1) 0),(14,slcV 8 qzb.cells l0),(15,.int .i64 (List.length l0:Int)),(16,.int .i64 t16),(40,.bool (bif (bif (!r1) then true else (!r2)) then true else (decide (0 < r3))))] [(0,.box (ep0+1) [.int .i64 x1.State,.int .i64 x1.Weight,.bool x1.Floor.Neg,.str x1.Floor.Num,.str x1.Floor.Den,.bool x1.Cap.Neg,.str x1.Cap.Num,.str x1.Cap.Den])] ?_ ?_
   ·simp [qz5h,-Int.pred_toNat]
    (repeat' apply And.intro)<;>try first | omega | (simp at*<;> omega)
    refine (qzcg x1.Floor  _ h2).ca (by simp [-Int.pred_toNat]) ?_
    (try simp [-Int.pred_toNat])
    (repeat' apply And.intro)<;>try first | omega | (simp at*<;> omega)
    refine jzo.pure _ (by simp [-Int.pred_toNat]) (fun e=>(qzcg x1.Cap  _ (gd_t (by first | (exfalso; simp at e; done) | simpa using e | simp_all) h3)).w (by first | (simp [-Int.pred_toNat]; done) | (exfalso; simp at e; done) | (simp_all; done))) ?_
    (try simp [-Int.pred_toNat])
    (repeat' apply And.intro)<;>try first | omega | (simp at*<;> omega)
    refine jzo.pure _ (by simp [-Int.pred_toNat]) (fun e=>(jze x1.Floor x1.Cap  _ (gd_t (by first | (exfalso; simp at e; done) | simpa using e | simp_all) h4)).w (by first | (simp [-Int.pred_toNat]; done) | (exfalso; simp at e; done) | (simp_all; done))) ?_
    (try simp [-Int.pred_toNat])
    all_goals exact zq1
   refine AW.ifF (bif (bif (!r1) then true else (!r2)) then true else (decide (0 < r3))) rfl (by simp) (fun e=>?_) (fun e=>?_)
   ·replace h:=h.pos e
    refine AW.rS [(2,.int .i64 1)] [(0,.gone (ep0+1))] ?_ ?_
    ·simp [qzy7,-Int.pred_toNat]
     all_goals exact zq1
    exact .ret (.inr ⟨.inr 1,h.some,by simp,rfl,.wk (rs:=rs16) [(2,.int .i64 1)] [(0,.gone (ep0+1))] (by simp) (by simp) rfl (by simp [rs16]) (by simp [rs16]; try rfl)⟩)
   ·replace h:=h.neg e
    refine AW.frz 0 [(0,slcV 8 qzb.cells l0),(4,.int .i64 t16),(5,.cptr (fun k=>[.int .i64 x1.State,.int .i64 x1.Weight,.bool x1.Floor.Neg,.str x1.Floor.Num,.str x1.Floor.Den,.bool x1.Cap.Neg,.str x1.Cap.Num,.str x1.Cap.Den].getD k .top) 8 0),(14,slcV 8 qzb.cells l0),(15,.int .i64 (List.length l0:Int)),(16,.int .i64 t16),(40,.bool (bif (bif (!r1) then true else (!r2)) then true else (decide (0 < r3))))] [(0,.gone (ep0+2))] rfl rfl trivial (by simp) (by simp) rfl ?_
    obtain ⟨h5,h⟩:=h.ck
    obtain ⟨r4,h6,h⟩:=h.ex
    refine AW.rS [(0,slcV 8 qzb.cells l0),(14,slcV 8 qzb.cells l0),(15,.int .i64 (List.length l0:Int)),(16,.int .i64 t16),(59,.bool r4)] [(0,.gone (ep0+2))] ?_ ?_
    ·have f2s:=vzn h5
     obtain ⟨f2a,f2b,f2c⟩:=vz4 h5
     simp [qzx6,-Int.pred_toNat,f2s,f2a,f2b,f2c]
     (repeat' apply And.intro)<;>try first | omega | (simp at*<;> omega)
     refine (qzir (sub l0 0 t16) (fun a0=>qzan a0 x1) 53 0 [.cptr (fun k=>[.int .i64 x1.State,.int .i64 x1.Weight,.bool x1.Floor.Neg,.str x1.Floor.Num,.str x1.Floor.Den,.bool x1.Cap.Neg,.str x1.Cap.Num,.str x1.Cap.Den].getD k .top) 8 0] (by simp [jzc]) (fun a0 r h=>⟨by kernel_rfl,(qzmp  a0 x1 r h).w (by simp [fnArgs])⟩) _ h6).ca (by simp [-Int.pred_toNat,f2s,f2a,f2b,f2c]<;>first | (intro k hk; simpa using kzw (c:=qzb.cells) h5 k (by omega))) ?_
     (try simp [-Int.pred_toNat,f2s,f2a,f2b,f2c])
     (repeat' apply And.intro)<;>first | omega | (simp at*<;> omega) | (intro _; intros; simp_all; done) | exact .mk (by simp [-Int.pred_toNat,f2s,f2a,f2b,f2c]<;>first | (intro k hk; simpa using kzw (c:=qzb.cells) h5 k (by omega))) (by simp [-Int.pred_toNat,f2s,f2a,f2b,f2c]<;>first | (intro k hk; simpa using kzw (c:=qzb.cells) h5 k (by omega))) rfl
    refine AW.ifF r4 rfl (by simp) (fun e=>?_) (fun e=>?_)
    ·replace h:=h.pos e
     refine AW.rS [(2,.int .i64 9)] [(0,.gone (ep0+2))] ?_ ?_
     ·simp [qzza,-Int.pred_toNat]
      all_goals exact zq1
     exact .ret (.inr ⟨.inr 9,h.some,by simp,rfl,.wk (rs:=rs16) [(2,.int .i64 9)] [(0,.gone (ep0+2))] (by simp) (by simp) rfl (by simp [rs16]) (by simp [rs16]; try rfl)⟩)
    ·replace h:=h.neg e
     refine AW.skip ?_
     obtain ⟨h7,h⟩:=h.ck
     refine AW.rE [(0,slcV 8 qzb.cells l0),(14,slcV 8 qzb.cells l0),(15,.int .i64 (List.length l0:Int)),(16,.int .i64 (t16+1))] [(0,.gone (ep0+2))] ?_ (fun S' hs1=>?_)
     ·have f3:=qzr h7
      simp [qzxx,-Int.pred_toNat,f3]
      (repeat' apply And.intro)<;>first | omega | (simp at*<;> omega) | (intro _; intros; simp_all; done) | exact .mk (by simp [-Int.pred_toNat,f3]) (by simp [-Int.pred_toNat,f3]) rfl
     exact .inl ⟨(t16+1),(ep0+2),rfl,h.some,(hs1.trans (.wk (by simp [qzaq]) (by simp [qzao]) rfl))⟩
 ·replace h:=h.neg e
  refine .exit ?_
  exact .inr ⟨.inl (),h.some,by simp,⟨ep0,rfl,(.wk (by simp) (by simp) rfl)⟩⟩
theorem qzbp (l0:List qzb)  (r:Int) (h:kz4 l0=some r):qzq EE Tryz.prog 16 [slcV 8 qzb.cells l0] (.int .i64 r):=by
 refine Pure.still ?_ hEE (by simp [-qzh,(fun l=>qzj (st:=8) (c:=qzb.cells) (l:=l) qzb.noref)]<;>assumption) (by simp [-qzh,(fun l=>qzj (st:=8) (c:=qzb.cells) (l:=l) qzb.noref)])
 obtain ⟨c,hb,hc⟩:=ck16
 replace h:=Ok.of h; unfold kz4 at h
 refine Pure.ofs (fn:=Tryz.f16) (n:=66) rfl hb cr16 (hc 0) rfl rfl (by simp) ?_
 refine AW.rS [(0,slcV 8 qzb.cells l0)] [] ?_ ?_
 ·simp [qz7h,-Int.pred_toNat]
  all_goals exact zq1
 refine .seq ?_
 refine AW.rS [(0,slcV 8 qzb.cells l0),(3,.int .i64 (List.length l0:Int))] [] ?_ ?_
 ·simp [qz67,-Int.pred_toNat]
  all_goals exact zq1
 refine AW.rS [(0,slcV 8 qzb.cells l0),(13,.bool (bif (decide ((List.length l0:Int) < 1)) then true else (decide (8 < (List.length l0:Int)))))] [] ?_ ?_
 ·simp [wzat,-Int.pred_toNat]
  all_goals exact zq1
 refine AW.ifF (bif (decide ((List.length l0:Int) < 1)) then true else (decide (8 < (List.length l0:Int)))) rfl (by simp) (fun e=>?_) (fun e=>?_)
 ·replace h:=h.pos e
  refine AW.rS [(2,.int .i64 2)] [] ?_ ?_
  ·simp [qz6h,-Int.pred_toNat]
   all_goals exact zq1
  have hr:=h.some
  subst hr
  refine AW.rt (rs:=rs16) [(2,.int .i64 2)] [] (by simp) (by simp) rfl rfl (by simp [rs16]) (by simp [rs16]; try rfl)
 ·replace h:=h.neg e
  refine AW.skip ?_
  refine .seq ?_
  refine AW.rS [(0,slcV 8 qzb.cells l0),(14,slcV 8 qzb.cells l0),(15,.int .i64 (List.length l0:Int)),(16,.int .i64 0)] [] ?_ ?_
  ·simp [qz7v,-Int.pred_toNat]
   all_goals exact zq1
  refine .block ?_
  refine AW.lpF (ε:=Nat) 0 h.bd (qzaq l0) (qzao l0) (qzgp l0) (by simp [qzaq]) (by simp [qzao]) rfl ?_ ?_
  ·rintro t16 ep0 QQ h
   exact qzl7 l0 t16 ep0 QQ h
  ·intro o h ex S' hs
   rcases o with ⟨⟩ | o
   ·obtain ⟨ep0,rfl,hs⟩:=hs
    refine .see hs ?_
    refine AW.rS [(2,.int .i64 0)] [(0,.gone ep0)] ?_ ?_
    ·simp [qzz5,-Int.pred_toNat]
     all_goals exact zq1
    have hr:=h.some
    subst hr
    refine AW.rt (rs:=rs16) [(2,.int .i64 0)] [(0,.gone ep0)] (by simp) (by simp) rfl rfl (by simp [rs16]) (by simp [rs16]; try rfl)
   ·obtain ⟨rfl,hs⟩:=hs
    cases h.some
    exact hs
def k16:Fc:=⟨16,[(.slc (.us 1))],[false],[(.int .i64)],fun x=>kz4 x⟩
theorem y16:FcOk EE Tryz.prog k16:=⟨by kernel_rfl,fun x _ h=>(qzbp x _ h).cast (by kernel_rfl)⟩
def k22:Fc:=⟨22,[(.us 0),(.us 0)],[false,false],[(.us 0)],fun x=>qzeh x.1 x.2⟩
theorem y22:FcOk EE Tryz.prog k22:=wzio hEE (H:=[k26,k61,k62]) ⟨y26,y61,y62,trivial⟩ [] [] .n (fn:=Tryz.f22) rfl (by kernel_rfl) (by kernel_rfl) fun _=>by kernel_rfl
def k23:Fc:=⟨23,[(.us 0),(.us 0)],[false,false],[(.us 0)],fun x=>qzen x.1 x.2⟩
theorem y23:FcOk EE Tryz.prog k23:=wzio hEE (H:=[k26,k61,k62]) ⟨y26,y61,y62,trivial⟩ [] [] .n (fn:=Tryz.f23) rfl (by kernel_rfl) (by kernel_rfl) fun _=>by kernel_rfl
def k25:Fc:=⟨25,[(.slc (.us 0))],[false],[(.us 0)],fun x=>vz7 x⟩
theorem y25:FcOk EE Tryz.prog k25:=wzio hEE (H:=[k65]) ⟨y65,trivial⟩ [] [] .n (fn:=Tryz.f25) rfl (by kernel_rfl) (by kernel_rfl) fun _=>by kernel_rfl
theorem qzbg (l0:List qza)  (r:qza) (h:vz7 l0=some r):qzq EE Tryz.prog 25 [slcV 3 qza.cells l0] (.agg (qza.cells r)):=y25.still (x:=(l0)) (y:=r) h (by kernel_rfl)
end Go.Am

