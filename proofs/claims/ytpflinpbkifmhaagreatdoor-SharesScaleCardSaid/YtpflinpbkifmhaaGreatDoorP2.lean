/- Part P2 of the proof that the last part closes: contracts of the functions of this seat. No condition. -/
import Derived.Test.YtpflinpbkifmhaaGreatDoorF1
import Derived.Test.YtpflinpbkifmhaaGreatDoorG1
import Derived.Test.YtpflinpbkifmhaaGreatDoorX1
import Derived.Test.YtpflinpbkifmhaaGreatDoorP1
set_option linter.unusedVariables false
set_option linter.unusedSimpArgs false
set_option maxRecDepth 100000
namespace Go.Am
open Go.Proofs
attribute [local simp] areg aop dreg dop AOp.req argv argU AOp.args wze AOp.unAll Req.val Req.when putT putH qzdb ablk qzfc qzbd qzg6 vzl qzcj qzif qzid qzh7 qzh1 qzhy qzko qzhz qzji qzim qzgg qznh qzj2 qzkg qzjx IntKind.bits vz1 ARes.ok ARes.val vz5 cut AOp.quiet
attribute [local simp] qzc0 qzbz qzcz qze2 qzer qzep kzp qz1 qzh2 qzij
attribute [local simp] qzm6 qzj7 qzhq qzih qzm4 look qz8 zipA wm wh
attribute [local simp] qzm7 qzpn qzpz qzmg qzpx qzmf qzpo qzqa qzpi qzqk qzpm w_fn qznc qzjs qzjh qzhs qzj1 qzmh qzmi AObj.ep AObj.plain AObj.owned
attribute [local simp] wz9 qzbw qzeu qzdp qzey qzd2 qze5 qzfk qze7 qzdi qzdk qzd0 qzgy qzcq qzg5 qzc6 qzfa vz6 lay jzv ldv wzu qz5 kz1 qz9 qzgh wzd AVal.kind
attribute [local simp] AVal.one_int AVal.one_bool AVal.one_str AVal.one_nils AVal.one_slc AVal.one_vec AVal.one_ptr AVal.one_eptr AVal.one_cptr AVal.one_nilp AVal.one_fn AVal.one_nilfn AVal.one_mp AVal.one_nilmp
attribute [local simp] qzkh qzkv qzh8 qzh4 qzkt qzjr qzii qzik qzjn qzkm qzjf qzjw qzkl qzje qzh6 qzhx qzin qzig qzh5 qzio qzm9 qzna qzgf qzgr qzmt qzmr qzgn qzgz qzj6 qzj9 qzjv qzka qzju qzki qzkr qzku
attribute [local simp] qzh cI cB cS cL qzc3 qzdh qzdz qzb7 qzg1 qzh0 qzgc qziq fzm fzh fzv fzl fz1 qzjm qzhw qzjp qzjl qzjk List.range_succ qzd5 qze0 qzfg qzco qzdq qzdu qzag qzdw qzd4
attribute [local simp] qzj0
attribute [local simp] qza.cells
attribute [local simp] qzb.cells
attribute [local simp] qze.cells
attribute [local simp] kzi.cells
attribute [local simp] qz6.cells
attribute [local simp] qzf.cells
attribute [local simp] jzi.cells
attribute [local simp] vzs.cells
attribute [local simp] vzu.cells
attribute [local simp] kzj.cells
attribute [local simp] jzh.cells
attribute [local simp] jzk.cells
set_option maxHeartbeats 4000000
attribute [local simp] qzcs qzdm fnArgs
def k31:Fc:=⟨31,[(.int .i64),(.int .i64)],[false,false],[(.us 0)],fun x=>jza x.1 x.2⟩
theorem y31:FcOk EE Tryz.prog k31:=wzio hEE (H:=[k71]) ⟨y71,trivial⟩ [] [] .n (fn:=Tryz.f31) rfl (by kernel_rfl) (by kernel_rfl) fun _=>by kernel_rfl
def k33:Fc:=⟨33,[(.slc (.us 1)),(.us 0)],[false,false],[(.int .i64)],fun x=>yzg x.1 x.2⟩
theorem y33:FcOk EE Tryz.prog k33:=wzio hEE (H:=[k16,k51]) ⟨y16,y51,trivial⟩ [] [] .n (fn:=Tryz.f33) rfl (by kernel_rfl) (by kernel_rfl) fun _=>by kernel_rfl
theorem qzec (l0:List qzb) (a1:qza)  (r:Int) (h:yzg l0 a1=some r):qzq EE Tryz.prog 33 [slcV 8 qzb.cells l0,.agg (qza.cells a1)] (.int .i64 r):=y33.still (x:=(l0,a1)) (y:=r) h (by kernel_rfl)
def k35:Fc:=⟨35,[(.us 4),(.us 1)],[false,false],[(.us 0)],fun x=>wza x.1 x.2⟩
theorem y35:FcOk EE Tryz.prog k35:=wzio hEE (H:=[k22,k23,k27,k28]) ⟨y22,y23,y27,y28,trivial⟩ [] [] .n (fn:=Tryz.f35) rfl (by kernel_rfl) (by kernel_rfl) fun _=>by kernel_rfl
theorem qzam (x0:qz6) (s1:qzb)  (r:qza) (h:wza x0 s1=some r):qzq EE Tryz.prog 35 [.agg (qz6.cells x0),.agg (qzb.cells s1)] (.agg (qza.cells r)):=y35.still (x:=(x0,s1)) (y:=r) h (by kernel_rfl)
theorem qzdd (l0:List qzb)  (r:qza) (h:jzn l0=some r):qzq EE Tryz.prog 36 [slcV 8 qzb.cells l0] (.agg (qza.cells r)):=by
 refine Pure.still ?_ hEE (by simp [-qzh,(fun l=>qzj (st:=8) (c:=qzb.cells) (l:=l) qzb.noref),qza.cells]<;>assumption) (by simp [-qzh,(fun l=>qzj (st:=8) (c:=qzb.cells) (l:=l) qzb.noref),qza.cells])
 obtain ⟨c,hb,hc⟩:=ck36
 replace h:=Ok.of h; unfold jzn at h
 refine Pure.ofs (fn:=Tryz.f36) (n:=6) rfl hb cr36 (hc 0) rfl rfl (by simp) ?_
 refine AW.rS [(0,slcV 8 qzb.cells l0),(2,.ptr 0 1 0)] [(0,.box 1 [.bool false,.str [],.str []])] ?_ ?_
 ·simp [qz8l,-Int.pred_toNat]
  all_goals exact zq1
 obtain ⟨r1,h1,h⟩:=h.ex
 obtain ⟨r2,h2,h⟩:=h.ex
 refine AW.rS [(2,.ptr 0 1 0)] [(0,.box 1 (qza.cells r2))] ?_ ?_
 ·simp [qz71,-Int.pred_toNat]
  (repeat' apply And.intro)<;>try first | omega | (simp at*<;> omega)
  refine (wzc l0 (fun a0=>jzx a0) 72 0 [] (by simp [jzc]) (fun a0 r h=>⟨by kernel_rfl,(qzhh  a0  r h).w (by simp [fnArgs])⟩) _ h1).ca (by simp [-Int.pred_toNat]) ?_
  (try simp [-Int.pred_toNat])
  (repeat' apply And.intro)<;>try first | omega | (simp at*<;> omega)
  refine (qzbg r1  _ h2).ca (by simp [-Int.pred_toNat]) ?_
  (try simp [-Int.pred_toNat])
  all_goals exact zq1
 have hr:=h.some
 subst hr
 refine AW.rt (rs:=rs36) [(2,.ptr 0 1 0)] [(0,.box 1 (qza.cells r2))] (by simp) (by simp) rfl rfl (by simp [rs36]) (by simp [rs36]; try rfl)
def k36:Fc:=⟨36,[(.slc (.us 1))],[false],[(.us 0)],fun x=>jzn x⟩
theorem y36:FcOk EE Tryz.prog k36:=⟨by kernel_rfl,fun x _ h=>(qzdd x _ h).cast (by kernel_rfl)⟩
theorem qzhe (l0:List qzb)  (r:qza) (h:jz1 l0=some r):qzq EE Tryz.prog 38 [slcV 8 qzb.cells l0] (.agg (qza.cells r)):=by
 refine Pure.still ?_ hEE (by simp [-qzh,(fun l=>qzj (st:=8) (c:=qzb.cells) (l:=l) qzb.noref),qza.cells]<;>assumption) (by simp [-qzh,(fun l=>qzj (st:=8) (c:=qzb.cells) (l:=l) qzb.noref),qza.cells])
 obtain ⟨c,hb,hc⟩:=ck38
 replace h:=Ok.of h; unfold jz1 at h
 refine Pure.ofs (fn:=Tryz.f38) (n:=6) rfl hb cr38 (hc 0) rfl rfl (by simp) ?_
 refine AW.rS [(0,slcV 8 qzb.cells l0),(2,.ptr 0 1 0)] [(0,.box 1 [.bool false,.str [],.str []])] ?_ ?_
 ·simp [wzae,-Int.pred_toNat]
  all_goals exact zq1
 obtain ⟨r1,h1,h⟩:=h.ex
 obtain ⟨r2,h2,h⟩:=h.ex
 refine AW.rS [(2,.ptr 0 1 0)] [(0,.box 1 (qza.cells r2))] ?_ ?_
 ·simp [qz7e,-Int.pred_toNat]
  (repeat' apply And.intro)<;>try first | omega | (simp at*<;> omega)
  refine (wzc l0 (fun a0=>jzb a0) 75 0 [] (by simp [jzc]) (fun a0 r h=>⟨by kernel_rfl,(qzgj  a0  r h).w (by simp [fnArgs])⟩) _ h1).ca (by simp [-Int.pred_toNat]) ?_
  (try simp [-Int.pred_toNat])
  (repeat' apply And.intro)<;>try first | omega | (simp at*<;> omega)
  refine (qzbg r1  _ h2).ca (by simp [-Int.pred_toNat]) ?_
  (try simp [-Int.pred_toNat])
  all_goals exact zq1
 have hr:=h.some
 subst hr
 refine AW.rt (rs:=rs38) [(2,.ptr 0 1 0)] [(0,.box 1 (qza.cells r2))] (by simp) (by simp) rfl rfl (by simp [rs38]) (by simp [rs38]; try rfl)
def k39:Fc:=⟨39,[(.us 0),(.us 0)],[false,false],[(.us 0)],fun x=>wzs x.1 x.2⟩
theorem y39:FcOk EE Tryz.prog k39:=wzio hEE (H:=[k76]) ⟨y76,trivial⟩ [] [] .n (fn:=Tryz.f39) rfl (by kernel_rfl) (by kernel_rfl) fun _=>by kernel_rfl
theorem kza (a0:qza) (b1:qza)  (r:qza) (h:wzs a0 b1=some r):qzq EE Tryz.prog 39 [.agg (qza.cells a0),.agg (qza.cells b1)] (.agg (qza.cells r)):=y39.still (x:=(a0,b1)) (y:=r) h (by kernel_rfl)
theorem qzr4 (l0:List qzb) (level1:qza)  (r:(List qza)×Int) (h:qzk4 l0 level1=some r):qzq EE Tryz.prog 10 [slcV 8 qzb.cells l0,.agg (qza.cells level1)] (.tup [slcV 3 qza.cells r.1,.int .i64 r.2]):=by
 refine Pure.still ?_ hEE (by simp [-qzh,(fun l=>qzj (st:=8) (c:=qzb.cells) (l:=l) qzb.noref),(fun l=>qzj (st:=3) (c:=qza.cells) (l:=l) qza.noref),qza.cells]<;>assumption) (by simp [-qzh,(fun l=>qzj (st:=8) (c:=qzb.cells) (l:=l) qzb.noref),(fun l=>qzj (st:=3) (c:=qza.cells) (l:=l) qza.noref),qza.cells])
 obtain ⟨c,hb,hc⟩:=ck10
 replace h:=Ok.of h; unfold qzk4 at h
 refine Pure.ofs (fn:=Tryz.f10) (n:=18) rfl hb cr10 (hc 0) rfl rfl (by simp) ?_
 refine AW.rS [(0,slcV 8 qzb.cells l0),(3,.ptr 0 1 0)] [(0,.box 1 [.bool level1.Neg,.str level1.Num,.str level1.Den])] ?_ ?_
 ·simp [wzcq,-Int.pred_toNat]
  all_goals exact zq1
 refine .seq ?_
 obtain ⟨r1,h1,h⟩:=h.ex
 refine AW.rS [(0,slcV 8 qzb.cells l0),(3,.ptr 0 1 0),(6,.int .i64 r1)] [(0,.box 1 [.bool level1.Neg,.str level1.Num,.str level1.Den])] ?_ ?_
 ·simp [wzbr,-Int.pred_toNat]
  (repeat' apply And.intro)<;>try first | omega | (simp at*<;> omega)
  refine (qzec l0 level1  _ h1).ca (by simp [-Int.pred_toNat]) ?_
  (try simp [-Int.pred_toNat])
  all_goals exact zq1
 refine AW.rS [(0,slcV 8 qzb.cells l0),(3,.ptr 0 1 0),(6,.int .i64 r1),(11,.bool (!decide (r1=0)))] [(0,.box 1 [.bool level1.Neg,.str level1.Num,.str level1.Den])] ?_ ?_
 ·simp [qz6z,-Int.pred_toNat]
  all_goals exact zq1
 refine AW.ifF (!decide (r1=0)) rfl (by simp) (fun e=>?_) (fun e=>?_)
 ·replace h:=h.pos e
  refine AW.rS [(4,.nils),(5,.int .i64 r1)] [(0,.gone 1)] ?_ ?_
  ·simp [wza1,-Int.pred_toNat]
   all_goals exact zq1
  have hr:=h.some
  subst hr
  refine AW.rt (rs:=rs10) [(4,slcV 3 qza.cells []),(5,.int .i64 r1)] [(0,.gone 1)] (by simp) (by simp) rfl rfl (by simp [rs10]) (by simp [rs10]; try rfl)
 ·replace h:=h.neg e
  refine AW.skip ?_
  obtain ⟨r2,h2,h⟩:=h.ex
  refine AW.rS [(4,slcV 3 qza.cells r2),(5,.int .i64 0)] [(0,.gone 1)] ?_ ?_
  ·simp [qz7o,-Int.pred_toNat]
   (repeat' apply And.intro)<;>try first | omega | (simp at*<;> omega)
   refine (wzc l0 (fun a0=>wza (qz6.mk level1) a0) 35 1 [.agg [.bool level1.Neg,.str level1.Num,.str level1.Den]] (by simp [jzc]) (fun a0 r h=>⟨by kernel_rfl,(qzam (qz6.mk level1) a0  r h).w (by simp [fnArgs])⟩) _ h2).ca (by simp [-Int.pred_toNat]) ?_
   (try simp [-Int.pred_toNat])
   all_goals exact zq1
  have hr:=h.some
  subst hr
  refine AW.rt (rs:=rs10) [(4,slcV 3 qza.cells r2),(5,.int .i64 0)] [(0,.gone 1)] (by simp) (by simp) rfl rfl (by simp [rs10]) (by simp [rs10]; try rfl)
def k10:Fc:=⟨10,[(.slc (.us 1)),(.us 0)],[false,false],[(.slc (.us 0)),(.int .i64)],fun x=>qzk4 x.1 x.2⟩
theorem y10:FcOk EE Tryz.prog k10:=⟨by kernel_rfl,fun x _ h=>(qzr4 x.1 x.2 _ h).cast (by kernel_rfl)⟩
abbrev jz3 (flow1:qza) (l0:List qzb) (r4:List qza) (ep2:Nat) (ep3:Nat) (ep4:Nat) (ep5:Nat) (s:Int×qza) (ex:Nat×Nat×Nat):List (Nat×AVal):=match s,ex with | (t39,b6),(ep7,ep8,ep9)=>[(0,slcV 8 qzb.cells l0),(3,.ptr 0 1 0),(4,.ptr 1 1 0),(9,.ptr 6 1 0),(37,slcV 3 qza.cells r4),(38,.int .i64 (List.length r4:Int)),(39,.int .i64 t39)]
abbrev jz4 (flow1:qza) (l0:List qzb) (r4:List qza) (ep2:Nat) (ep3:Nat) (ep4:Nat) (ep5:Nat) (s:Int×qza) (ex:Nat×Nat×Nat):List (Nat×AObj):=match s,ex with | (t39,b6),(ep7,ep8,ep9)=>[(0,.box 1 [.bool flow1.Neg,.str flow1.Num,.str flow1.Den]),(1,.box 1 [.bool false,.str [],.str []]),(2,.gone ep2),(3,.gone ep3),(4,.gone ep4),(5,.gone (ep5+1)),(6,.box 1 (qza.cells b6)),(7,.gone ep7),(8,.gone ep8),(9,.gone ep9)]
abbrev qzb8 (flow1:qza) (l0:List qzb) (r4:List qza) (ep2:Nat) (ep3:Nat) (ep4:Nat) (ep5:Nat):qza⊕qza→Exit→ASt→Prop:=fun o ex S'=>match o with | .inl b6=>∃ ep7:Nat,∃ ep8:Nat,∃ ep9:Nat,ex=.exit 2∧See EE S' ⟨tl [(4,.ptr 1 1 0),(9,.ptr 6 1 0)] 79,hl [(0,.box 1 [.bool flow1.Neg,.str flow1.Num,.str flow1.Den]),(1,.box 1 [.bool false,.str [],.str []]),(2,.gone ep2),(3,.gone ep3),(4,.gone ep4),(5,.gone (ep5+1)),(6,.box 1 (qza.cells b6)),(7,.gone ep7),(8,.gone ep8),(9,.gone ep9)],[]⟩ | .inr o=>ex=.ret∧Post EE rs37 (fun x _=>x=.agg (qza.cells o)) .ret S'
theorem qzg7 (flow1:qza) (l0:List qzb) (r4:List qza) (ep2:Nat) (ep3:Nat) (ep4:Nat) (ep5:Nat) (t39:Int) (b6:qza) (ep7:Nat) (ep8:Nat) (ep9:Nat) (QQ:(Int×qza)⊕(qza⊕qza)→Prop) (h:Ok (jzd flow1 l0 r4 (t39,b6)) QQ):AW EE none Tryz.prog (wzbp 0) (fun ex S'=>(∃ s' e',ex=.normal∧QQ (.inl s')∧See EE S' ⟨tl ((jz3 flow1 l0 r4 ep2 ep3 ep4 ep5) s' e') 79,hl ((jz4 flow1 l0 r4 ep2 ep3 ep4 ep5) s' e'),[]⟩)∨(∃ o,QQ (.inr o)∧ex≠.normal∧(qzb8 flow1 l0 r4 ep2 ep3 ep4 ep5) o ex S')) ⟨tl [(0,slcV 8 qzb.cells l0),(3,.ptr 0 1 0),(4,.ptr 1 1 0),(9,.ptr 6 1 0),(37,slcV 3 qza.cells r4),(38,.int .i64 (List.length r4:Int)),(39,.int .i64 t39)] 79,hl [(0,.box 1 [.bool flow1.Neg,.str flow1.Num,.str flow1.Den]),(1,.box 1 [.bool false,.str [],.str []]),(2,.gone ep2),(3,.gone ep3),(4,.gone ep4),(5,.gone (ep5+1)),(6,.box 1 (qza.cells b6)),(7,.gone ep7),(8,.gone ep8),(9,.gone ep9)],[]⟩:=by
 unfold jzd at h
 refine AW.rS [(0,slcV 8 qzb.cells l0),(3,.ptr 0 1 0),(4,.ptr 1 1 0),(9,.ptr 6 1 0),(37,slcV 3 qza.cells r4),(38,.int .i64 (List.length r4:Int)),(39,.int .i64 t39),(40,.bool (decide (t39 < (List.length r4:Int))))] [(0,.box 1 [.bool flow1.Neg,.str flow1.Num,.str flow1.Den]),(1,.box 1 [.bool false,.str [],.str []]),(2,.gone ep2),(3,.gone ep3),(4,.gone ep4),(5,.gone (ep5+1)),(6,.box 1 (qza.cells b6)),(7,.gone ep7),(8,.gone ep8),(9,.gone ep9)] ?_ ?_
 ·simp [qz2f,-Int.pred_toNat]
  all_goals exact zq1
 refine .seq ?_
 refine AW.ifF (decide (t39 < (List.length r4:Int))) rfl (by simp) (fun e=>?_) (fun e=>?_)
 ·replace h:=h.pos e
  refine AW.skip ?_
  refine .seq ?_
  refine .block ?_
  obtain ⟨x2,h9,h⟩:=h.at
  refine AW.rS [(0,slcV 8 qzb.cells l0),(3,.ptr 0 1 0),(4,.ptr 1 1 0),(9,.ptr 6 1 0),(11,.ptr 7 (ep7+1) 0),(37,slcV 3 qza.cells r4),(38,.int .i64 (List.length r4:Int)),(39,.int .i64 t39)] [(0,.box 1 [.bool flow1.Neg,.str flow1.Num,.str flow1.Den]),(1,.box 1 [.bool false,.str [],.str []]),(2,.gone ep2),(3,.gone ep3),(4,.gone ep4),(5,.gone (ep5+1)),(6,.box 1 (qza.cells b6)),(7,.box (ep7+1) [.bool x2.Neg,.str x2.Num,.str x2.Den]),(8,.gone ep8),(9,.gone ep9)] ?_ ?_
  ·obtain ⟨f4a,f4b,f4c⟩:=h9
   have f4d:qzd qza.cells r4 (Int.toNat t39)=qza.cells x2:=qzo f4c
   have f4e:Int.toNat t39 < List.length r4:=by omega
   simp [qz2b,-Int.pred_toNat,f4a,f4b,f4d,f4e]
   (repeat' apply And.intro)<;>first | omega | (simp at*<;> omega) | (intro _; intros; simp_all; done) | exact .mk (by simp [-Int.pred_toNat,f4a,f4b,f4d,f4e]) (by simp [-Int.pred_toNat,f4a,f4b,f4d,f4e]) rfl
  obtain ⟨r5,h10,h⟩:=h.ex
  obtain ⟨r6,h11,h⟩:=h.ex
  obtain ⟨r7,h12,h⟩:=h.ex
  obtain ⟨r8,h13,h⟩:=h.ex
  refine AW.dS [(0,slcV 8 qzb.cells l0),(3,.ptr 0 1 0),(4,.ptr 1 1 0),(9,.ptr 6 1 0),(11,.ptr 7 (ep7+1) 0),(12,.ptr 8 (ep8+1) 0),(13,.ptr 9 (ep9+1) 0),(37,slcV 3 qza.cells r4),(38,.int .i64 (List.length r4:Int)),(39,.int .i64 t39)] [(0,.box 1 [.bool flow1.Neg,.str flow1.Num,.str flow1.Den]),(1,.box 1 [.bool false,.str [],.str []]),(2,.gone ep2),(3,.gone ep3),(4,.gone ep4),(5,.gone (ep5+1)),(6,.box 1 (qza.cells b6)),(7,.box (ep7+1) [.bool x2.Neg,.str x2.Num,.str x2.Den]),(8,.box (ep8+1) (qza.cells r6)),(9,.box (ep9+1) (qza.cells r8))] ?_ ?_
  ·simp [qz12,-Int.pred_toNat]
   (repeat' apply And.intro)<;>try first | omega | (simp at*<;> omega)
   refine (wzc l0 (fun a0=>wza (qz6.mk b6) a0) 35 1 [.agg [.bool b6.Neg,.str b6.Num,.str b6.Den]] (by simp [jzc]) (fun a0 r h=>⟨by kernel_rfl,(qzam (qz6.mk b6) a0  r h).w (by simp [fnArgs])⟩) _ h10).cd (by simp [-Int.pred_toNat]) ?_
   (try simp [-Int.pred_toNat])
   (repeat' apply And.intro)<;>try first | omega | (simp at*<;> omega)
   refine (qzbg r5  _ h11).cd (by simp [-Int.pred_toNat]) ?_
   (try simp [-Int.pred_toNat])
   (repeat' apply And.intro)<;>try first | omega | (simp at*<;> omega)
   refine (wzc l0 (fun a0=>wza (qz6.mk x2) a0) 35 1 [.agg [.bool x2.Neg,.str x2.Num,.str x2.Den]] (by simp [jzc]) (fun a0 r h=>⟨by kernel_rfl,(qzam (qz6.mk x2) a0  r h).w (by simp [fnArgs])⟩) _ h12).cd (by simp [-Int.pred_toNat]) ?_
   (try simp [-Int.pred_toNat])
   (repeat' apply And.intro)<;>try first | omega | (simp at*<;> omega)
   refine (qzbg r7  _ h13).cd (by simp [-Int.pred_toNat]) ?_
   (try simp [-Int.pred_toNat])
   all_goals exact zq2
  refine .seq ?_
  obtain ⟨r9,h14,h⟩:=h.ex
  refine AW.rS [(0,slcV 8 qzb.cells l0),(3,.ptr 0 1 0),(4,.ptr 1 1 0),(9,.ptr 6 1 0),(11,.ptr 7 (ep7+1) 0),(12,.ptr 8 (ep8+1) 0),(13,.ptr 9 (ep9+1) 0),(37,slcV 3 qza.cells r4),(38,.int .i64 (List.length r4:Int)),(39,.int .i64 t39),(58,.bool (decide (r9≤0)))] [(0,.box 1 [.bool flow1.Neg,.str flow1.Num,.str flow1.Den]),(1,.box 1 [.bool false,.str [],.str []]),(2,.gone ep2),(3,.gone ep3),(4,.gone ep4),(5,.gone (ep5+1)),(6,.box 1 (qza.cells b6)),(7,.box (ep7+1) [.bool x2.Neg,.str x2.Num,.str x2.Den]),(8,.box (ep8+1) (qza.cells r6)),(9,.box (ep9+1) (qza.cells r8))] ?_ ?_
  ·simp [qzyf,-Int.pred_toNat]
   (repeat' apply And.intro)<;>try first | omega | (simp at*<;> omega)
   refine (jze flow1 r6  _ h14).ca (by simp [-Int.pred_toNat]) ?_
   (try simp [-Int.pred_toNat])
   all_goals exact zq1
  refine AW.ifF (decide (r9≤0)) rfl (by simp) (fun e=>?_) (fun e=>?_)
  ·replace h:=h.pos e
   refine .exit ?_
   exact .inr ⟨.inl b6,h.some,by simp,⟨(ep7+1),(ep8+1),(ep9+1),rfl,(.wk (by simp) (by simp) rfl)⟩⟩
  ·replace h:=h.neg e
   refine AW.skip ?_
   refine .seq ?_
   obtain ⟨r10,h15,h⟩:=h.ex
   refine AW.rS [(0,slcV 8 qzb.cells l0),(3,.ptr 0 1 0),(4,.ptr 1 1 0),(9,.ptr 6 1 0),(11,.ptr 7 (ep7+1) 0),(12,.ptr 8 (ep8+1) 0),(13,.ptr 9 (ep9+1) 0),(37,slcV 3 qza.cells r4),(38,.int .i64 (List.length r4:Int)),(39,.int .i64 t39),(62,.bool (decide (r10≤0)))] [(0,.box 1 [.bool flow1.Neg,.str flow1.Num,.str flow1.Den]),(1,.box 1 [.bool false,.str [],.str []]),(2,.gone ep2),(3,.gone ep3),(4,.gone ep4),(5,.gone (ep5+1)),(6,.box 1 (qza.cells b6)),(7,.box (ep7+1) [.bool x2.Neg,.str x2.Num,.str x2.Den]),(8,.box (ep8+1) (qza.cells r6)),(9,.box (ep9+1) (qza.cells r8))] ?_ ?_
   ·simp [qz0r,-Int.pred_toNat]
    (repeat' apply And.intro)<;>try first | omega | (simp at*<;> omega)
    refine (jze flow1 r8  _ h15).ca (by simp [-Int.pred_toNat]) ?_
    (try simp [-Int.pred_toNat])
    all_goals exact zq1
   refine AW.ifF (decide (r10≤0)) rfl (by simp) (fun e=>?_) (fun e=>?_)
   ·replace h:=h.pos e
    obtain ⟨r11,h16,h⟩:=h.ex
    obtain ⟨r12,h17,h⟩:=h.ex
    obtain ⟨r13,h18,h⟩:=h.ex
    obtain ⟨r14,h19,h⟩:=h.ex
    obtain ⟨r15,h20,h⟩:=h.ex
    obtain ⟨r16,h21,h⟩:=h.ex
    refine AW.dS [(4,.ptr 1 1 0)] [(0,.gone 1),(1,.box 1 (qza.cells r16)),(2,.gone ep2),(3,.gone ep3),(4,.gone ep4),(5,.gone (ep5+1)),(6,.gone 1),(7,.gone (ep7+1)),(8,.gone (ep8+1)),(9,.gone (ep9+1))] ?_ ?_
    ·simp [qz2k,-Int.pred_toNat]
     (repeat' apply And.intro)<;>try first | omega | (simp at*<;> omega)
     refine (qze9 flow1 r6  _ h16).cd (by simp [-Int.pred_toNat]) ?_
     (try simp [-Int.pred_toNat])
     (repeat' apply And.intro)<;>try first | omega | (simp at*<;> omega)
     refine (qze9 r8 r6  _ h17).cd (by simp [-Int.pred_toNat]) ?_
     (try simp [-Int.pred_toNat])
     (repeat' apply And.intro)<;>try first | omega | (simp at*<;> omega)
     refine (kza r11 r12  _ h18).cd (by simp [-Int.pred_toNat]) ?_
     (try simp [-Int.pred_toNat])
     (repeat' apply And.intro)<;>try first | omega | (simp at*<;> omega)
     refine (qze9 x2 b6  _ h19).cd (by simp [-Int.pred_toNat]) ?_
     (try simp [-Int.pred_toNat])
     (repeat' apply And.intro)<;>try first | omega | (simp at*<;> omega)
     refine (qzic r13 r14  _ h20).cd (by simp [-Int.pred_toNat]) ?_
     (try simp [-Int.pred_toNat])
     (repeat' apply And.intro)<;>try first | omega | (simp at*<;> omega)
     refine (qzev b6 r15  _ h21).cd (by simp [-Int.pred_toNat]) ?_
     (try simp [-Int.pred_toNat])
     all_goals exact zq2
    exact .ret (.inr ⟨.inr r16,h.some,by simp,rfl,.wk (rs:=rs37) [(4,.ptr 1 1 0)] [(0,.gone 1),(1,.box 1 (qza.cells r16)),(2,.gone ep2),(3,.gone ep3),(4,.gone ep4),(5,.gone (ep5+1)),(6,.gone 1),(7,.gone (ep7+1)),(8,.gone (ep8+1)),(9,.gone (ep9+1))] (by simp) (by simp) rfl (by simp [rs37]) (by simp [rs37]; try rfl)⟩)
   ·replace h:=h.neg e
    refine AW.skip ?_
    refine AW.rE [(0,slcV 8 qzb.cells l0),(3,.ptr 0 1 0),(4,.ptr 1 1 0),(9,.ptr 6 1 0),(37,slcV 3 qza.cells r4),(38,.int .i64 (List.length r4:Int)),(39,.int .i64 t39)] [(0,.box 1 [.bool flow1.Neg,.str flow1.Num,.str flow1.Den]),(1,.box 1 [.bool false,.str [],.str []]),(2,.gone ep2),(3,.gone ep3),(4,.gone ep4),(5,.gone (ep5+1)),(6,.box 1 [.bool x2.Neg,.str x2.Num,.str x2.Den]),(7,.gone (ep7+1)),(8,.gone (ep8+1)),(9,.gone (ep9+1))] ?_ (fun S' hs3=>?_)
    ·simp [qzyp,-Int.pred_toNat]
     all_goals exact zq1
    refine .see hs3 ?_
    obtain ⟨h22,h⟩:=h.ck
    refine AW.rE [(0,slcV 8 qzb.cells l0),(3,.ptr 0 1 0),(4,.ptr 1 1 0),(9,.ptr 6 1 0),(37,slcV 3 qza.cells r4),(38,.int .i64 (List.length r4:Int)),(39,.int .i64 (t39+1))] [(0,.box 1 [.bool flow1.Neg,.str flow1.Num,.str flow1.Den]),(1,.box 1 [.bool false,.str [],.str []]),(2,.gone ep2),(3,.gone ep3),(4,.gone ep4),(5,.gone (ep5+1)),(6,.box 1 [.bool x2.Neg,.str x2.Num,.str x2.Den]),(7,.gone (ep7+1)),(8,.gone (ep8+1)),(9,.gone (ep9+1))] ?_ (fun S' hs4=>?_)
    ·have f5:=qzr h22
     simp [qz2r,-Int.pred_toNat,f5]
     (repeat' apply And.intro)<;>first | omega | (simp at*<;> omega) | (intro _; intros; simp_all; done) | exact .mk (by simp [-Int.pred_toNat,f5]) (by simp [-Int.pred_toNat,f5]) rfl
    exact .inl ⟨((t39+1),x2),((ep7+1),(ep8+1),(ep9+1)),rfl,h.some,(hs4.trans (.wk (by simp [jz3]) (by simp [jz4]) rfl))⟩
 ·replace h:=h.neg e
  refine .exit ?_
  exact .inr ⟨.inl b6,h.some,by simp,⟨ep7,ep8,ep9,rfl,(.wk (by simp) (by simp) rfl)⟩⟩
abbrev jz6 (flow1:qza) (l0:List qzb) (s:Int×(List qza)) (ex:Nat×Nat×Nat×Nat):List (Nat×AVal):=match s,ex with | (t16,l5),(ep2,ep3,ep4,ep5)=>[(0,slcV 8 qzb.cells l0),(3,.ptr 0 1 0),(4,.ptr 1 1 0),(5,ownV 5 ep5 l5),(14,slcV 8 qzb.cells l0),(15,.int .i64 (List.length l0:Int)),(16,.int .i64 t16)]
abbrev jz5 (flow1:qza) (l0:List qzb) (s:Int×(List qza)) (ex:Nat×Nat×Nat×Nat):List (Nat×AObj):=match s,ex with | (t16,l5),(ep2,ep3,ep4,ep5)=>[(0,.box 1 [.bool flow1.Neg,.str flow1.Num,.str flow1.Den]),(1,.box 1 [.bool false,.str [],.str []]),(2,.gone ep2),(3,.gone ep3),(4,.gone ep4),(5,ownO ep5 3 qza.cells l5)]
abbrev qzb6 (flow1:qza) (l0:List qzb):(List qza)→Exit→ASt→Prop:=fun o ex S'=>match o with | l5=>∃ ep2:Nat,∃ ep3:Nat,∃ ep4:Nat,∃ ep5:Nat,ex=.exit 0∧See EE S' ⟨tl [(0,slcV 8 qzb.cells l0),(3,.ptr 0 1 0),(4,.ptr 1 1 0),(5,ownV 5 ep5 l5)] 79,hl [(0,.box 1 [.bool flow1.Neg,.str flow1.Num,.str flow1.Den]),(1,.box 1 [.bool false,.str [],.str []]),(2,.gone ep2),(3,.gone ep3),(4,.gone ep4),(5,ownO ep5 3 qza.cells l5)],[]⟩
theorem qzg2 (flow1:qza) (l0:List qzb) (t16:Int) (l5:List qza) (ep2:Nat) (ep3:Nat) (ep4:Nat) (ep5:Nat) (QQ:(Int×(List qza))⊕(List qza)→Prop) (h:Ok (jzf l0 (t16,l5)) QQ):AW EE none Tryz.prog (qz4n 0) (fun ex S'=>(∃ s' e',ex=.normal∧QQ (.inl s')∧See EE S' ⟨tl ((jz6 flow1 l0) s' e') 79,hl ((jz5 flow1 l0) s' e'),[]⟩)∨(∃ o,QQ (.inr o)∧ex≠.normal∧(qzb6 flow1 l0) o ex S')) ⟨tl [(0,slcV 8 qzb.cells l0),(3,.ptr 0 1 0),(4,.ptr 1 1 0),(5,ownV 5 ep5 l5),(14,slcV 8 qzb.cells l0),(15,.int .i64 (List.length l0:Int)),(16,.int .i64 t16)] 79,hl [(0,.box 1 [.bool flow1.Neg,.str flow1.Num,.str flow1.Den]),(1,.box 1 [.bool false,.str [],.str []]),(2,.gone ep2),(3,.gone ep3),(4,.gone ep4),(5,ownO ep5 3 qza.cells l5)],[]⟩:=by
 unfold jzf at h
 refine AW.rS [(0,slcV 8 qzb.cells l0),(3,.ptr 0 1 0),(4,.ptr 1 1 0),(5,ownV 5 ep5 l5),(14,slcV 8 qzb.cells l0),(15,.int .i64 (List.length l0:Int)),(16,.int .i64 t16),(17,.bool (decide (t16 < (List.length l0:Int))))] [(0,.box 1 [.bool flow1.Neg,.str flow1.Num,.str flow1.Den]),(1,.box 1 [.bool false,.str [],.str []]),(2,.gone ep2),(3,.gone ep3),(4,.gone ep4),(5,ownO ep5 3 qza.cells l5)] ?_ ?_
 ·simp [qz8r,-Int.pred_toNat]
  all_goals exact zq1
 refine .seq ?_
 refine AW.ifF (decide (t16 < (List.length l0:Int))) rfl (by simp) (fun e=>?_) (fun e=>?_)
 ·replace h:=h.pos e
  refine AW.skip ?_
  refine .seq ?_
  refine .block ?_
  obtain ⟨x1,h1,h⟩:=h.at
  refine AW.rS [(0,slcV 8 qzb.cells l0),(3,.ptr 0 1 0),(4,.ptr 1 1 0),(5,ownV 5 ep5 l5),(7,.ptr 2 (ep2+1) 0),(14,slcV 8 qzb.cells l0),(15,.int .i64 (List.length l0:Int)),(16,.int .i64 t16)] [(0,.box 1 [.bool flow1.Neg,.str flow1.Num,.str flow1.Den]),(1,.box 1 [.bool false,.str [],.str []]),(2,.box (ep2+1) [.int .i64 x1.State,.int .i64 x1.Weight,.bool x1.Floor.Neg,.str x1.Floor.Num,.str x1.Floor.Den,.bool x1.Cap.Neg,.str x1.Cap.Num,.str x1.Cap.Den]),(3,.gone ep3),(4,.gone ep4),(5,ownO ep5 3 qza.cells l5)] ?_ ?_
  ·obtain ⟨f1a,f1b,f1c⟩:=h1
   have f1d:qzd qzb.cells l0 (Int.toNat t16)=qzb.cells x1:=qzo f1c
   have f1e:Int.toNat t16 < List.length l0:=by omega
   simp [qz34,-Int.pred_toNat,f1a,f1b,f1d,f1e]
   (repeat' apply And.intro)<;>first | omega | (simp at*<;> omega) | (intro _; intros; simp_all; done) | exact .mk (by simp [-Int.pred_toNat,f1a,f1b,f1d,f1e]) (by simp [-Int.pred_toNat,f1a,f1b,f1d,f1e]) rfl
  obtain ⟨r1,h2,h⟩:=h.ex
  refine AW.rS [(0,slcV 8 qzb.cells l0),(3,.ptr 0 1 0),(4,.ptr 1 1 0),(5,ownV 5 ep5 l5),(7,.ptr 2 (ep2+1) 0),(8,.ptr 3 (ep3+1) 0),(14,slcV 8 qzb.cells l0),(15,.int .i64 (List.length l0:Int)),(16,.int .i64 t16)] [(0,.box 1 [.bool flow1.Neg,.str flow1.Num,.str flow1.Den]),(1,.box 1 [.bool false,.str [],.str []]),(2,.box (ep2+1) [.int .i64 x1.State,.int .i64 x1.Weight,.bool x1.Floor.Neg,.str x1.Floor.Num,.str x1.Floor.Den,.bool x1.Cap.Neg,.str x1.Cap.Num,.str x1.Cap.Den]),(3,.box (ep3+1) (qza.cells r1)),(4,.gone ep4),(5,ownO ep5 3 qza.cells l5)] ?_ ?_
  ·simp [qz4j,-Int.pred_toNat]
   (repeat' apply And.intro)<;>try first | omega | (simp at*<;> omega)
   refine (qzv x1.Weight  _ h2).ca (by simp [-Int.pred_toNat]) ?_
   (try simp [-Int.pred_toNat])
   all_goals exact zq1
  obtain ⟨r2,h3,h⟩:=h.ex
  obtain ⟨r3,h4,h⟩:=h.ex
  obtain ⟨h5,h⟩:=h.ck
  refine AW.dE [(0,slcV 8 qzb.cells l0),(3,.ptr 0 1 0),(4,.ptr 1 1 0),(5,ownV 5 (ep5+1) (l5++[r2,r3])),(14,slcV 8 qzb.cells l0),(15,.int .i64 (List.length l0:Int)),(16,.int .i64 t16)] [(0,.box 1 [.bool flow1.Neg,.str flow1.Num,.str flow1.Den]),(1,.box 1 [.bool false,.str [],.str []]),(2,.gone (ep2+1)),(3,.gone (ep3+1)),(4,.gone (ep4+1)),(5,ownO (ep5+1) 3 qza.cells (l5++[r2,r3]))] ?_ (fun S' hs1=>?_)
  ·have f2:=h5
   have f2m:=f2
   (try simp [-Int.pred_toNat] at f2m)
   rcases hl:l5 with _ | ⟨y,l⟩
   ·(try simp [hl] at f2)
    simp [qzwt,-Int.pred_toNat,f2,f2m,hl]
    (repeat' apply And.intro)<;>try first | omega | (simp at*<;> omega)
    refine (kza x1.Floor r1  _ h3).cd (by simp [-Int.pred_toNat,f2,f2m]) ?_
    (try simp [-Int.pred_toNat,f2,f2m,hl])
    (repeat' apply And.intro)<;>try first | omega | (simp at*<;> omega)
    refine (kza x1.Cap r1  _ h4).cd (by simp [-Int.pred_toNat,f2,f2m]) ?_
    (try simp [-Int.pred_toNat,f2,f2m,hl])
    (repeat' apply And.intro)<;>first | omega | (simp at*<;> omega) | kernel_rfl | (intro _; intros; simp_all; done) | exact .mk (by simp [-Int.pred_toNat,f2,f2m,hl]) (by simp [-Int.pred_toNat,f2,f2m,hl]) rfl
   ·(try simp [hl] at f2)
    simp [qzwt,-Int.pred_toNat,f2,f2m,hl]
    (repeat' apply And.intro)<;>try first | omega | (simp at*<;> omega)
    refine (kza x1.Floor r1  _ h3).cd (by simp [-Int.pred_toNat,f2,f2m]) ?_
    (try simp [-Int.pred_toNat,f2,f2m,hl])
    (repeat' apply And.intro)<;>try first | omega | (simp at*<;> omega)
    refine (kza x1.Cap r1  _ h4).cd (by simp [-Int.pred_toNat,f2,f2m]) ?_
    (try simp [-Int.pred_toNat,f2,f2m,hl])
    (repeat' apply And.intro)<;>first | omega | kernel_rfl | skip
    refine .mk (by simp [-Int.pred_toNat,f2,f2m,hl]) ?_ rfl
    simp [-Int.pred_toNat,f2,f2m,hl]
    intro k hk
    split<;>rename_i hk2
    ·rw [yz1 hk2]; exact .refl _
    ·rw [yze hk2]
     have hj:k - (l.length+1) < 2:=by omega
     revert hj; generalize k - (l.length+1)=j; revert j; simp
  refine .see hs1 ?_
  obtain ⟨h7,h⟩:=h.ck
  refine AW.rE [(0,slcV 8 qzb.cells l0),(3,.ptr 0 1 0),(4,.ptr 1 1 0),(5,ownV 5 (ep5+1) (l5++[r2,r3])),(14,slcV 8 qzb.cells l0),(15,.int .i64 (List.length l0:Int)),(16,.int .i64 (t16+1))] [(0,.box 1 [.bool flow1.Neg,.str flow1.Num,.str flow1.Den]),(1,.box 1 [.bool false,.str [],.str []]),(2,.gone (ep2+1)),(3,.gone (ep3+1)),(4,.gone (ep4+1)),(5,ownO (ep5+1) 3 qza.cells (l5++[r2,r3]))] ?_ (fun S' hs2=>?_)
  ·have f3:=qzr h7
   simp [qz40,-Int.pred_toNat,f3]
   (repeat' apply And.intro)<;>first | omega | (simp at*<;> omega) | (intro _; intros; simp_all; done) | exact .mk (by simp [-Int.pred_toNat,f3]) (by simp [-Int.pred_toNat,f3]) rfl
  exact .inl ⟨((t16+1),(l5++[r2,r3])),((ep2+1),(ep3+1),(ep4+1),(ep5+1)),rfl,h.some,(hs2.trans (.wk (by simp [jz6]) (by simp [jz5]) rfl))⟩
 ·replace h:=h.neg e
  refine .exit ?_
  exact .inr ⟨l5,h.some,by simp,⟨ep2,ep3,ep4,ep5,rfl,(.wk (by simp) (by simp) rfl)⟩⟩
theorem qzcp (l0:List qzb) (flow1:qza)  (r:qza) (h:wzq l0 flow1=some r):qzq EE Tryz.prog 37 [slcV 8 qzb.cells l0,.agg (qza.cells flow1)] (.agg (qza.cells r)):=by
 refine Pure.still ?_ hEE (by simp [-qzh,(fun l=>qzj (st:=8) (c:=qzb.cells) (l:=l) qzb.noref),qza.cells]<;>assumption) (by simp [-qzh,(fun l=>qzj (st:=8) (c:=qzb.cells) (l:=l) qzb.noref),qza.cells])
 obtain ⟨c,hb,hc⟩:=ck37
 replace h:=Ok.of h; unfold wzq at h
 refine Pure.ofs (fn:=Tryz.f37) (n:=79) rfl hb cr37 (hc 0) rfl rfl (by simp) ?_
 refine AW.rS [(0,slcV 8 qzb.cells l0),(3,.ptr 0 1 0),(4,.ptr 1 1 0)] [(0,.box 1 [.bool flow1.Neg,.str flow1.Num,.str flow1.Den]),(1,.box 1 [.bool false,.str [],.str []])] ?_ ?_
 ·simp [wzbj,-Int.pred_toNat]
  all_goals exact zq1
 refine AW.rS [(0,slcV 8 qzb.cells l0),(3,.ptr 0 1 0),(4,.ptr 1 1 0),(5,.nils)] [(0,.box 1 [.bool flow1.Neg,.str flow1.Num,.str flow1.Den]),(1,.box 1 [.bool false,.str [],.str []])] ?_ ?_
 ·simp [qz7m,-Int.pred_toNat]
  all_goals exact zq1
 refine .seq ?_
 refine AW.rS [(0,slcV 8 qzb.cells l0),(3,.ptr 0 1 0),(4,.ptr 1 1 0),(5,.nils),(14,slcV 8 qzb.cells l0),(15,.int .i64 (List.length l0:Int)),(16,.int .i64 0)] [(0,.box 1 [.bool flow1.Neg,.str flow1.Num,.str flow1.Den]),(1,.box 1 [.bool false,.str [],.str []])] ?_ ?_
 ·simp [qz4m,-Int.pred_toNat]
  all_goals exact zq1
 refine .block ?_
 refine AW.lpF (ε:=Nat×Nat×Nat×Nat) (0,0,0,0) h.bd (jz6 flow1 l0) (jz5 flow1 l0) (qzb6 flow1 l0) (by simp [jz6]) (by simp [jz5]) rfl ?_ ?_
 ·rintro ⟨t16,l5⟩ ⟨ep2,ep3,ep4,ep5⟩ QQ h
  exact qzg2 flow1 l0 t16 l5 ep2 ep3 ep4 ep5 QQ h
 ·rintro l5 h ex S' hs
  obtain ⟨ep2,ep3,ep4,ep5,rfl,hs⟩:=hs
  refine .see hs ?_
  obtain ⟨r4,h8,h⟩:=h.ex
  refine AW.rS [(0,slcV 8 qzb.cells l0),(3,.ptr 0 1 0),(4,.ptr 1 1 0),(5,ownV 5 ep5 r4)] [(0,.box 1 [.bool flow1.Neg,.str flow1.Num,.str flow1.Den]),(1,.box 1 [.bool false,.str [],.str []]),(2,.gone ep2),(3,.gone ep3),(4,.gone ep4),(5,ownO ep5 3 qza.cells r4)] ?_ ?_
  ·simp [qz9z,-Int.pred_toNat]
   (repeat' apply And.intro)<;>try first | omega | (simp at*<;> omega)
   refine ATr.mono (qzkd 5 ep5 l5 _ h8 _ ?_) ?_
   ·simp [hl,qz8]
   rintro v h' ⟨rfl,rfl,hov⟩
   simp [-Int.pred_toNat,hov]
   all_goals exact zq1
  refine AW.rS [(0,slcV 8 qzb.cells l0),(3,.ptr 0 1 0),(4,.ptr 1 1 0),(5,ownV 5 ep5 r4),(9,.ptr 6 1 0)] [(0,.box 1 [.bool flow1.Neg,.str flow1.Num,.str flow1.Den]),(1,.box 1 [.bool false,.str [],.str []]),(2,.gone ep2),(3,.gone ep3),(4,.gone ep4),(5,ownO ep5 3 qza.cells r4),(6,.box 1 [.bool false,.str [],.str []])] ?_ ?_
  ·simp [qz7w,-Int.pred_toNat]
   all_goals exact zq1
  refine .seq ?_
  refine AW.frzO 5 ep5 3 qza.cells r4 [(0,slcV 8 qzb.cells l0),(3,.ptr 0 1 0),(4,.ptr 1 1 0),(5,slcV 3 qza.cells r4),(9,.ptr 6 1 0)] [(0,.box 1 [.bool flow1.Neg,.str flow1.Num,.str flow1.Den]),(1,.box 1 [.bool false,.str [],.str []]),(2,.gone ep2),(3,.gone ep3),(4,.gone ep4),(5,.gone (ep5+1)),(6,.box 1 [.bool false,.str [],.str []])] rfl (fun e=>⟨by simp [e],by simp [e],rfl⟩) (fun y k e o ho=>⟨by simp [e,ho],by simp [e,ho],rfl⟩) ?_
  refine AW.rS [(0,slcV 8 qzb.cells l0),(3,.ptr 0 1 0),(4,.ptr 1 1 0),(9,.ptr 6 1 0),(37,slcV 3 qza.cells r4),(38,.int .i64 (List.length r4:Int)),(39,.int .i64 0)] [(0,.box 1 [.bool flow1.Neg,.str flow1.Num,.str flow1.Den]),(1,.box 1 [.bool false,.str [],.str []]),(2,.gone ep2),(3,.gone ep3),(4,.gone ep4),(5,.gone (ep5+1)),(6,.box 1 [.bool false,.str [],.str []])] ?_ ?_
  ·simp [qz03,-Int.pred_toNat]
   all_goals exact zq1
  refine .block ?_
  refine AW.lpF (ε:=Nat×Nat×Nat) (0,0,0) h.bd (jz3 flow1 l0 r4 ep2 ep3 ep4 ep5) (jz4 flow1 l0 r4 ep2 ep3 ep4 ep5) (qzb8 flow1 l0 r4 ep2 ep3 ep4 ep5) (by simp [jz3]) (by simp [jz4]) rfl ?_ ?_
  ·rintro ⟨t39,b6⟩ ⟨ep7,ep8,ep9⟩ QQ h
   exact qzg7 flow1 l0 r4 ep2 ep3 ep4 ep5 t39 b6 ep7 ep8 ep9 QQ h
  ·intro o h ex S' hs
   rcases o with b6 | o
   ·obtain ⟨ep7,ep8,ep9,rfl,hs⟩:=hs
    refine .see hs ?_
    refine AW.rS [(4,.ptr 1 1 0)] [(0,.gone 1),(1,.box 1 (qza.cells b6)),(2,.gone ep2),(3,.gone ep3),(4,.gone ep4),(5,.gone (ep5+1)),(6,.gone 1),(7,.gone ep7),(8,.gone ep8),(9,.gone ep9)] ?_ ?_
    ·simp [qz2u,-Int.pred_toNat]
     all_goals exact zq1
    have hr:=h.some
    subst hr
    refine AW.rt (rs:=rs37) [(4,.ptr 1 1 0)] [(0,.gone 1),(1,.box 1 (qza.cells b6)),(2,.gone ep2),(3,.gone ep3),(4,.gone ep4),(5,.gone (ep5+1)),(6,.gone 1),(7,.gone ep7),(8,.gone ep8),(9,.gone ep9)] (by simp) (by simp) rfl rfl (by simp [rs37]) (by simp [rs37]; try rfl)
   ·obtain ⟨rfl,hs⟩:=hs
    cases h.some
    exact hs
def k37:Fc:=⟨37,[(.slc (.us 1)),(.us 0)],[false,false],[(.us 0)],fun x=>wzq x.1 x.2⟩
theorem y37:FcOk EE Tryz.prog k37:=⟨by kernel_rfl,fun x _ h=>(qzcp x.1 x.2 _ h).cast (by kernel_rfl)⟩
def k11:Fc:=⟨11,[(.slc (.us 1)),(.us 0)],[false,false],[(.us 0),(.int .i64)],fun x=>kz3 x.1 x.2⟩
theorem y11:FcOk EE Tryz.prog k11:=wzio hEE (H:=[k26,k33,k36,k37]) ⟨y26,y33,y36,y37,trivial⟩ [] [] .n (fn:=Tryz.f11) rfl (by kernel_rfl) (by kernel_rfl) fun _=>by kernel_rfl
theorem kz0 (l0:List qzb) (flow1:qza)  (r:qze×Int) (h:wzy l0 flow1=some r):qzq EE Tryz.prog 12 [slcV 8 qzb.cells l0,.agg (qza.cells flow1)] (.tup [.agg (qze.cells r.1),.int .i64 r.2]):=by
 refine Pure.still ?_ hEE (by simp [-qzh,(fun l=>qzj (st:=8) (c:=qzb.cells) (l:=l) qzb.noref),(fun l=>qzj (st:=3) (c:=qza.cells) (l:=l) qza.noref),qza.cells,qze.cells]<;>assumption) (by simp [-qzh,(fun l=>qzj (st:=8) (c:=qzb.cells) (l:=l) qzb.noref),(fun l=>qzj (st:=3) (c:=qza.cells) (l:=l) qza.noref),qza.cells,qze.cells])
 obtain ⟨c,hb,hc⟩:=ck12
 replace h:=Ok.of h; unfold wzy at h
 refine Pure.ofs (fn:=Tryz.f12) (n:=54) rfl hb cr12 (hc 0) rfl rfl (by simp) ?_
 refine AW.rS [(0,slcV 8 qzb.cells l0),(3,.ptr 0 1 0),(4,.ptr 1 1 0)] [(0,.box 1 [.bool flow1.Neg,.str flow1.Num,.str flow1.Den]),(1,.box 1 [.nils,.bool false,.str [],.str []])] ?_ ?_
 ·simp [qz4v,-Int.pred_toNat]
  all_goals exact zq1
 refine .seq ?_
 obtain ⟨r1,h1,h⟩:=h.ex
 refine AW.rS [(0,slcV 8 qzb.cells l0),(3,.ptr 0 1 0),(4,.ptr 1 1 0),(6,.int .i64 r1)] [(0,.box 1 [.bool flow1.Neg,.str flow1.Num,.str flow1.Den]),(1,.box 1 [.nils,.bool false,.str [],.str []])] ?_ ?_
 ·simp [wzbe,-Int.pred_toNat]
  (repeat' apply And.intro)<;>try first | omega | (simp at*<;> omega)
  refine (qzec l0 flow1  _ h1).ca (by simp [-Int.pred_toNat]) ?_
  (try simp [-Int.pred_toNat])
  all_goals exact zq1
 refine AW.rS [(0,slcV 8 qzb.cells l0),(3,.ptr 0 1 0),(4,.ptr 1 1 0),(6,.int .i64 r1),(15,.bool (!decide (r1=0)))] [(0,.box 1 [.bool flow1.Neg,.str flow1.Num,.str flow1.Den]),(1,.box 1 [.nils,.bool false,.str [],.str []])] ?_ ?_
 ·simp [qz76,-Int.pred_toNat]
  all_goals exact zq1
 refine AW.ifF (!decide (r1=0)) rfl (by simp) (fun e=>?_) (fun e=>?_)
 ·replace h:=h.pos e
  refine AW.rS [(4,.ptr 1 1 0),(5,.int .i64 r1)] [(0,.gone 1),(1,.box 1 [.nils,.bool false,.str [],.str []])] ?_ ?_
  ·simp [qz7n,-Int.pred_toNat]
   all_goals exact zq1
  have hr:=h.some
  subst hr
  refine AW.rt (rs:=rs12) [(4,.ptr 1 1 0),(5,.int .i64 r1)] [(0,.gone 1),(1,.box 1 (qze.cells (qze.mk [] (qza.mk false [] []))))] (by simp) (by simp) rfl rfl (by simp [rs12]) (by simp [rs12]; try rfl)
 ·replace h:=h.neg e
  refine AW.skip ?_
  refine AW.rS [(3,.ptr 0 1 0),(4,.ptr 1 1 0),(7,slcV 8 qzb.cells l0)] [(0,.box 1 [.bool flow1.Neg,.str flow1.Num,.str flow1.Den]),(1,.box 1 [.nils,.bool false,.str [],.str []])] ?_ ?_
  ·simp [qz98,-Int.pred_toNat]
   all_goals exact zq1
  obtain ⟨r2,h2,h⟩:=h.ex
  obtain ⟨r3,h3,h⟩:=h.ex
  refine AW.rS [(3,.ptr 0 1 0),(4,.ptr 1 1 0),(7,slcV 8 qzb.cells l0),(8,.ptr 2 1 0),(9,.ptr 3 1 0)] [(0,.box 1 [.bool flow1.Neg,.str flow1.Num,.str flow1.Den]),(1,.box 1 [.nils,.bool false,.str [],.str []]),(2,.box 1 (qza.cells r2)),(3,.box 1 (qza.cells r3))] ?_ ?_
  ·simp [qz8z,-Int.pred_toNat]
   (repeat' apply And.intro)<;>try first | omega | (simp at*<;> omega)
   refine (qzhe l0  _ h2).ca (by simp [-Int.pred_toNat]) ?_
   (try simp [-Int.pred_toNat])
   (repeat' apply And.intro)<;>try first | omega | (simp at*<;> omega)
   refine (qzdd l0  _ h3).ca (by simp [-Int.pred_toNat]) ?_
   (try simp [-Int.pred_toNat])
   all_goals exact zq1
  refine .seq ?_
  refine .block ?_
  obtain ⟨r4,h4,h⟩:=h.ex
  refine AW.rS [(3,.ptr 0 1 0),(4,.ptr 1 1 0),(7,slcV 8 qzb.cells l0),(8,.ptr 2 1 0),(9,.ptr 3 1 0),(23,.bool (decide (r4 < 0)))] [(0,.box 1 [.bool flow1.Neg,.str flow1.Num,.str flow1.Den]),(1,.box 1 [.nils,.bool false,.str [],.str []]),(2,.box 1 (qza.cells r2)),(3,.box 1 (qza.cells r3))] ?_ ?_
  ·simp [qz59,-Int.pred_toNat]
   (repeat' apply And.intro)<;>try first | omega | (simp at*<;> omega)
   refine (jze flow1 r2  _ h4).ca (by simp [-Int.pred_toNat]) ?_
   (try simp [-Int.pred_toNat])
   all_goals exact zq1
  refine AW.ifF (decide (r4 < 0)) rfl (by simp) (fun e=>?_) (fun e=>?_)
  ·replace h:=h.pos e
   obtain ⟨r5,h5,h⟩:=h.ex
   refine AW.rS [(4,.ptr 1 1 0),(7,slcV 8 qzb.cells l0),(10,.ptr 4 1 0)] [(0,.gone 1),(1,.box 1 [.nils,.bool false,.str [],.str []]),(2,.gone 1),(3,.gone 1),(4,.box 1 (qza.cells r5))] ?_ ?_
   ·simp [wza6,-Int.pred_toNat]
    (repeat' apply And.intro)<;>try first | omega | (simp at*<;> omega)
    refine (kza flow1 r2  _ h5).ca (by simp [-Int.pred_toNat]) ?_
    (try simp [-Int.pred_toNat])
    all_goals exact zq1
   refine AW.frz 4 [(4,.ptr 1 1 0),(7,slcV 8 qzb.cells l0),(10,.cptr (fun k=>[.bool r5.Neg,.str r5.Num,.str r5.Den].getD k .top) 3 0)] [(0,.gone 1),(1,.box 1 [.nils,.bool false,.str [],.str []]),(2,.gone 1),(3,.gone 1),(4,.gone 2)] rfl rfl trivial (by simp) (by simp) rfl ?_
   obtain ⟨r6,h6,h⟩:=h.ex
   refine AW.rS [(4,.ptr 1 1 0),(5,.int .i64 0)] [(0,.gone 1),(1,.box 1 [slcV 3 qza.cells r6,.bool false,.str [],.str []]),(2,.gone 1),(3,.gone 1),(4,.gone 2)] ?_ ?_
   ·simp [qz6e,-Int.pred_toNat]
    (repeat' apply And.intro)<;>try first | omega | (simp at*<;> omega)
    refine (wzc l0 (fun a0=>vzj a0 r5) 40 0 [.cptr (fun k=>[.bool r5.Neg,.str r5.Num,.str r5.Den].getD k .top) 3 0] (by simp [jzc]) (fun a0 r h=>⟨by kernel_rfl,(qzl6  a0 r5 r h).w (by simp [fnArgs])⟩) _ h6).ca (by simp [-Int.pred_toNat]) ?_
    (try simp [-Int.pred_toNat])
    all_goals exact zq1
   have hr:=h.some
   subst hr
   refine AW.rt (rs:=rs12) [(4,.ptr 1 1 0),(5,.int .i64 0)] [(0,.gone 1),(1,.box 1 (qze.cells (qze.mk r6 (qza.mk false [] [])))),(2,.gone 1),(3,.gone 1),(4,.gone 2)] (by simp) (by simp) rfl rfl (by simp [rs12]) (by simp [rs12]; try rfl)
  ·replace h:=h.neg e
   obtain ⟨r7,h7,h⟩:=h.ex
   refine AW.rS [(3,.ptr 0 1 0),(4,.ptr 1 1 0),(7,slcV 8 qzb.cells l0),(9,.ptr 3 1 0),(35,.bool (decide (0 < r7)))] [(0,.box 1 [.bool flow1.Neg,.str flow1.Num,.str flow1.Den]),(1,.box 1 [.nils,.bool false,.str [],.str []]),(2,.gone 1),(3,.box 1 (qza.cells r3))] ?_ ?_
   ·simp [qz8o,-Int.pred_toNat]
    (repeat' apply And.intro)<;>try first | omega | (simp at*<;> omega)
    refine (jze flow1 r3  _ h7).ca (by simp [-Int.pred_toNat]) ?_
    (try simp [-Int.pred_toNat])
    all_goals exact zq1
   refine AW.ifF (decide (0 < r7)) rfl (by simp) (fun e=>?_) (fun e=>?_)
   ·replace h:=h.pos e
    obtain ⟨r8,h8,h⟩:=h.ex
    obtain ⟨r9,h9,h⟩:=h.ex
    refine AW.dS [(4,.ptr 1 1 0),(5,.int .i64 0)] [(0,.gone 1),(1,.box 1 [slcV 3 qza.cells r8,.bool r9.Neg,.str r9.Num,.str r9.Den]),(2,.gone 1),(3,.gone 1)] ?_ ?_
    ·simp [qzz9,-Int.pred_toNat]
     (repeat' apply And.intro)<;>try first | omega | (simp at*<;> omega)
     refine (wzc l0 (fun a0=>yz0 a0) 41 0 [] (by simp [jzc]) (fun a0 r h=>⟨by kernel_rfl,(qzl4  a0  r h).w (by simp [fnArgs])⟩) _ h8).cd (by simp [-Int.pred_toNat]) ?_
     (try simp [-Int.pred_toNat])
     (repeat' apply And.intro)<;>try first | omega | (simp at*<;> omega)
     refine (qze9 flow1 r3  _ h9).cd (by simp [-Int.pred_toNat]) ?_
     (try simp [-Int.pred_toNat])
     all_goals exact zq2
    have hr:=h.some
    subst hr
    refine AW.rt (rs:=rs12) [(4,.ptr 1 1 0),(5,.int .i64 0)] [(0,.gone 1),(1,.box 1 (qze.cells (qze.mk r8 r9))),(2,.gone 1),(3,.gone 1)] (by simp) (by simp) rfl rfl (by simp [rs12]) (by simp [rs12]; try rfl)
   ·replace h:=h.neg e
    refine AW.skip ?_
    obtain ⟨r10,h10,h⟩:=h.ex
    obtain ⟨r11,h11,h⟩:=h.ex
    refine AW.rS [(4,.ptr 1 1 0),(5,.int .i64 0)] [(0,.gone 1),(1,.box 1 [slcV 3 qza.cells r11,.bool false,.str [],.str []]),(2,.gone 1),(3,.gone 1)] ?_ ?_
    ·simp [qz0c,-Int.pred_toNat]
     (repeat' apply And.intro)<;>try first | omega | (simp at*<;> omega)
     refine (qzcp l0 flow1  _ h10).ca (by simp [-Int.pred_toNat]) ?_
     (try simp [-Int.pred_toNat])
     (repeat' apply And.intro)<;>try first | omega | (simp at*<;> omega)
     refine (wzc l0 (fun a0=>wza (qz6.mk r10) a0) 35 1 [.agg [.bool r10.Neg,.str r10.Num,.str r10.Den]] (by simp [jzc]) (fun a0 r h=>⟨by kernel_rfl,(qzam (qz6.mk r10) a0  r h).w (by simp [fnArgs])⟩) _ h11).ca (by simp [-Int.pred_toNat]) ?_
     (try simp [-Int.pred_toNat])
     all_goals exact zq1
    have hr:=h.some
    subst hr
    refine AW.rt (rs:=rs12) [(4,.ptr 1 1 0),(5,.int .i64 0)] [(0,.gone 1),(1,.box 1 (qze.cells (qze.mk r11 (qza.mk false [] [])))),(2,.gone 1),(3,.gone 1)] (by simp) (by simp) rfl rfl (by simp [rs12]) (by simp [rs12]; try rfl)
def k12:Fc:=⟨12,[(.slc (.us 1)),(.us 0)],[false,false],[(.us 2),(.int .i64)],fun x=>wzy x.1 x.2⟩
theorem y12:FcOk EE Tryz.prog k12:=⟨by kernel_rfl,fun x _ h=>(kz0 x.1 x.2 _ h).cast (by kernel_rfl)⟩
def k19:Fc:=⟨19,[(.slc (.us 1)),(.us 0),(.us 2)],[false,false,false],[.bool],fun x=>wzx x.1 x.2.1 x.2.2⟩
theorem y19:FcOk EE Tryz.prog k19:=wzio hEE (H:=[k12,k55]) ⟨y12,y55,trivial⟩ [] [] .n (fn:=Tryz.f19) rfl (by kernel_rfl) (by kernel_rfl) fun _=>by kernel_rfl
def k9:Fc:=⟨9,[],[],[.bool],fun x=>yzu ⟩
set_option maxRecDepth 100000 in
theorem u9:yzu=some true:=by decide +kernel
theorem s9:funT [k10,k11,k12,k16,k18,k19,k28,k31,k32] [(0,(.us 1)),(1,(.us 0)),(2,(.int .i64)),(3,(.us 0)),(4,(.int .i64)),(5,(.slc (.us 0))),(7,(.us 0)),(8,(.int .i64)),(14,(.us 0)),(15,(.int .i64))] (cRs Tryz.prog Tryz.f9.results.toList) Tryz.f9.ntmps (cF Tryz.prog [] Tryz.f9) (.s .n (.s .n (.s .n (.s .n (.s (.s .n (.b none (.l [0] ⟨.n,[(1,.k),(3,.k),(45,.k),(46,.k),(47,.v (.int .i64))],[(0,.gone),(1,.k),(2,.gone),(3,.gone),(4,.gone),(5,.k),(6,.gone)]⟩ [⟨(.x 0),[(1,.k),(3,.k)],[(0,.gone),(1,.k),(2,.gone),(3,.gone),(4,.gone),(5,.k),(6,.gone)]⟩,⟨.r,[(0,.v .bool)],[(0,.gone),(1,.gone),(2,.gone),(3,.gone),(4,.gone),(5,.gone),(6,.gone),(7,.gone),(8,.gone),(9,.gone),(10,.gone),(11,.gone),(12,.gone),(13,.gone),(14,.gone),(15,.gone)]⟩] .n))) (.s .n (.s (.s .n (.b none (.l [0] ⟨.n,[(1,.k),(3,.k),(8,.k),(75,.k),(76,.k),(77,.v (.int .i64))],[(0,.gone),(1,.gone),(2,.gone),(3,.gone),(4,.gone),(5,.k),(6,.gone),(7,.k),(8,.k),(9,.gone)]⟩ [⟨(.x 2),[(1,.k),(3,.k)],[(0,.gone),(1,.gone),(2,.gone),(3,.gone),(4,.gone),(5,.k),(6,.gone),(7,.k),(8,.k),(9,.gone)]⟩,⟨.r,[(0,.v .bool)],[(0,.gone),(1,.gone),(2,.gone),(3,.gone),(4,.gone),(5,.gone),(6,.gone),(7,.gone),(8,.gone),(9,.gone),(10,.gone),(11,.gone),(12,.gone),(13,.gone),(14,.gone),(15,.gone)]⟩] .n))) .n))))))) k9 ()=some true:=by kernel_rfl
theorem y9:FcOk EE Tryz.prog k9:=wzio hEE (H:=[k10,k11,k12,k16,k18,k19,k28,k31,k32]) ⟨y10,y11,y12,y16,y18,y19,y28,y31,y32,trivial⟩ [] [(0,(.us 1)),(1,(.us 0)),(2,(.int .i64)),(3,(.us 0)),(4,(.int .i64)),(5,(.slc (.us 0))),(7,(.us 0)),(8,(.int .i64)),(14,(.us 0)),(15,(.int .i64))] (.s .n (.s .n (.s .n (.s .n (.s (.s .n (.b none (.l [0] ⟨.n,[(1,.k),(3,.k),(45,.k),(46,.k),(47,.v (.int .i64))],[(0,.gone),(1,.k),(2,.gone),(3,.gone),(4,.gone),(5,.k),(6,.gone)]⟩ [⟨(.x 0),[(1,.k),(3,.k)],[(0,.gone),(1,.k),(2,.gone),(3,.gone),(4,.gone),(5,.k),(6,.gone)]⟩,⟨.r,[(0,.v .bool)],[(0,.gone),(1,.gone),(2,.gone),(3,.gone),(4,.gone),(5,.gone),(6,.gone),(7,.gone),(8,.gone),(9,.gone),(10,.gone),(11,.gone),(12,.gone),(13,.gone),(14,.gone),(15,.gone)]⟩] .n))) (.s .n (.s (.s .n (.b none (.l [0] ⟨.n,[(1,.k),(3,.k),(8,.k),(75,.k),(76,.k),(77,.v (.int .i64))],[(0,.gone),(1,.gone),(2,.gone),(3,.gone),(4,.gone),(5,.k),(6,.gone),(7,.k),(8,.k),(9,.gone)]⟩ [⟨(.x 2),[(1,.k),(3,.k)],[(0,.gone),(1,.gone),(2,.gone),(3,.gone),(4,.gone),(5,.k),(6,.gone),(7,.k),(8,.k),(9,.gone)]⟩,⟨.r,[(0,.v .bool)],[(0,.gone),(1,.gone),(2,.gone),(3,.gone),(4,.gone),(5,.gone),(6,.gone),(7,.gone),(8,.gone),(9,.gone),(10,.gone),(11,.gone),(12,.gone),(13,.gone),(14,.gone),(15,.gone)]⟩] .n))) .n))))))) (fn:=Tryz.f9) rfl (by kernel_rfl) (by kernel_rfl) fun _=>s9.trans u9.symm
def k6:Fc:=⟨6,[(.slc (.us 1)),(.us 0),(.us 3)],[false,false,false],[.bool],fun x=>wz0i x.1 x.2.1 x.2.2⟩
theorem y6:FcOk EE Tryz.prog k6:=wzio hEE (H:=[k8,k9,k12,k16,k18,k21,k27,k28]) ⟨y8,y9,y12,y16,y18,y21,y27,y28,trivial⟩ [(5,4),(15,14)] [(3,(.us 1)),(7,(.us 1)),(8,(.us 1)),(9,(.us 1)),(10,(.us 1)),(13,(.us 0))] (.s .n (.s .n (.s .n (.s .n (.s .n (.s .n (.s .n (.s .n (.s (.s .n (.b none (.l [] ⟨.n,[(0,.k),(4,.k),(7,.k),(8,.k),(9,.k),(10,.k),(11,.k),(12,.own 10),(13,.own 8),(14,.v .bool),(69,.k),(70,.k),(71,.v (.int .i64))],[(0,.k),(1,.gone),(2,.k),(3,.k),(6,.gone),(7,.gone),(8,.own (.us 1)),(9,.gone),(10,.own (.us 1))]⟩ [⟨(.x 0),[(0,.k),(4,.k),(7,.k),(8,.k),(9,.k),(10,.k),(11,.k),(12,.own 10),(13,.own 8),(14,.v .bool)],[(0,.k),(1,.gone),(2,.k),(3,.k),(6,.gone),(7,.gone),(8,.own (.us 1)),(9,.gone),(10,.own (.us 1))]⟩] .n))) (.s .n (.s .n (.s .n (.s .n (.s (.s .n (.b none (.l [] ⟨.n,[(4,.k),(7,.k),(9,.k),(13,.k),(14,.k),(19,.k),(188,.k),(189,.v (.int .i64))],[(0,.k),(1,.gone),(2,.k),(3,.gone),(6,.gone),(7,.gone),(8,.k),(9,.gone),(10,.gone),(11,.gone),(12,.k),(13,.gone)]⟩ [⟨(.x 2),[(4,.k),(7,.k),(13,.k),(14,.k)],[(0,.k),(1,.gone),(2,.k),(3,.gone),(6,.gone),(7,.gone),(8,.k),(9,.gone),(10,.gone),(11,.gone),(12,.k),(13,.gone)]⟩,⟨.r,[(6,.v .bool)],[(0,.gone),(1,.gone),(2,.gone),(3,.gone),(4,.gone),(6,.gone),(7,.gone),(8,.gone),(9,.gone),(10,.gone),(11,.gone),(12,.gone),(13,.gone),(14,.gone),(16,.gone)]⟩] .n))) .n)))))))))))))) (fn:=Tryz.f6) rfl (by kernel_rfl) (by kernel_rfl) fun _=>by kernel_rfl
theorem wz0m (l0:List qzb) (flow1:qza) (q2:kzi)  (r:Bool) (h:wz0i l0 flow1 q2=some r):qzq EE Tryz.prog 6 [slcV 8 qzb.cells l0,.agg (qza.cells flow1),.agg (kzi.cells q2)] (.bool r):=y6.still (x:=(l0,flow1,q2)) (y:=r) h (by kernel_rfl)
end Go.Am

