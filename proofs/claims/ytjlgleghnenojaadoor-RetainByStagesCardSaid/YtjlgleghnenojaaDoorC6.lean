/- Part C6: contracts of some functions of this seat. No condition. -/
import Derived.Test.YtjlgleghnenojaaDoorC5
set_option linter.unusedSimpArgs false
set_option linter.unusedVariables false
set_option maxRecDepth 8000
namespace Go.Am
open Go.Proofs
attribute [local simp] areg aop dreg dop AOp.req argv argU AOp.args wze AOp.unAll Req.val Req.when putT putH qzdb ablk qzfc qzbd qzcj unc unv jzp vz1 ARes.ok vz5 ARes.val cut inr AOp.quiet
attribute [local simp] qzc0 qzbz qzcz qze2 qzer qzep qz08 kzp
attribute [local simp] jzeg VSub.refl TSub jzej
attribute [local simp] AObj.plain AObj.owned AObj.ep hset h0 wz9 qzbw wzk vz6 AVal.one lay jzv ldv fzv fzl fz1
def k49:Fc:=⟨49,[(.int .i64),(.int .i64)],[false,false],[(.us 6),(.int .i64)],fun x=>kzic x.1 x.2⟩
def k32:Fc:=⟨32,[(.us 10),(.int .i64)],[false,false],[(.us 6)],fun x=>kzid x.1 x.2⟩
def cT(t:Int):AVal:=.cptr (fun k=>[AVal.int .i64 t].getD k .top) 1 0
def cK(k:kzhu):AVal:=.cptr (fun j=>(kzhu.cells k).getD j .top) 7 0
theorem kzs6(t:Int):cT t=.cptr (fun k=>[AVal.int .i64 t].getD k .top) 1 0:=rfl
theorem kzoj:kzz Tryd.prog 48=true:=by kernel_rfl
set_option maxHeartbeats 2000000 in
theorem kzwg(hB:∀(l t:Int) (p:kzht×Int),kzic l t=some p->qzq EE Tryd.prog 49 [.int .i64 l,.int .i64 t] (.tup [.agg p.1.cells,.int .i64 p.2]))(hM:∀(k:kzhu) (b:kzht) (r:Bool),kzh6 k b=some r->qzq EE Tryd.prog 50 [.agg k.cells,.agg b.cells] (.bool r)) (k:kzhu) (t:Int) :
  ∀(l:Nat),l<=4->∀r,kzh3 k t l (l:Int)=some r->∀(b:Nat) (h:qzl),3<b->h 3=.box 1 [.fn 48 0 [cT t,cK k,.ptr 3 1 0]]->(∀i,b<=i->h i=.gone 0) ->
   ATr EE Tryd.prog 48 [.int .i64 l,cT t,cK k,.ptr 3 1 0] h (fun r' h'=>r'=.agg r.cells/\∀i,i<b->h' i=h i):=by
 intro l;induction l with
 |zero=>intro _ r hr;cases hr
 |succ l ih =>
  intro hl r hr b h hb h3 hpl
  have hr:bd (kzic ((l+1:Nat):Int) t) (fun p=>bd (kzh6 k p.1) fun m =>
   ite' m (some p.1) (ite' (decide (((l+1:Nat):Int)=1)) (some (kzht.mk 0 p.1.From p.1.To)) (kzh3 k t l (((l+1:Nat):Int)-1))))=some r:=hr
  cases h1:kzic ((l+1:Nat):Int) t with
  |none=>rw[h1]at hr;cases hr
  |some p =>
  rw[h1]at hr;have hr:bd (kzh6 k p.1) (fun m=>ite' m (some p.1) (ite' (decide (((l+1:Nat):Int)=1)) (some (kzht.mk 0 p.1.From p.1.To)) (kzh3 k t l (((l+1:Nat):Int)-1))))=some r:=hr;cases h2:kzh6 k p.1 with
  |none=>rw[h2]at hr;cases hr
  |some m =>
  rw[h2]at hr;have hr:ite' m (some p.1) (ite' (decide (((l+1:Nat):Int)=1)) (some (kzht.mk 0 p.1.From p.1.To)) (kzh3 k t l (((l+1:Nat):Int)-1)))=some r:=hr;have sB:=hB _ _ _ h1;have sM:=hM _ _ _ h2;obtain⟨⟨pl,pf,pt⟩,pe⟩:=p;obtain⟨⟨d0,d1,d2,d3,d4⟩,fz,td⟩:=k;simp only[kzht.cells,kzhu.cells,cK]at *;obtain⟨c,hbd,hc⟩:=ck48;refine ATr.of (fn:=Tryd.f48) rfl hbd cr48 (hc b) 24 rfl ?_;have hb3:¬(3=b):=by omega
  have hb4:¬(3=b+1):=by omega
  have p0:=hpl b (Gcy _);have p1:=hpl (b+1) (by omega);have hlo:∀i,i<b->¬(i=b)/\¬(i=b+1):=fun i hi=>⟨by omega,by omega⟩;have ec:((l+1:Nat):Int)=(l:Int)+1:=by omega
  rw[ec]at *;refine .seq (.reg ?_);simp[kzaq,kzs6,p0];refine .seq (.reg ?_);simp[kzah,p0];refine sB.call ?_;simp[p1];refine .seq (.block (.seq (.reg ?_)));simp[kzat];refine sM.call ?_;try simp
  refine .cond (t:=m) (by simp) (fun e=>?_) (fun e=>?_)
  ·subst e;have hr:some (kzht.mk pl pf pt)=some r:=hr;cases hr;refine .seq (.reg ?_);simp[kzar];refine .ret ?_;simp only[qzdb,ablk];refine .here ?_ rfl ⟨?_,fun i hi=>?_⟩
   ·simp[rs48]
   ·simp[rs48,kzht.cells]
   ·simp[(hlo i hi).1,(hlo i hi).2]
  subst e;have hr:ite' (decide ((l:Int)+1=1)) (some (kzht.mk 0 pf pt)) (kzh3 ⟨⟨d0,d1,d2,d3,d4⟩,fz,td⟩ t l ((l:Int)+1-1))=some r:=hr;refine .seq (.reg ?_);simp[kzaf];refine .cond (t:=decide (l=0)) (by simp;omega) (fun e1=>?_) (fun e1=>?_)
  ·simp only[Gdz]at e1;subst e1;have hr:some (kzht.mk 0 pf pt)=some r:=hr;cases hr;refine .seq (.reg ?_);simp[kzag];refine .seq (.reg ?_);simp[kzal];refine .ret ?_;simp only[qzdb,ablk];refine .here ?_ rfl ⟨?_,fun i hi=>?_⟩
   ·simp[rs48]
   ·simp[rs48,kzht.cells]
   ·simp[(hlo i hi).1,(hlo i hi).2]
  simp only[decide_eq_false_iff_not]at e1
  have hr:kzh3 ⟨⟨d0,d1,d2,d3,d4⟩,fz,td⟩ t l (l:Int)=some r:=by
   rw[Gdw (show ¬((l:Int)+1=1) by omega)]at hr;have hr:kzh3 ⟨⟨d0,d1,d2,d3,d4⟩,fz,td⟩ t l ((l:Int)+1-1)=some r:=hr
   rwa [show(l:Int)+1-1=l by omega]at hr
  refine .skip ?_;try simp
  refine .seq (.reg ?_);simp[kztb,h3,hb3,hb4,kzs6];refine⟨by omega,kzoj,?_⟩;refine(ih (by omega) r hr (b+2) _ (by omega) ?_ ?_).mono ?_
  ·simp[h3,hb3,hb4,cT]
  ·intro i hi;have:=hpl i (by omega);simp[show ¬(i=b) by omega,show ¬(i=b+1) by omega,this]
  rintro r' h' ⟨rfl,hh⟩;have hb':=hh b (by omega);simp at hb';simp[hb',kzht.cells];refine .ret ?_;refine .here ?_ rfl ⟨?_,fun i hi=>?_⟩
  ·simp[rs48]
  ·simp[rs48,kzht.cells]
  ·have:=hh i (by omega);simp[(hlo i hi).1,(hlo i hi).2]at this ⊢;exact this
theorem kzw3(hB:∀(l t:Int) (p:kzht×Int),kzic l t=some p->qzq EE Tryd.prog 49 [.int .i64 l,.int .i64 t] (.tup [.agg p.1.cells,.int .i64 p.2]))(hM:∀(k:kzhu) (b:kzht) (r:Bool),kzh6 k b=some r->qzq EE Tryd.prog 50 [.agg k.cells,.agg b.cells] (.bool r)) (k:kzhu) (t:Int) (r:kzht) (h:kzid k t=some r) :
  Pure EE Tryd.prog 32 [.agg k.cells,.int .i64 t] (.agg r.cells):=by
 have H:=kzwg hB hM k t 4 (by omega) r h;obtain⟨⟨d0,d1,d2,d3,d4⟩,fz,td⟩:=k;simp only[kzhu.cells,cK]at *;obtain⟨c,hb,hc⟩:=ck32;refine Pure.of (fn:=Tryd.f32) rfl hb cr32 (hc 0) 7 rfl ?_;refine .seq (.reg ?_);simp[qz5b];refine .fz 0 (by simp) (by simp) ?_;simp;refine .fz 1 (by simp) (by simp) ?_;simp;refine .seq (.reg ?_);simp[wzbt];refine .seq (.reg ?_);simp[wzam];refine .seq (.reg ?_);simp[qz5r];refine⟨kzoj,?_⟩;refine(H 4 _ (by omega) ?_ ?_).mono ?_
 ·simp[cT]
 ·intro i hi;simp[show ¬(i=0) by omega,show ¬(i=1) by omega,show ¬(i=2) by omega,show ¬(i=3) by omega]
 rintro r' h' ⟨rfl,hh⟩;have h2:=hh 2 (by omega);simp at h2;simp[h2,kzht.cells];refine .retp (rs:=rs32) rfl ?_ ?_<;>simp[rs32,kzht.cells]
theorem kzvn(H49:FcOk k49)(H50:FcOk k50):FcOk k32:=by
 refine⟨by kernel_rfl,fun x y e=>?_⟩
 exact(Pure.still (kzw3 (fun l t p h=>H49.still (x:=(l,t)) (y:=p) h (by kernel_rfl)) (fun k b r h=>H50.still (x:=(k,b)) (y:=r) h (by kernel_rfl)) x.1 x.2 y e) hEE (fun z hz=>by
  rcases Gb3.1 hz with rfl|hz
  ·exact .agg _ fun z hz=>kzlq hz
  ·rw[Gcc.1 hz];exact .int _ _) (.agg _ fun z hz=>kznc hz)).cast (by kernel_rfl)
end Go.Am

