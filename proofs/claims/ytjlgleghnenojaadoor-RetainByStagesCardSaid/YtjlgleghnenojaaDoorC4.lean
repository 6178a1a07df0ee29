/- Part C4: contracts of some functions of this seat. No condition. -/
import Derived.Test.YtjlgleghnenojaaDoorC1
set_option linter.unusedSimpArgs false
set_option linter.unusedVariables false
set_option maxRecDepth 8000
namespace Go.Am
open Go.Proofs
attribute [local simp] areg aop dreg dop AOp.req argv argU AOp.args wze AOp.unAll Req.val Req.when putT putH qzdb ablk qzfc qzbd qzcj unc unv jzp vz1 ARes.ok vz5 ARes.val cut inr AOp.quiet
attribute [local simp] qzc0 qzbz qzcz qze2 qzer qzep qz08 kzp
attribute [local simp] jzeg VSub.refl TSub jzej
attribute [local simp] AObj.plain AObj.owned AObj.ep hset h0 wz9 qzbw wzk vz6 AVal.one lay jzv ldv fzv fzl fz1
def k68:Fc:=⟨68,[(.int .i64)],[false],[.bool],fun x=>kzih x⟩
def k61:Fc:=⟨61,[(.int .i64),(.int .i64)],[false,false],[(.int .i64)],fun x=>kzh7 x.1 x.2⟩
theorem kzsc(hL:∀y b,kzih y=some b->qzq EE Tryd.prog 68 [.int .i64 y] (.bool b))(y m r:Int)(h:kzh7 y m=some r):Pure EE Tryd.prog 61 [.int .i64 y,.int .i64 m] (.int .i64 r):=by
 obtain⟨lp',hl⟩:∃b,kzih y=some b:=⟨_,rfl⟩;have hst:=hL y lp' hl;unfold kzh7 at h;rw[hl]at h;obtain⟨c,hb,hc⟩:=ck61;refine Pure.of (fn:=Tryd.f61) rfl hb cr61 (hc 0) 13 rfl ?_;refine .seq (.reg ?_);simp[qz56];refine .seq (.seq (.reg ?_));simp[qz77];refine .pure (.bool lp') (fun e=>by simp) (fun _=>hst) ?_;simp;refine .cond (t:=decide (m=2)&&lp') (by simp) (fun e=>?_) (fun e=>?_)
 ·simp only[Gai,Gdz]at e;obtain⟨e1,rfl⟩:=e;rw[Gdy e1]at h;have h:some 29=some r:=h;cases h;refine .seq (.reg ?_);simp[wzbg];refine .retp (rs:=rs61) rfl ?_ ?_<;>simp[rs61]
 ·have h:at? [31,28,31,30,31,30,31,31,30,31,30,31] (m-1)=some r:=by
   cases hm:decide (m=2)
   ·rw[hm]at h;exact h
   ·rw[hm]at h e;simp only[Bool.true_and]at e;rw[e]at h;exact h
  obtain⟨q1,q2,q3⟩:=qzlv h;have q2:m-1<12:=q2
  have q4:kzmt (m.toNat-1)=r:=by
   have e5:(m-1).toNat=m.toNat-1:=by omega
   rw[e5]at q3;unfold kzmt;rw[List.getD,q3];rfl
  refine .skip ?_;simp;refine .seq (.reg ?_);simp[qz9k,EE,wz9];refine⟨by omega,by omega,by omega,?_⟩;refine .retp (rs:=rs61) rfl ?_ ?_<;>simp[rs61,q4]
theorem kzvj(H68:FcOk k68):FcOk k61:=by refine⟨by kernel_rfl,fun x y e=>?_⟩;have hL:∀t b,kzih t=some b->qzq EE Tryd.prog 68 [.int .i64 t] (.bool b):=fun t b h=>H68.still (x:=t) (y:=b) h (by kernel_rfl);exact(Pure.still (kzsc hL x.1 x.2 y e) hEE (fun z hz=>by rcases Gb3.1 hz with rfl | hz;exact .int _ _;rw[Gcc.1 hz];exact .int _ _) (.int _ _)).cast (by kernel_rfl)
end Go.Am

