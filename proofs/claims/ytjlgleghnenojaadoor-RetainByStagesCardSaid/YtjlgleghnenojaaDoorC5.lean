/- Part C5: contracts of some functions of this seat. No condition. -/
import Derived.Test.YtjlgleghnenojaaDoorC4
set_option linter.unusedSimpArgs false
set_option linter.unusedVariables false
set_option maxRecDepth 8000
namespace Go.Am
open Go.Proofs
attribute [local simp] areg aop dreg dop AOp.req argv argU AOp.args wze AOp.unAll Req.val Req.when putT putH qzdb ablk qzfc qzbd qzcj unc unv jzp vz1 ARes.ok vz5 ARes.val cut inr AOp.quiet
attribute [local simp] qzc0 qzbz qzcz qze2 qzer qzep qz08 kzp
attribute [local simp] jzeg VSub.refl TSub jzej
attribute [local simp] AObj.plain AObj.owned AObj.ep hset h0 wz9 qzbw wzk vz6 AVal.one lay jzv ldv fzv fzl fz1
def k39:Fc:=⟨39,[(.slc (.us 2)),(.fn 1)],[false,false],[.bool],fun x=>jz8 x.1 x.2.g⟩
def k64:Fc:=⟨64,[(.us 2),(.us 6)],[false,true],[.bool],fun x=>kzh1 x.1 x.2⟩
def k50:Fc:=⟨50,[(.us 10),(.us 6)],[false,false],[.bool],fun x=>kzh6 x.1 x.2⟩
def cpB(b:kzht):AVal:=.cptr (fun j=>(kzht.cells b).getD j .top) 3 0
theorem kzm6{a:kzhv}{z:AVal}(hz:z∈a.cells):qzt z:=by simp[kzhv.cells]at hz;rcases hz with rfl|rfl|rfl<;>exact .int _ _
theorem kznc{a:kzht}{z:AVal}(hz:z∈a.cells):qzt z:=by simp[kzht.cells]at hz;rcases hz with rfl|rfl|rfl<;>exact .int _ _
theorem kzpq(b:kzht):qzt (cpB b):=.cptr _ _ _ fun j hj=>by
 have:j=0\/j=1\/j=2:=by omega
 rcases this with rfl|rfl|rfl<;>exact .int _ _
theorem kzlq{k:kzhu}{z:AVal}(hz:z∈k.cells):qzt z:=by simp[kzhu.cells,kzhz.cells]at hz;rcases hz with rfl|rfl|rfl|rfl|rfl|rfl|rfl<;>first|exact .int _ _|exact qzj fun a z hz=>kzm6 hz
def fvB(H64:FcOk k64)(b:kzht):FnV 1:=⟨64,0,[cpB b],fun z hz=>by rw[Gcc.1 hz];exact kzpq b,fun a=>kzh1 a b,fun a r e=>⟨H64.en,(H64.ok (a,b) r e).cast (by kernel_rfl)⟩⟩
theorem kzv2(hC:∀(fs:List kzhv) (b:kzht) (r:Bool),jz8 fs (fun a=>kzh1 a b)=some r->qzq EE Tryd.prog 39 [slcV 3 kzhv.cells fs,.fn 64 0 [cpB b]] (.bool r))(k:kzhu) (b:kzht) (r:Bool) (h:kzh6 k b=some r):Pure EE Tryd.prog 50 [.agg k.cells,.agg b.cells] (.bool r):=by
 unfold kzh6 at h;cases h1:inB .i64 (b.To-1) with
 |false=>rw[h1]at h;cases h
 |true =>
 rw[h1]at h;cases h2:inB .i64 (k.today-(b.To-1).tdiv 96) with
 |false=>rw[h2]at h;cases h
 |true =>
 rw[h2]at h;have h:bd (at? [k.limits.e0,k.limits.e1,k.limits.e2,k.limits.e3,k.limits.e4] b.Level) (fun x=>bd (gd (decide (x<k.today-(b.To-1).tdiv 96)) (jz8 k.freezes (fun a0=>kzh1 a0 b))) fun r=>some (bif decide (x<k.today-(b.To-1).tdiv 96) then !r else false))=some r:=h;cases h3:at? [k.limits.e0,k.limits.e1,k.limits.e2,k.limits.e3,k.limits.e4] b.Level with
 |none=>rw[h3]at h;cases h
 |some x =>
 rw[h3]at h;obtain⟨q1,q2,q3⟩:=qzlv h3;have q2:b.Level<5:=q2
 have hat:k.cells[b.Level.toNat]?=some (.int .i64 x):=by
  obtain⟨l,f,t⟩:=k;have:b.Level=0\/b.Level=1\/b.Level=2\/b.Level=3\/b.Level=4:=by omega
  rcases this with e|e|e|e|e<;>rw[e]at q3 ⊢<;>cases q3<;>rfl
 obtain⟨r',hr1,hr2⟩:∃r',(decide (x<k.today-(b.To-1).tdiv 96)=true->jz8 k.freezes (fun a0=>kzh1 a0 b)=some r')/\r=(decide (x<k.today-(b.To-1).tdiv 96)&&!r'):=by
  cases hd:decide (x<k.today-(b.To-1).tdiv 96)
  ·have h:bd (gd (decide (x<k.today-(b.To-1).tdiv 96)) (jz8 k.freezes (fun a0=>kzh1 a0 b))) (fun r=>some (bif decide (x<k.today-(b.To-1).tdiv 96) then !r else false))=some r:=h;rw[hd]at h;cases h;exact⟨false,(fun e=>by cases e),rfl⟩
  ·have h:bd (gd (decide (x<k.today-(b.To-1).tdiv 96)) (jz8 k.freezes (fun a0=>kzh1 a0 b))) (fun r=>some (bif decide (x<k.today-(b.To-1).tdiv 96) then !r else false))=some r:=h;rw[hd]at h;cases hf:jz8 k.freezes (fun a0=>kzh1 a0 b) with
   |none=>rw[hf]at h;cases h
   |some r'=>rw[hf]at h;cases h;exact⟨r',fun _=>rfl,rfl⟩
 subst hr2;have i1:-9223372036854775808<=b.To-1/\b.To-1<=9223372036854775807:=by simpa [inB] using h1
 have i2:-9223372036854775808<=k.today-(b.To-1).tdiv 96/\k.today-(b.To-1).tdiv 96<=9223372036854775807:=by simpa [inB] using h2
 have i3:-9223372036854775808<=(b.To-1).tdiv 96/\(b.To-1).tdiv 96<=9223372036854775807:=by
  rcases Int.lt_or_le (b.To-1) 0 with h|h
  ·have:=Int.neg_tdiv (a:=b.To-1) (b:=96);have e:=Gay (a:=-(b.To-1)) (by omega) (b:=96);omega
  ·rw[Gay h];omega
 obtain⟨c,hb,hc⟩:=ck50;refine Pure.of (fn:=Tryd.f50) rfl hb cr50 (hc 0) 25 rfl ?_;obtain⟨⟨e0,e1,e2,e3,e4⟩,fz,td⟩:=k;obtain⟨bl,bf,bt⟩:=b;simp only[kzhu.cells,kzht.cells]at *;refine .seq (.reg ?_);simp[kzst];refine .seq (.draw ?_);simp[kzso,hat];have q5:bl<5:=q2;have q6:0<=bl:=q1;refine⟨by omega,by omega,by omega,by omega,by omega,rfl,?_⟩;refine .fz 1 (by simp) (by simp) ?_;simp;refine .seq (.reg ?_);simp[kzs9];refine .pure (.bool r') (fun e=>by simp) (fun e=>hC fz ⟨bl,bf,bt⟩ r' (hr1 (by simpa using e))) ?_;try simp
 refine .retp (rs:=rs50) rfl ?_ ?_<;>simp[rs50]
theorem kzvq(H39:FcOk k39)(H64:FcOk k64):FcOk k50:=by
 refine⟨by kernel_rfl,fun x y e=>?_⟩;have hC:∀(fs:List kzhv) (b:kzht) (r:Bool),jz8 fs (fun a=>kzh1 a b)=some r->qzq EE Tryd.prog 39 [slcV 3 kzhv.cells fs,.fn 64 0 [cpB b]] (.bool r):=fun fs b r h=>H39.still (x:=(fs,fvB H64 b)) (y:=r) h (by kernel_rfl)
 exact(Pure.still (kzv2 hC x.1 x.2 y e) hEE (fun z hz=>by
  rcases Gb3.1 hz with rfl|hz
  ·exact .agg _ fun z hz=>kzlq hz
  ·rw[Gcc.1 hz];exact .agg _ fun z hz=>kznc hz) (.bool _)).cast (by kernel_rfl)
end Go.Am

