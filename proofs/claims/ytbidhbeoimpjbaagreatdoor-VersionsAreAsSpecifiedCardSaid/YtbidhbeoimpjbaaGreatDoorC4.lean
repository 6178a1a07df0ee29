/- Part C4: contracts of some functions of this seat. No condition. -/
import Derived.Test.YtbidhbeoimpjbaaGreatDoorC3
import Derived.Test.YtbidhbeoimpjbaaGreatDoorI2
set_option linter.unusedSimpArgs false
set_option linter.unusedVariables false
set_option maxRecDepth 8000
namespace Go.Am
open Go.Proofs
attribute [local simp] areg aop dreg dop Ak.req Ag argU Ak.args BI Ak.unAll Req.val Req.when putT putH Bb ablk CA Ca BD unc unv Cl EJ ARes.ok F7 ARes.val cut inr Ak.quiet
attribute [local simp] Gn Gp Gq Hm Gl Gm LF PA
attribute [local simp] Qz VSub.refl TSub Q0
attribute [local simp] Ai.plain Ai.owned Ai.ep hset h0 C0 Cs Cm AY Aa.one lay Cr ldv fzv fzl fz1
def k42:Fc:=⟨42,[(.slc (.us 3)),(.us 3),(.fn 0)],[false,false,false],[(.int .i64),.bool],fun x=>I8 x.1 x.2.1 (fun a0 a1=>x.2.2.g (a0,a1))⟩
def k43:Fc:=⟨43,[(.us 3),(.us 3)],[false,false],[(.int .i64)],fun x=>DT x.1 x.2⟩
def k22:Fc:=⟨22,[(.us 3)],[false],[.bool],fun x=>Hr x⟩
def k24:Fc:=⟨24,[(.slc (.us 3))],[false],[(.int .i64)],fun x=>DU x⟩
def k12:Fc:=⟨12,[(.slc (.us 3)),(.us 3)],[false,false],[(.slc (.us 3)),(.int .i64)],fun x=>Cf x.1 x.2⟩
def fv43(H43:Az k43):FnV 0:=⟨43,0,[],fun _ h=>(by cases h),fun a=>DT a.1 a.2,fun a r h=>⟨H43.en,H43.still h (by kernel_rfl)⟩⟩
noncomputable def k12d:Fc:=⟨12,[(.slc (.us 3)),(.us 3)],[false,false],[(.slc (.us 3)),(.int .i64)],fun x=>Dn x.1 x.2⟩
theorem uA(g:Gh)(w:World)(x:Ac)(vs:List Value)(h:RVs g w x.cells vs):∀v∈vs,v.oneCell'=true:=by
 intro v hv;obtain⟨i,hi⟩:=qV.1 hv;have hl:i<x.cells.length:=by have h1:=h.1;have h3:=(AN.1 hi).1;omega
 have h2:=h.2 i _ _ (AD hl) hi;have hm:=GT hl;generalize x.cells[i]=c at *;simp only[Ac.cells,Um,U3,AI,JD,JF]at hm;rcases hm with rfl|rfl|rfl|rfl|rfl|rfl|rfl|rfl<;>first|(cases h2;rfl)|(rw[Ic]at h2;generalize List.length _=n at h2;cases h2<;>rfl)
theorem Q5{a:Ac}{z:Aa}(hz:z∈a.cells):AF z:=by
 simp only[Ac.cells,Um,U3,AI,JD,JF]at hz
 rcases hz with rfl|rfl|rfl|rfl|rfl|rfl|rfl|rfl<;>first
  |exact .int _ _
  |exact GP fun b z hz=>by
    simp only[AC.cells,AI,JD,JF]at hz;rcases hz with rfl|rfl|rfl|rfl
    ·exact .int _ _
    ·exact .bool _
    ·exact .str _
    ·exact .str _
theorem uB(D:Az k12d)(H24:Az k24)(H22:Az k22)(H42:Az k42)(H43:Az k43):Az k12:=by
 refine⟨D.en,fun x y h=>?_⟩;obtain⟨l,r⟩:=x;have h:Cf l r=some y:=h;unfold Cf at h;split at h
 ·rename_i z hz;cases h;exact D.ok (l,r) y hz
 unfold Q6 at h;cases h1:DU l with
 |none=>rw[h1]at h;cases h
 |some e =>
 cases h2:Hr r with
 |none=>rw[h1,h2]at h;cases h
 |some b =>
 cases h3:I8 l r (fun a0 a1=>DT a0 a1) with
 |none=>rw[h1,h2,h3]at h;cases h
 |some p =>
 rw[h1,h2,h3]at h;have h:ck (decide (e=0)&&b&&!p.2&&decide (0<=p.1)&&decide (Int.toNat p.1<=List.length l)&&decide (List.length l<400)) (some (insL l (Int.toNat p.1) r,(0:Int)))=some y:=h;cases hc:(decide (e=0)&&b&&!p.2&&decide (0<=p.1)&&decide (Int.toNat p.1<=List.length l)&&decide (List.length l<400)) with
 |false=>rw[hc]at h;cases h
 |true =>
 rw[hc]at h;obtain rfl:y=(insL l (Int.toNat p.1) r,(0:Int)):=(BA h).symm;simp only[AE,BB,GR]at hc;obtain⟨⟨⟨⟨⟨e0,e1⟩,e2⟩,e3⟩,e4⟩,e5⟩:=hc;subst e0 e1;obtain⟨p1,p2⟩:=p;simp only at e2 e3 e4;subst e2;have q1:B8 EE Tryz.prog 24 [slcV 8 Ac.cells l] (.int .i64 0):=H24.still (x:=l) (y:=(0:Int)) h1 (by kernel_rfl);have q2:B8 EE Tryz.prog 22 [.agg (Ac.cells r)] (.bool true):=H22.still (x:=r) (y:=true) h2 (by kernel_rfl);have q3:B8 EE Tryz.prog 42 [slcV 8 Ac.cells l,.agg (Ac.cells r),.fn 43 0 []] (.tup [.int .i64 (p1.toNat:Nat),.bool false]):=by rw[show((p1.toNat:Nat):Int)=p1 by omega];exact H42.still (x:=(l,r,fv43 H43)) (y:=(p1,false)) h3 (by kernel_rfl)
 have main:=uC Ac.cells (fun _=>rfl) uA l r p1.toNat e4 e5 q1 q2 q3
 have hn:∀z,z∈[slcV 8 Ac.cells l,Aa.agg (Ac.cells r)]->AF z:=fun z hz=>by
  simp only[AI,JD,JF]at hz;rcases hz with rfl|rfl
  ·exact GP fun a z hz=>Q5 hz
  ·exact .agg _ fun z hz=>Q5 hz
 exact(Pure.still main hEE hn (.tup _ fun z hz=>by
  simp only[AI,JD,JF]at hz;rcases hz with rfl|rfl
  ·exact GP fun a z hz=>Q5 hz
  ·exact .int _ _)).cast (by kernel_rfl)
end Go.Am

