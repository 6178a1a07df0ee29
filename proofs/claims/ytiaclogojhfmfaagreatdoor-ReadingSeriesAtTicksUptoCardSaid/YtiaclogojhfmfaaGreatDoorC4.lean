/- Part C4: contracts of some functions of this seat. No condition. -/
import Derived.Test.YtiaclogojhfmfaaGreatDoorC3
import Derived.Test.YtiaclogojhfmfaaGreatDoorI2
set_option linter.unusedSimpArgs false
set_option linter.unusedVariables false
set_option maxRecDepth 8000
namespace Go.Am
open Go.Proofs
attribute [local simp] areg aop dreg dop AOp.req argv argU AOp.args wze AOp.unAll Req.val Req.when putT putH qzdb ablk qzfc qzbd qzcj unc unv jzp vz1 ARes.ok vz5 ARes.val cut inr AOp.quiet
attribute [local simp] qzc0 qzbz qzcz qze2 qzer qzep qz08 kzp
attribute [local simp] jzeg VSub.refl TSub jzej
attribute [local simp] AObj.plain AObj.owned AObj.ep hset h0 wz9 qzbw wzk vz6 AVal.one lay jzv ldv fzv fzl fz1
def k21:Fc:=⟨21,[(.slc (.us 0))],[false],[(.int .i64)],fun x=>jzn8 x⟩
def k19:Fc:=⟨19,[(.us 0)],[false],[.bool],fun x=>jzom x⟩
def k46:Fc:=⟨46,[(.slc (.us 0)),(.us 0),(.fn 0)],[false,false,false],[(.int .i64),.bool],fun x=>jzox x.1 x.2.1 (fun a0 a1=>x.2.2.g (a0,a1))⟩
def k47:Fc:=⟨47,[(.us 0),(.us 0)],[false,false],[(.int .i64)],fun x=>jzon x.1 x.2⟩
def k13:Fc:=⟨13,[(.slc (.us 0)),(.us 0)],[false,false],[(.slc (.us 0)),(.int .i64)],fun x=>jzot x.1 x.2⟩
def k74:Fc:=⟨74,[(.slc (.us 5)),(.us 5),(.fn 2)],[false,false,false],[(.int .i64),.bool],fun x=>jzoq x.1 x.2.1 (fun a0 a1=>x.2.2.g (a0,a1))⟩
def k75:Fc:=⟨75,[(.us 5),(.us 5)],[false,false],[(.int .i64)],fun x=>jzo3 x.1 x.2⟩
def k73:Fc:=⟨73,[(.us 5)],[false],[.bool],fun x=>jzo9 x⟩
def k60:Fc:=⟨60,[(.slc (.us 5))],[false],[(.int .i64)],fun x=>jzoo x⟩
def k42:Fc:=⟨42,[(.slc (.us 5)),(.us 5)],[false,false],[(.slc (.us 5)),(.int .i64)],fun x=>jzpu x.1 x.2⟩
def fv47(H47:FcOk k47):FnV 0:=⟨47,0,[],fun _ h=>(by cases h),fun a=>jzon a.1 a.2,fun a r h=>⟨H47.en,H47.still h (by kernel_rfl)⟩⟩
noncomputable def k13d:Fc:=⟨13,[(.slc (.us 0)),(.us 0)],[false,false],[(.slc (.us 0)),(.int .i64)],fun x=>jzp8 x.1 x.2⟩
theorem jzv9(g:Gh)(w:World)(x:jzn4)(vs:List Value)(h:RVs g w x.cells vs):∀v∈vs,v.oneCell'=true:=by
 intro v hv;obtain⟨i,hi⟩:=Gb6.1 hv;have hl:i<x.cells.length:=by have h1:=h.1;have h3:=(Gbg.1 hi).1;omega
 have h2:=h.2 i _ _ (Gbe hl) hi;have hm:=Gbo hl;generalize x.cells[i]=c at *;simp only[jzn4.cells,Ga1,Gcd,Gb3,Gce,Gd8]at hm;rcases hm with rfl|rfl|rfl|rfl|rfl|rfl<;>(cases h2;rfl)
theorem jzrb{a:jzn4}{z:AVal}(hz:z∈a.cells):qzt z:=by simp only[jzn4.cells,Gb3,Gce,Gd8]at hz;rcases hz with rfl|rfl|rfl|rfl|rfl|rfl<;>exact .int _ _
theorem jzvv(D:FcOk k13d)(H21:FcOk k21)(H19:FcOk k19)(H46:FcOk k46)(H47:FcOk k47):FcOk k13:=by
 refine⟨D.en,fun x y h=>?_⟩;obtain⟨l,r⟩:=x;have h:jzot l r=some y:=h;unfold jzot at h;split at h
 ·rename_i z hz;cases h;exact D.ok (l,r) y hz
 unfold jzp6 at h;cases h1:jzn8 l with
 |none=>rw[h1]at h;cases h
 |some e =>
 cases h2:jzom r with
 |none=>rw[h1,h2]at h;cases h
 |some b =>
 cases h3:jzox l r (fun a0 a1=>jzon a0 a1) with
 |none=>rw[h1,h2,h3]at h;cases h
 |some p =>
 rw[h1,h2,h3]at h;have h:ck (decide (e=0)&&b&&!p.2&&decide (0<=p.1)&&decide (Int.toNat p.1<=List.length l)&&decide (List.length l<4000)) (some (insL l (Int.toNat p.1) r,(0:Int)))=some y:=h;cases hc:(decide (e=0)&&b&&!p.2&&decide (0<=p.1)&&decide (Int.toNat p.1<=List.length l)&&decide (List.length l<4000)) with
 |false=>rw[hc]at h;cases h
 |true =>
 rw[hc]at h;obtain rfl:y=(insL l (Int.toNat p.1) r,(0:Int)):=(Gdp h).symm;simp only[Gai,Gdz,Gao]at hc;obtain⟨⟨⟨⟨⟨e0,e1⟩,e2⟩,e3⟩,e4⟩,e5⟩:=hc;subst e0 e1;obtain⟨p1,p2⟩:=p;simp only at e2 e3 e4;subst e2;have q1:qzq EE Tryz.prog 21 [slcV 6 jzn4.cells l] (.int .i64 0):=H21.still (x:=l) (y:=(0:Int)) h1 (by kernel_rfl);have q2:qzq EE Tryz.prog 19 [.agg (jzn4.cells r)] (.bool true):=H19.still (x:=r) (y:=true) h2 (by kernel_rfl);have q3:qzq EE Tryz.prog 46 [slcV 6 jzn4.cells l,.agg (jzn4.cells r),.fn 47 0 []] (.tup [.int .i64 (p1.toNat:Nat),.bool false]):=by rw[show((p1.toNat:Nat):Int)=p1 by omega];exact H46.still (x:=(l,r,fv47 H47)) (y:=(p1,false)) h3 (by kernel_rfl)
 have main:=jzve jzn4.cells (fun _=>rfl) jzv9 l r p1.toNat e4 e5 q1 q2 q3
 have hn:∀z,z∈[slcV 6 jzn4.cells l,AVal.agg (jzn4.cells r)]->qzt z:=fun z hz=>by
  simp only[Gb3,Gce,Gd8]at hz;rcases hz with rfl|rfl
  ·exact qzj fun a z hz=>jzrb hz
  ·exact .agg _ fun z hz=>jzrb hz
 exact(Pure.still main hEE hn (.tup _ fun z hz=>by
  simp only[Gb3,Gce,Gd8]at hz;rcases hz with rfl|rfl
  ·exact qzj fun a z hz=>jzrb hz
  ·exact .int _ _)).cast (by kernel_rfl)
def fv75(H75:FcOk k75):FnV 2:=⟨75,0,[],fun _ h=>(by cases h),fun a=>jzo3 a.1 a.2,fun a r h=>⟨H75.en,H75.still h (by kernel_rfl)⟩⟩
noncomputable def k42d:Fc:=⟨42,[(.slc (.us 5)),(.us 5)],[false,false],[(.slc (.us 5)),(.int .i64)],fun x=>jzql x.1 x.2⟩
theorem jzwa(g:Gh)(w:World)(x:jzn5)(vs:List Value)(h:RVs g w x.cells vs):∀v∈vs,v.oneCell'=true:=by
 intro v hv;obtain⟨i,hi⟩:=Gb6.1 hv;have hl:i<x.cells.length:=by have h1:=h.1;have h3:=(Gbg.1 hi).1;omega
 have h2:=h.2 i _ _ (Gbe hl) hi;have hm:=Gbo hl;generalize x.cells[i]=c at *;simp only[jzn5.cells,Ga1,Gcd,Gb3,Gce,Gd8]at hm;rcases hm with rfl|rfl|rfl|rfl|rfl|rfl|rfl|rfl<;>first|(cases h2;rfl)|(rw[qzh]at h2;generalize List.length _=n at h2;cases h2<;>rfl)
theorem jzra{a:jzn5}{z:AVal}(hz:z∈a.cells):qzt z:=by
 simp only[jzn5.cells,Ga1,Gcd,Gb3,Gce,Gd8]at hz
 rcases hz with rfl|rfl|rfl|rfl|rfl|rfl|rfl|rfl<;>first
  |exact .int _ _
  |exact qzj fun b z hz=>by
    simp only[wz2g.cells,Gb3,Gce,Gd8]at hz;rcases hz with rfl|rfl|rfl|rfl
    ·exact .int _ _
    ·exact .bool _
    ·exact .str _
    ·exact .str _
theorem jzv5(D:FcOk k42d)(H60:FcOk k60)(H73:FcOk k73)(H74:FcOk k74)(H75:FcOk k75):FcOk k42:=by
 refine⟨D.en,fun x y h=>?_⟩;obtain⟨l,r⟩:=x;have h:jzpu l r=some y:=h;unfold jzpu at h;split at h
 ·rename_i z hz;cases h;exact D.ok (l,r) y hz
 unfold jzqi at h;cases h1:jzoo l with
 |none=>rw[h1]at h;cases h
 |some e =>
 cases h2:jzo9 r with
 |none=>rw[h1,h2]at h;cases h
 |some b =>
 cases h3:jzoq l r (fun a0 a1=>jzo3 a0 a1) with
 |none=>rw[h1,h2,h3]at h;cases h
 |some p =>
 rw[h1,h2,h3]at h;have h:ck (decide (e=0)&&b&&!p.2&&decide (0<=p.1)&&decide (Int.toNat p.1=List.length l)&&decide (List.length l<400)) (some (insL l (Int.toNat p.1) r,(0:Int)))=some y:=h;cases hc:(decide (e=0)&&b&&!p.2&&decide (0<=p.1)&&decide (Int.toNat p.1=List.length l)&&decide (List.length l<400)) with
 |false=>rw[hc]at h;cases h
 |true =>
 rw[hc]at h;obtain rfl:y=(insL l (Int.toNat p.1) r,(0:Int)):=(Gdp h).symm;simp only[Gai,Gdz,Gao]at hc;obtain⟨⟨⟨⟨⟨e0,e1⟩,e2⟩,e3⟩,e4⟩,e5⟩:=hc;subst e0 e1;obtain⟨p1,p2⟩:=p;simp only at e2 e3 e4;subst e2;have q1:qzq EE Tryz.prog 60 [slcV 8 jzn5.cells l] (.int .i64 0):=H60.still (x:=l) (y:=(0:Int)) h1 (by kernel_rfl);have q2:qzq EE Tryz.prog 73 [.agg (jzn5.cells r)] (.bool true):=H73.still (x:=r) (y:=true) h2 (by kernel_rfl);have q3:qzq EE Tryz.prog 74 [slcV 8 jzn5.cells l,.agg (jzn5.cells r),.fn 75 0 []] (.tup [.int .i64 (p1.toNat:Nat),.bool false]):=by rw[show((p1.toNat:Nat):Int)=p1 by omega];exact H74.still (x:=(l,r,fv75 H75)) (y:=(p1,false)) h3 (by kernel_rfl)
 have main:=jzuq jzn5.cells (fun _=>rfl) jzwa l r p1.toNat (Nat.le_of_eq e4) ⟨e4⟩ e5 q1 q2 q3
 have hn:∀z,z∈[slcV 8 jzn5.cells l,AVal.agg (jzn5.cells r)]->qzt z:=fun z hz=>by
  simp only[Gb3,Gce,Gd8]at hz;rcases hz with rfl|rfl
  ·exact qzj fun a z hz=>jzra hz
  ·exact .agg _ fun z hz=>jzra hz
 exact(Pure.still main hEE hn (.tup _ fun z hz=>by
  simp only[Gb3,Gce,Gd8]at hz;rcases hz with rfl|rfl
  ·exact qzj fun a z hz=>jzra hz
  ·exact .int _ _)).cast (by kernel_rfl)
end Go.Am

