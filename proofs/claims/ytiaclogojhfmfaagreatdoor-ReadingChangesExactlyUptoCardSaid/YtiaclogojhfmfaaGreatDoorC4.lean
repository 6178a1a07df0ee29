/- Part C4: contracts of some functions of this seat. No condition. -/
import Derived.Test.YtiaclogojhfmfaaGreatDoorC3
import Derived.Test.YtiaclogojhfmfaaGreatDoorI2
set_option linter.unusedSimpArgs false
set_option linter.unusedVariables false
set_option maxRecDepth 8000
namespace Go.Am
open Go.Proofs
attribute [local simp] areg aop dreg dop Al.req Ag argU Al.args BX Al.unAll Req.val Req.when putT putH Dq ablk Dr CG Cj unc unv Cg FZ ARes.ok GE ARes.val cut inr Al.quiet
attribute [local simp] JV JW JX LK JT JU LJ U5
attribute [local simp] Pb VSub.refl TSub Pc
attribute [local simp] Ak.plain Ak.owned Ak.ep hset h0 CO Ds Cs BB Aa.one lay CR ldv fzv fzl fz1
def k21:Fc:=⟨21,[(.slc (.us 0))],[false],[(.int .i64)],fun x=>DP x⟩
def k19:Fc:=⟨19,[(.us 0)],[false],[.bool],fun x=>F4 x⟩
def k46:Fc:=⟨46,[(.slc (.us 0)),(.us 0),(.fn 0)],[false,false,false],[(.int .i64),.bool],fun x=>Im x.1 x.2.1 (fun a0 a1=>x.2.2.g (a0,a1))⟩
def k47:Fc:=⟨47,[(.us 0),(.us 0)],[false,false],[(.int .i64)],fun x=>Es x.1 x.2⟩
def k13:Fc:=⟨13,[(.slc (.us 0)),(.us 0)],[false,false],[(.slc (.us 0)),(.int .i64)],fun x=>BE x.1 x.2⟩
def k74:Fc:=⟨74,[(.slc (.us 5)),(.us 5),(.fn 2)],[false,false,false],[(.int .i64),.bool],fun x=>In x.1 x.2.1 (fun a0 a1=>x.2.2.g (a0,a1))⟩
def k75:Fc:=⟨75,[(.us 5),(.us 5)],[false,false],[(.int .i64)],fun x=>EF x.1 x.2⟩
def k73:Fc:=⟨73,[(.us 5)],[false],[.bool],fun x=>Hb x⟩
def k60:Fc:=⟨60,[(.slc (.us 5))],[false],[(.int .i64)],fun x=>Et x⟩
def k42:Fc:=⟨42,[(.slc (.us 5)),(.us 5)],[false,false],[(.slc (.us 5)),(.int .i64)],fun x=>CY x.1 x.2⟩
def fv47(H47:As k47):FnV 0:=⟨47,0,[],fun _ h=>(by cases h),fun a=>Es a.1 a.2,fun a r h=>⟨H47.en,H47.still h (by kernel_rfl)⟩⟩
noncomputable def k13d:Fc:=⟨13,[(.slc (.us 0)),(.us 0)],[false,false],[(.slc (.us 0)),(.int .i64)],fun x=>DQ x.1 x.2⟩
theorem jzv9(g:Gh)(w:World)(x:Ae)(vs:List Value)(h:RVs g w x.cells vs):∀v∈vs,v.oneCell'=true:=by
 intro v hv;obtain⟨i,hi⟩:=Tg.1 hv;have hl:i<x.cells.length:=by have h1:=h.1;have h3:=(AL.1 hi).1;omega
 have h2:=h.2 i _ _ (AD hl) hi;have hm:=BI hl;generalize x.cells[i]=c at *;simp only[Ae.cells,SP,Lt,AM,HB,HE]at hm;rcases hm with rfl|rfl|rfl|rfl|rfl|rfl<;>(cases h2;rfl)
theorem Pp{a:Ae}{z:Aa}(hz:z∈a.cells):AE z:=by simp only[Ae.cells,AM,HB,HE]at hz;rcases hz with rfl|rfl|rfl|rfl|rfl|rfl<;>exact .int _ _
theorem jzvv(D:As k13d)(H21:As k21)(H19:As k19)(H46:As k46)(H47:As k47):As k13:=by
 refine⟨D.en,fun x y h=>?_⟩;obtain⟨l,r⟩:=x;have h:BE l r=some y:=h;unfold BE at h;split at h
 ·rename_i z hz;cases h;exact D.ok (l,r) y hz
 unfold Pq at h;cases h1:DP l with
 |none=>rw[h1]at h;cases h
 |some e =>
 cases h2:F4 r with
 |none=>rw[h1,h2]at h;cases h
 |some b =>
 cases h3:Im l r (fun a0 a1=>Es a0 a1) with
 |none=>rw[h1,h2,h3]at h;cases h
 |some p =>
 rw[h1,h2,h3]at h;have h:ck (decide (e=0)&&b&&!p.2&&decide (0<=p.1)&&decide (Int.toNat p.1<=List.length l)&&decide (List.length l<4000)) (some (insL l (Int.toNat p.1) r,(0:Int)))=some y:=h;cases hc:(decide (e=0)&&b&&!p.2&&decide (0<=p.1)&&decide (Int.toNat p.1<=List.length l)&&decide (List.length l<4000)) with
 |false=>rw[hc]at h;cases h
 |true =>
 rw[hc]at h;obtain rfl:y=(insL l (Int.toNat p.1) r,(0:Int)):=(BM h).symm;simp only[AF,BA,FK]at hc;obtain⟨⟨⟨⟨⟨e0,e1⟩,e2⟩,e3⟩,e4⟩,e5⟩:=hc;subst e0 e1;obtain⟨p1,p2⟩:=p;simp only at e2 e3 e4;subst e2;have q1:Bg EE Tryz.prog 21 [slcV 6 Ae.cells l] (.int .i64 0):=H21.still (x:=l) (y:=(0:Int)) h1 (by kernel_rfl);have q2:Bg EE Tryz.prog 19 [.agg (Ae.cells r)] (.bool true):=H19.still (x:=r) (y:=true) h2 (by kernel_rfl);have q3:Bg EE Tryz.prog 46 [slcV 6 Ae.cells l,.agg (Ae.cells r),.fn 47 0 []] (.tup [.int .i64 (p1.toNat:Nat),.bool false]):=by rw[show((p1.toNat:Nat):Int)=p1 by omega];exact H46.still (x:=(l,r,fv47 H47)) (y:=(p1,false)) h3 (by kernel_rfl)
 have main:=jzve Ae.cells (fun _=>rfl) jzv9 l r p1.toNat e4 e5 q1 q2 q3
 have hn:∀z,z∈[slcV 6 Ae.cells l,Aa.agg (Ae.cells r)]->AE z:=fun z hz=>by
  simp only[AM,HB,HE]at hz;rcases hz with rfl|rfl
  ·exact Er fun a z hz=>Pp hz
  ·exact .agg _ fun z hz=>Pp hz
 exact(Pure.still main hEE hn (.tup _ fun z hz=>by
  simp only[AM,HB,HE]at hz;rcases hz with rfl|rfl
  ·exact Er fun a z hz=>Pp hz
  ·exact .int _ _)).cast (by kernel_rfl)
def fv75(H75:As k75):FnV 2:=⟨75,0,[],fun _ h=>(by cases h),fun a=>EF a.1 a.2,fun a r h=>⟨H75.en,H75.still h (by kernel_rfl)⟩⟩
noncomputable def k42d:Fc:=⟨42,[(.slc (.us 5)),(.us 5)],[false,false],[(.slc (.us 5)),(.int .i64)],fun x=>CZ x.1 x.2⟩
theorem jzwa(g:Gh)(w:World)(x:Ai)(vs:List Value)(h:RVs g w x.cells vs):∀v∈vs,v.oneCell'=true:=by
 intro v hv;obtain⟨i,hi⟩:=Tg.1 hv;have hl:i<x.cells.length:=by have h1:=h.1;have h3:=(AL.1 hi).1;omega
 have h2:=h.2 i _ _ (AD hl) hi;have hm:=BI hl;generalize x.cells[i]=c at *;simp only[Ai.cells,SP,Lt,AM,HB,HE]at hm;rcases hm with rfl|rfl|rfl|rfl|rfl|rfl|rfl|rfl<;>first|(cases h2;rfl)|(rw[LO]at h2;generalize List.length _=n at h2;cases h2<;>rfl)
theorem Pr{a:Ai}{z:Aa}(hz:z∈a.cells):AE z:=by
 simp only[Ai.cells,SP,Lt,AM,HB,HE]at hz
 rcases hz with rfl|rfl|rfl|rfl|rfl|rfl|rfl|rfl<;>first
  |exact .int _ _
  |exact Er fun b z hz=>by
    simp only[AO.cells,AM,HB,HE]at hz;rcases hz with rfl|rfl|rfl|rfl
    ·exact .int _ _
    ·exact .bool _
    ·exact .str _
    ·exact .str _
theorem jzv5(D:As k42d)(H60:As k60)(H73:As k73)(H74:As k74)(H75:As k75):As k42:=by
 refine⟨D.en,fun x y h=>?_⟩;obtain⟨l,r⟩:=x;have h:CY l r=some y:=h;unfold CY at h;split at h
 ·rename_i z hz;cases h;exact D.ok (l,r) y hz
 unfold Ps at h;cases h1:Et l with
 |none=>rw[h1]at h;cases h
 |some e =>
 cases h2:Hb r with
 |none=>rw[h1,h2]at h;cases h
 |some b =>
 cases h3:In l r (fun a0 a1=>EF a0 a1) with
 |none=>rw[h1,h2,h3]at h;cases h
 |some p =>
 rw[h1,h2,h3]at h;have h:ck (decide (e=0)&&b&&!p.2&&decide (0<=p.1)&&decide (Int.toNat p.1<=List.length l)&&decide (List.length l<400)) (some (insL l (Int.toNat p.1) r,(0:Int)))=some y:=h;cases hc:(decide (e=0)&&b&&!p.2&&decide (0<=p.1)&&decide (Int.toNat p.1<=List.length l)&&decide (List.length l<400)) with
 |false=>rw[hc]at h;cases h
 |true =>
 rw[hc]at h;obtain rfl:y=(insL l (Int.toNat p.1) r,(0:Int)):=(BM h).symm;simp only[AF,BA,FK]at hc;obtain⟨⟨⟨⟨⟨e0,e1⟩,e2⟩,e3⟩,e4⟩,e5⟩:=hc;subst e0 e1;obtain⟨p1,p2⟩:=p;simp only at e2 e3 e4;subst e2;have q1:Bg EE Tryz.prog 60 [slcV 8 Ai.cells l] (.int .i64 0):=H60.still (x:=l) (y:=(0:Int)) h1 (by kernel_rfl);have q2:Bg EE Tryz.prog 73 [.agg (Ai.cells r)] (.bool true):=H73.still (x:=r) (y:=true) h2 (by kernel_rfl);have q3:Bg EE Tryz.prog 74 [slcV 8 Ai.cells l,.agg (Ai.cells r),.fn 75 0 []] (.tup [.int .i64 (p1.toNat:Nat),.bool false]):=by rw[show((p1.toNat:Nat):Int)=p1 by omega];exact H74.still (x:=(l,r,fv75 H75)) (y:=(p1,false)) h3 (by kernel_rfl)
 have main:=jzuq Ai.cells (fun _=>rfl) jzwa l r p1.toNat e4 e5 q1 q2 q3
 have hn:∀z,z∈[slcV 8 Ai.cells l,Aa.agg (Ai.cells r)]->AE z:=fun z hz=>by
  simp only[AM,HB,HE]at hz;rcases hz with rfl|rfl
  ·exact Er fun a z hz=>Pr hz
  ·exact .agg _ fun z hz=>Pr hz
 exact(Pure.still main hEE hn (.tup _ fun z hz=>by
  simp only[AM,HB,HE]at hz;rcases hz with rfl|rfl
  ·exact Er fun a z hz=>Pr hz
  ·exact .int _ _)).cast (by kernel_rfl)
end Go.Am

