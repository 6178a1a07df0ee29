/- Part C4: contracts of some functions of this seat. No condition. -/
import Derived.Test.YtiaclogojhfmfaaGreatDoorC3
import Derived.Test.YtiaclogojhfmfaaGreatDoorI2
set_option linter.unusedSimpArgs false
set_option linter.unusedVariables false
set_option maxRecDepth 8000
namespace Go.Am
open Go.Proofs
attribute [local simp] areg aop dreg dop Al.req Ag argU Al.args Ca Al.unAll Req.val Req.when putT putH Dp ablk Dq CH Co unc unv Cj Gc ARes.ok GD ARes.val cut inr Al.quiet
attribute [local simp] Kh Ki Kj LW Kf Kg LV UJ
attribute [local simp] Ps VSub.refl TSub Pt
attribute [local simp] Aj.plain Aj.owned Aj.ep hset h0 CP Dr Cv BB Aa.one lay CR ldv fzv fzl fz1
def k21:Fc:=⟨21,[(.slc (.us 0))],[false],[(.int .i64)],fun x=>DO x⟩
def k19:Fc:=⟨19,[(.us 0)],[false],[.bool],fun x=>F5 x⟩
def k46:Fc:=⟨46,[(.slc (.us 0)),(.us 0),(.fn 0)],[false,false,false],[(.int .i64),.bool],fun x=>Ij x.1 x.2.1 (fun a0 a1=>x.2.2.g (a0,a1))⟩
def k47:Fc:=⟨47,[(.us 0),(.us 0)],[false,false],[(.int .i64)],fun x=>Ep x.1 x.2⟩
def k13:Fc:=⟨13,[(.slc (.us 0)),(.us 0)],[false,false],[(.slc (.us 0)),(.int .i64)],fun x=>Cb x.1 x.2⟩
def k74:Fc:=⟨74,[(.slc (.us 5)),(.us 5),(.fn 2)],[false,false,false],[(.int .i64),.bool],fun x=>Ik x.1 x.2.1 (fun a0 a1=>x.2.2.g (a0,a1))⟩
def k75:Fc:=⟨75,[(.us 5),(.us 5)],[false,false],[(.int .i64)],fun x=>EC x.1 x.2⟩
def k73:Fc:=⟨73,[(.us 5)],[false],[.bool],fun x=>Hb x⟩
def k60:Fc:=⟨60,[(.slc (.us 5))],[false],[(.int .i64)],fun x=>Er x⟩
def k42:Fc:=⟨42,[(.slc (.us 5)),(.us 5)],[false,false],[(.slc (.us 5)),(.int .i64)],fun x=>Es x.1 x.2⟩
def fv47(H47:Ao k47):FnV 0:=⟨47,0,[],fun _ h=>(by cases h),fun a=>Ep a.1 a.2,fun a r h=>⟨H47.en,H47.still h (by kernel_rfl)⟩⟩
noncomputable def k13d:Fc:=⟨13,[(.slc (.us 0)),(.us 0)],[false,false],[(.slc (.us 0)),(.int .i64)],fun x=>DP x.1 x.2⟩
theorem jzv9(g:Gh)(w:World)(x:Ae)(vs:List Value)(h:RVs g w x.cells vs):∀v∈vs,v.oneCell'=true:=by
 intro v hv;obtain⟨i,hi⟩:=Tv.1 hv;have hl:i<x.cells.length:=by have h1:=h.1;have h3:=(AK.1 hi).1;omega
 have h2:=h.2 i _ _ (AD hl) hi;have hm:=BH hl;generalize x.cells[i]=c at *;simp only[Ae.cells,Tg,Ot,AL,H8,HB]at hm;rcases hm with rfl|rfl|rfl|rfl|rfl|rfl<;>(cases h2;rfl)
theorem P7{a:Ae}{z:Aa}(hz:z∈a.cells):AF z:=by simp only[Ae.cells,AL,H8,HB]at hz;rcases hz with rfl|rfl|rfl|rfl|rfl|rfl<;>exact .int _ _
theorem jzvv(D:Ao k13d)(H21:Ao k21)(H19:Ao k19)(H46:Ao k46)(H47:Ao k47):Ao k13:=by
 refine⟨D.en,fun x y h=>?_⟩;obtain⟨l,r⟩:=x;have h:Cb l r=some y:=h;unfold Cb at h;split at h
 ·rename_i z hz;cases h;exact D.ok (l,r) y hz
 unfold P8 at h;cases h1:DO l with
 |none=>rw[h1]at h;cases h
 |some e =>
 cases h2:F5 r with
 |none=>rw[h1,h2]at h;cases h
 |some b =>
 cases h3:Ij l r (fun a0 a1=>Ep a0 a1) with
 |none=>rw[h1,h2,h3]at h;cases h
 |some p =>
 rw[h1,h2,h3]at h;have h:ck (decide (e=0)&&b&&!p.2&&decide (0<=p.1)&&decide (Int.toNat p.1<=List.length l)&&decide (List.length l<4000)) (some (insL l (Int.toNat p.1) r,(0:Int)))=some y:=h;cases hc:(decide (e=0)&&b&&!p.2&&decide (0<=p.1)&&decide (Int.toNat p.1<=List.length l)&&decide (List.length l<4000)) with
 |false=>rw[hc]at h;cases h
 |true =>
 rw[hc]at h;obtain rfl:y=(insL l (Int.toNat p.1) r,(0:Int)):=(BJ h).symm;simp only[AE,Bp,FS]at hc;obtain⟨⟨⟨⟨⟨e0,e1⟩,e2⟩,e3⟩,e4⟩,e5⟩:=hc;subst e0 e1;obtain⟨p1,p2⟩:=p;simp only at e2 e3 e4;subst e2;have q1:Bf EE Tryz.prog 21 [slcV 6 Ae.cells l] (.int .i64 0):=H21.still (x:=l) (y:=(0:Int)) h1 (by kernel_rfl);have q2:Bf EE Tryz.prog 19 [.agg (Ae.cells r)] (.bool true):=H19.still (x:=r) (y:=true) h2 (by kernel_rfl);have q3:Bf EE Tryz.prog 46 [slcV 6 Ae.cells l,.agg (Ae.cells r),.fn 47 0 []] (.tup [.int .i64 (p1.toNat:Nat),.bool false]):=by rw[show((p1.toNat:Nat):Int)=p1 by omega];exact H46.still (x:=(l,r,fv47 H47)) (y:=(p1,false)) h3 (by kernel_rfl)
 have main:=jzve Ae.cells (fun _=>rfl) jzv9 l r p1.toNat e4 e5 q1 q2 q3
 have hn:∀z,z∈[slcV 6 Ae.cells l,Aa.agg (Ae.cells r)]->AF z:=fun z hz=>by
  simp only[AL,H8,HB]at hz;rcases hz with rfl|rfl
  ·exact Eo fun a z hz=>P7 hz
  ·exact .agg _ fun z hz=>P7 hz
 exact(Pure.still main hEE hn (.tup _ fun z hz=>by
  simp only[AL,H8,HB]at hz;rcases hz with rfl|rfl
  ·exact Eo fun a z hz=>P7 hz
  ·exact .int _ _)).cast (by kernel_rfl)
def fv75(H75:Ao k75):FnV 2:=⟨75,0,[],fun _ h=>(by cases h),fun a=>EC a.1 a.2,fun a r h=>⟨H75.en,H75.still h (by kernel_rfl)⟩⟩
noncomputable def k42d:Fc:=⟨42,[(.slc (.us 5)),(.us 5)],[false,false],[(.slc (.us 5)),(.int .i64)],fun x=>CY x.1 x.2⟩
theorem jzwa(g:Gh)(w:World)(x:Ah)(vs:List Value)(h:RVs g w x.cells vs):∀v∈vs,v.oneCell'=true:=by
 intro v hv;obtain⟨i,hi⟩:=Tv.1 hv;have hl:i<x.cells.length:=by have h1:=h.1;have h3:=(AK.1 hi).1;omega
 have h2:=h.2 i _ _ (AD hl) hi;have hm:=BH hl;generalize x.cells[i]=c at *;simp only[Ah.cells,Tg,Ot,AL,H8,HB]at hm;rcases hm with rfl|rfl|rfl|rfl|rfl|rfl|rfl|rfl<;>first|(cases h2;rfl)|(rw[LZ]at h2;generalize List.length _=n at h2;cases h2<;>rfl)
theorem P9{a:Ah}{z:Aa}(hz:z∈a.cells):AF z:=by
 simp only[Ah.cells,Tg,Ot,AL,H8,HB]at hz
 rcases hz with rfl|rfl|rfl|rfl|rfl|rfl|rfl|rfl<;>first
  |exact .int _ _
  |exact Eo fun b z hz=>by
    simp only[AO.cells,AL,H8,HB]at hz;rcases hz with rfl|rfl|rfl|rfl
    ·exact .int _ _
    ·exact .bool _
    ·exact .str _
    ·exact .str _
theorem jzv5(D:Ao k42d)(H60:Ao k60)(H73:Ao k73)(H74:Ao k74)(H75:Ao k75):Ao k42:=by
 refine⟨D.en,fun x y h=>?_⟩;obtain⟨l,r⟩:=x;have h:Es l r=some y:=h;unfold Es at h;split at h
 ·rename_i z hz;cases h;exact D.ok (l,r) y hz
 unfold PA at h;cases h1:Er l with
 |none=>rw[h1]at h;cases h
 |some e =>
 cases h2:Hb r with
 |none=>rw[h1,h2]at h;cases h
 |some b =>
 cases h3:Ik l r (fun a0 a1=>EC a0 a1) with
 |none=>rw[h1,h2,h3]at h;cases h
 |some p =>
 rw[h1,h2,h3]at h;have h:ck (decide (e=0)&&b&&!p.2&&decide (0<=p.1)&&decide (Int.toNat p.1<=List.length l)&&decide (List.length l<400)) (some (insL l (Int.toNat p.1) r,(0:Int)))=some y:=h;cases hc:(decide (e=0)&&b&&!p.2&&decide (0<=p.1)&&decide (Int.toNat p.1<=List.length l)&&decide (List.length l<400)) with
 |false=>rw[hc]at h;cases h
 |true =>
 rw[hc]at h;obtain rfl:y=(insL l (Int.toNat p.1) r,(0:Int)):=(BJ h).symm;simp only[AE,Bp,FS]at hc;obtain⟨⟨⟨⟨⟨e0,e1⟩,e2⟩,e3⟩,e4⟩,e5⟩:=hc;subst e0 e1;obtain⟨p1,p2⟩:=p;simp only at e2 e3 e4;subst e2;have q1:Bf EE Tryz.prog 60 [slcV 8 Ah.cells l] (.int .i64 0):=H60.still (x:=l) (y:=(0:Int)) h1 (by kernel_rfl);have q2:Bf EE Tryz.prog 73 [.agg (Ah.cells r)] (.bool true):=H73.still (x:=r) (y:=true) h2 (by kernel_rfl);have q3:Bf EE Tryz.prog 74 [slcV 8 Ah.cells l,.agg (Ah.cells r),.fn 75 0 []] (.tup [.int .i64 (p1.toNat:Nat),.bool false]):=by rw[show((p1.toNat:Nat):Int)=p1 by omega];exact H74.still (x:=(l,r,fv75 H75)) (y:=(p1,false)) h3 (by kernel_rfl)
 have main:=jzuq Ah.cells (fun _=>rfl) jzwa l r p1.toNat e4 e5 q1 q2 q3
 have hn:∀z,z∈[slcV 8 Ah.cells l,Aa.agg (Ah.cells r)]->AF z:=fun z hz=>by
  simp only[AL,H8,HB]at hz;rcases hz with rfl|rfl
  ·exact Eo fun a z hz=>P9 hz
  ·exact .agg _ fun z hz=>P9 hz
 exact(Pure.still main hEE hn (.tup _ fun z hz=>by
  simp only[AL,H8,HB]at hz;rcases hz with rfl|rfl
  ·exact Eo fun a z hz=>P9 hz
  ·exact .int _ _)).cast (by kernel_rfl)
end Go.Am

