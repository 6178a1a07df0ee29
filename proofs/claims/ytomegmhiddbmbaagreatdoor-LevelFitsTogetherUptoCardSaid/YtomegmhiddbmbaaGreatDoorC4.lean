/- Part C4: contracts of some functions of this seat. No condition. -/
import Derived.Test.YtomegmhiddbmbaaGreatDoorC2
set_option linter.unusedSimpArgs false
set_option linter.unusedVariables false
set_option maxRecDepth 100000
namespace Go.Am
open Go.Proofs
attribute [local simp] areg aop dreg dop Al.req Ae argU Al.args BW Al.unAll Req.val Req.when putT putH AL ablk CS Cp F4 GY BV Lp Lq Lr Ls Lt Lu Lv Lw Lx Lz L0 L2 L3 L5 IntKind.bits FD ARes.ok ARes.val Gb cut Al.quiet
attribute [local simp] Ho Hq Hr IK Hm Hn QY NW IQ IR
attribute [local simp] Hs IM IN KX KY look DR zipA wm wh
attribute [local simp] L6 L7 L8 L9 LA LB ED Gu Ht LC LD w_fn LE LF LG Bh Hu D3 IS Ai.ep Ai.plain Ai.owned
attribute [local simp] CU C0 La Lb Lc Ld Le Lf Lg Lh Li Lj Lk Ll Lm Ln KZ Bl lay CQ ldv Ee Bq EA Dh F5 BL Aa.kind
attribute [local simp] Aa.one_int Aa.one_bool Aa.one_str Aa.one_nils Aa.one_slc Aa.one_vec Aa.one_ptr Aa.one_eptr Aa.one_cptr Aa.one_nilp Aa.one_fn Aa.one_nilfn Aa.one_mp Aa.one_nilmp
attribute [local simp] Ku Kv Kw Kx Ky Kz K0 K2 K3 K4 K5 K6 K7 K8 K9 KA KB KC KD KE KF KG KH KI KJ KK KL KM KN KO KP KQ KR KS KT KU
attribute [local simp] LH cI cB cS cL LI LJ LK LL LM LN LO LP fzm fzh fzv fzl fz1 LQ LR LS LT LU List.range_succ LV LW LX LY LZ Dl Gv Ma Mb
attribute [local simp] Mc
attribute [local simp] Au.cells
attribute [local simp] Ag.cells
attribute [local simp] AN.cells
attribute [local simp] AK.cells
attribute [local simp] Aj.cells
attribute [local simp] Ba.cells
attribute [local simp] Cq.cells
attribute [local simp] AI.cells
attribute [local simp] AO.cells
attribute [local simp] Bc.cells
attribute [local simp] Cr.cells
attribute [local simp] BB.cells
attribute [local simp] A9.cells
attribute [local simp] Fx.cells
attribute [local simp] Em.cells
attribute [local simp] EF.cells
attribute [local simp] Bd.cells
attribute [local simp] Cs.cells
attribute [local simp] CA.cells
attribute [local simp] Ct.cells
attribute [local simp] Cu.cells
attribute [local simp] CB.cells
attribute [local simp] CC.cells
attribute [local simp] hset
def cE(c:List ((Int×Int)×Ag)):List (Aa×Aa):=c.map fun p=>(.agg [.int .i64 p.1.1,.int .i64 p.1.2],.agg (Ag.cells p.2))
def cget:List ((Int×Int)×Ag)->Int->Int->Option Ag
 |[],_,_=>none
 |p :: c,k,s=>bif decide (k=p.1.1)&&decide (s=p.1.2) then some p.2 else cget c k s
def cput(c:List ((Int×Int)×Ag))(k s:Int)(r:Ag):List ((Int×Int)×Ag):=match cget c k s with
 |none=>c++[((k,s),r)]
 |some _=>c
theorem XE(k s:Int):∀(c:List ((Int×Int)×Ag)) (i:Nat),∃j,AH (.agg [.int .i64 k,.int .i64 s]) (cE c) i=some (match cget c k s with | none=>none | some r=>some (j,.agg r.cells))
 |[],i=>⟨0,rfl⟩
 |p :: c,i=>by
  have e:BU (.agg [.int .i64 k,.int .i64 s]) (.agg [.int .i64 p.1.1,.int .i64 p.1.2])=some (decide (k=p.1.1)&&decide (s=p.1.2)):=by simp[BU,BL]
  show ∃j,(match BU (.agg [.int .i64 k,.int .i64 s]) (.agg [.int .i64 p.1.1,.int .i64 p.1.2]) with
   |some true=>some (some (i,Aa.agg (Ag.cells p.2)))
   |some false=>AH (.agg [.int .i64 k,.int .i64 s]) (cE c) (i+1)
   | none=>none)=some (match (bif decide (k=p.1.1)&&decide (s=p.1.2) then some p.2 else cget c k s) with | none=>none | some r=>some (j,.agg r.cells))
  rw[e];cases decide (k=p.1.1)&&decide (s=p.1.2)
  ·exact XE k s c (i+1)
  ·exact⟨i,rfl⟩
def CcV(l:List Aj)(c:List ((Int×Int)×Ag)):Prop:=∀(k:Nat) (s:Int) (r:Ag),cget c k s=some r->∃x,l[k]?=some x/\BF x s=some r
theorem kzzl(c:List ((Int×Int)×Ag))(k s a b:Int)(r:Ag):cget (c++[((a,b),r)]) k s=(match cget c k s with | some q=>some q | none=>bif decide (k=a)&&decide (s=b) then some r else none):=by
 induction c with
 |nil=>rfl
 |cons p c ih =>
  show(bif decide (k=p.1.1)&&decide (s=p.1.2) then some p.2 else cget (c++[((a,b),r)]) k s)=(match (bif decide (k=p.1.1)&&decide (s=p.1.2) then some p.2 else cget c k s) with | some q=>some q | none=>_);cases decide (k=p.1.1)&&decide (s=p.1.2)
  ·exact ih
  ·rfl
theorem kz0o{l:List Aj}{c:List ((Int×Int)×Ag)}(h:CcV l c){k:Nat}{s:Int}{x:Aj}{r:Ag}(hx:l[k]?=some x)(hr:BF x s=some r):CcV l (cput c k s r):=by
 unfold cput;cases e:cget c k s with
 |some q=>exact h
 |none =>
  intro a b q hq;rw[kzzl]at hq;cases e2:cget c a b with
  |some z=>rw[e2]at hq;cases hq;exact h a b _ e2
  |none =>
   rw[e2]at hq;have hq:(bif decide ((a:Int)=k)&&decide (b=s) then some r else none)=some q:=hq;cases e3:decide ((a:Int)=k)&&decide (b=s) with
   |false=>rw[e3]at hq;cases hq
   |true =>
    rw[e3]at hq;cases hq;simp only[AE,CO]at e3;obtain⟨e3,rfl⟩:=e3;obtain rfl:a=k:=by omega
    exact⟨x,hx,hr⟩
def HV(l:List Aj)(e5 e6:Nat)(c:List ((Int×Int)×Ag))(q:Ag):Ax:=fun i =>
 if i=5 then .amap e5 (cE c) else if i=6 then .box e6 [slcV 7 Aj.cells l,.mp 5 e5,.bool q.Neg,.str q.Num,.str q.Den] else .gone 0
set_option maxHeartbeats 4000000 in
theorem of99(hR:∀(x:Aj) (s:Int) (r:Ag),BF x s=some r->AY EE Tryz.prog 129 [.agg x.cells,.int .i64 s] (.agg r.cells)){l:List Aj} {k:Nat} {s:Int} {x:Aj} (hx:l[k]?=some x) {r:Ag} (hr:BF x s=some r) {c:List ((Int×Int)×Ag)} (hc:CcV l c) (e5 e6:Nat) (q:Ag) :
  ATr EE Tryz.prog 99 [.ptr 6 e6 0,.int .i64 k,.int .i64 s] (HV l e5 e6 c q) (fun v h'=>v=.agg r.cells/\∀i,i∈[5,6]->h' i=HV l e5 e6 (cput c k s r) q i):=by
 obtain⟨cd,hb,cl⟩:=ck99;have sR:=hR x s r hr;have q5:HV l e5 e6 c q 5=.amap e5 (cE c):=rfl;have q6:HV l e5 e6 c q 6=.box e6 [slcV 7 Aj.cells l,.mp 5 e5,.bool q.Neg,.str q.Num,.str q.Den]:=rfl;have q7:HV l e5 e6 c q 7=.gone 0:=rfl;have q8:HV l e5 e6 c q 8=.gone 0:=rfl;have q9:HV l e5 e6 c q 9=.gone 0:=rfl;obtain⟨j,iE⟩:=XE k s c 0;have fR:¬(k:Int)<0:=by omega
 refine ATr.of (fn:=Tryz.f99) rfl hb cr99 (cl 7) 40 rfl ?_;refine AW.sr (by simp[XF,List.replicate,q7];rfl) ?_;refine .seq (AW.sr (by simp[XG];rfl) ?_);refine AW.if' (decide ((k:Int)<0)) (by simp) (fun e=>absurd (Ip e) fR) (fun _=>AW.skip ?_);simp only[AL];refine AW.sr (by simp[XH,q8];rfl) ?_;refine .seq (.draw ?_);cases hg:cget c k s with
 |some r0 =>
  obtain⟨x0,h1,h2⟩:=hc k s r0 hg;obtain rfl:x0=x:=by rw[hx]at h1;exact(BI h1).symm
  obtain rfl:r0=r:=by rw[hr]at h2;exact(BI h2).symm
  rw[hg]at iE;have hp:cput c k s r0=c:=by unfold cput;rw[hg]
  rw[hp];simp[Ro,q5,q6,q7,q8,q9,Bu,Cn,iE,Aa.kkind,encK];refine⟨by kernel_rfl,?_⟩;refine .seq (AW.sr (by simp[Rp];rfl) ?_);refine AW.if' false (by simp) (fun e=>by cases e) (fun _=>AW.skip ?_);simp only[AL];refine AW.sr (by simp[Rq];rfl) ?_;refine .ret (.here (by simp[rs99]) rfl ?_);simp[rs99,q5,q6]
 |none =>
  rw[hg]at iE;have hp:cput c k s r=c++[(((k:Int),s),r)]:=by unfold cput;rw[hg]
  rw[hp];have kA:k<l.length:=(AU.1 hx).1;have aI:Az Aj.cells l k=x.cells:=FH hx;simp[Ro,q5,q6,q7,q8,q9,Bu,Cn,iE,Aa.kkind,encK];refine⟨by kernel_rfl,?_⟩;refine .seq (AW.sr (by simp[Rp];rfl) ?_);refine AW.if' true (by simp) (fun _=>?_) (fun e=>by cases e);refine AW.sr (by simp[XI,q5,q6,kA,aI];exact sR.call (by simp;rfl)) ?_;refine .draw ?_;simp[XJ,q5,q6,F6,iE,Aa.kkind,encK];refine⟨by kernel_rfl,?_⟩;refine AW.sr (by simp[Rq];rfl) ?_;refine .ret (.here (by simp[rs99]) rfl ?_);simp[rs99,q5,q6,HV,cE]
theorem Rr{E:Nat->Aa}{P:Program}{l2:List As}:∀(l1:List As) (S:Ay) (K:Ay->List (List Nat×Option Nat)->Prop),dreg E P l1 S (fun S' tr=>EC E P l2 S' (fun S'' tr2=>K S'' (tr++tr2)))->EC E P (l1++l2) S K
 |[],S,K,h=>h
 |o :: l1,S,K,h=>by obtain⟨v,rd,out,h1,h2⟩:=Wt h;exact⟨v,rd,out,h1,Rr l1 _ _ h2⟩
theorem kzyc{E:Nat->Aa}{P:Program}(l:List As)(S:Ay)(K:Ay->List (List Nat×Option Nat)->Prop)(h:dreg E P l S (fun S' tr=>K S' (tr++[]))):EC E P l S K:=by
 have:=Rr (l2:=[]) l S K h
 rwa [List.append_nil]at this
theorem kz0f{F:List Nat}{a:Aj}{z:Aa}(hz:z∈a.cells):AR F z:=by
 simp[Aj.cells]at hz;rcases hz with rfl|rfl|rfl|rfl|rfl|rfl|rfl<;>first|exact .int _ _|exact .bool _|exact .str _|skip
 exact AC.refs (Gc fun a z hz=>by simp[AN.cells]at hz;rcases hz with rfl|rfl|rfl|rfl<;>first|exact .int _ _|exact .bool _|exact .str _)
theorem kz0r{F:List Nat}{a:Ag}:AR F (.agg a.cells):=.agg _ fun z hz=>by simp[Ag.cells]at hz;rcases hz with rfl|rfl|rfl<;>first|exact .int _ _|exact .bool _|exact .str _
theorem Oe(l:List Aj)(e5 e6:Nat)(c:List ((Int×Int)×Ag))(q:Ag):∀i,i∈[5,6]->Kt [5,6] (HV l e5 e6 c q i):=fun i hi=>by
 simp at hi;rcases hi with rfl|rfl
 ·intro e he;obtain⟨p,_,rfl⟩:=FX.1 he;exact⟨.agg _ fun z hz=>by simp at hz;rcases hz with rfl | rfl<;>exact .int _ _,kz0r⟩
 ·intro z hz;simp at hz;rcases hz with rfl|rfl|rfl|rfl|rfl<;>first|exact .bool _|exact .str _|exact .mp _ _ (by simp)|skip
  exact .slc _ _ _ fun i z hi hz=>by
   by_cases h:i<l.length
   ·rw[FH (AG h)]at hz;exact kz0f hz
   ·exact absurd hi h
theorem kz04{l:List Aj}{e5 e6:Nat}{c:List ((Int×Int)×Ag)}{q:Ag}{h:Ax}(h5:h 5=.amap e5 (cE c))(h6:h 6=.box e6 [slcV 7 Aj.cells l,.mp 5 e5,.bool q.Neg,.str q.Num,.str q.Den]):∀i,i∈[5,6]->h i=HV l e5 e6 c q i:=fun i hi=>by
 simp only[AM,Qw,Q0]at hi;rcases hi with rfl|rfl
 ·exact h5
 ·exact h6
theorem kzzh(hR:∀(x:Aj) (s:Int) (r:Ag),BF x s=some r->AY EE Tryz.prog 129 [.agg x.cells,.int .i64 s] (.agg r.cells)){l:List Aj} {k:Nat} {s:Int} {x:Aj} (hx:l[k]?=some x) {r:Ag} (hr:BF x s=some r) {c:List ((Int×Int)×Ag)} (hc:CcV l c) (e5 e6:Nat) (q:Ag) (h:Ax) (hh:∀i,i∈[5,6]->h i=HV l e5 e6 c q i) :
  ATr EE Tryz.prog 99 [.ptr 6 e6 0,.int .i64 k,.int .i64 s] h (fun v h'=>v=.agg r.cells/\h'=putH h (some (5,.amap e5 (cE (cput c k s r))))):=by
 refine(ATr.frameW (F:=[5,6]) hEE (fun i hi=>?_) (fun z hz=>?_) (Oe l e5 e6 c q) (Oe l e5 e6 (cput c k s r) q) (fun i hi=>?_) (fun i hi=>?_) (.agg _ fun z hz=>?_) (of99 hR hx hr hc e5 e6 q) h hh).mono ?_
 ·simp at hi;simp[HV,hi]
 ·simp at hz;rcases hz with rfl|rfl|rfl
  ·exact .ptr _ _ _ (by simp)
  ·exact .int _ _
  ·exact .int _ _
 ·simp at hi;rcases hi with rfl|rfl<;>rfl
 ·simp at hi;rcases hi with rfl|rfl<;>rfl
 ·simp[Ag.cells]at hz;rcases hz with rfl|rfl|rfl<;>simp
 ·rintro v h' ⟨rfl,rfl⟩;refine⟨rfl,funext fun i=>?_⟩;show(if i∈[5,6] then HV l e5 e6 (cput c k s r) q i else h i)=if i=5 then _ else h i;by_cases i5:i=5
  ·subst i5;rfl
  by_cases i6:i=6
  ·subst i6;rw[hh 6 (by simp)];rfl
  ·rw[Ak (by simp[i5,i6]),Ak i5]
def XK:List As:=(IV 7).take 10
def XM:List As:=(IV 7).drop 11
theorem kz07:IV 7=XK++(⟨some 18,.callf 99 [.t 15,.t 16,.t 17],none⟩ :: XM):=rfl
set_option maxHeartbeats 4000000 in
theorem kz02(hR:∀(x:Aj) (s:Int) (r:Ag),BF x s=some r->AY EE Tryz.prog 129 [.agg x.cells,.int .i64 s] (.agg r.cells))(hI:∀(n:Int) (r:Ag),CR n=some r->AY EE Tryz.prog 38 [.int .i64 n] (.agg r.cells))(hM:∀(a b r:Ag),BC a b=some r->AY EE Tryz.prog 40 [.agg a.cells,.agg b.cells] (.agg r.cells))(hA:∀(a b r:Ag),Bv a b=some r->AY EE Tryz.prog 37 [.agg a.cells,.agg b.cells] (.agg r.cells)){l:List Aj} {k:Nat} {s:Int} {x:Aj} (hx:l[k]?=some x) {r:Ag} (hr:BF x s=some r) {c:List ((Int×Int)×Ag)} (hc:CcV l c) {n:Int} {q a b q2:Ag}(ea:CR n=some a) (eb:BC a r=some b) (eq:Bv q b=some q2) (e5 e6:Nat) :
  ATr EE Tryz.prog 72 [.ptr 6 e6 0,.int .i64 n,.int .i64 k,.int .i64 s] (HV l e5 e6 c q) (fun v h'=>v=.tup []/\∀i,i∈[5,6]->h' i=HV l e5 e6 (cput c k s r) q2 i):=by
 obtain⟨cd,hb,cl⟩:=ck72;have sI:=hI _ _ ea;have sM:=hM _ _ _ eb;have sA:=hA _ _ _ eq;have q5:HV l e5 e6 c q 5=.amap e5 (cE c):=rfl;have q6:HV l e5 e6 c q 6=.box e6 [slcV 7 Aj.cells l,.mp 5 e5,.bool q.Neg,.str q.Num,.str q.Den]:=rfl;refine ATr.of (fn:=Tryz.f72) rfl hb cr72 (cl 7) 19 rfl ?_;refine .drawC ?_;rw[kz07];refine Rr _ _ _ ?_;simp[XK,IV,q6,List.replicate];refine FF.pure _ sI ?_;simp;refine⟨.agg r.cells,[5,6],some (5,.amap e5 (cE (cput c k s r))),.inr ?_,kzyc _ _ _ ?_⟩
 ·refine⟨99,_,rfl,5,by simp,by simp[q5],.inr (.inr ⟨_,rfl,fun h' hh=>?_⟩)⟩;simp;exact kzzh hR hx hr hc e5 e6 q h' fun i hi=>hh i hi
 simp[XM,IV,q6];refine FF.pure _ sM ?_;refine FF.pure _ sA ?_;simp[q6,-Aj.cells];refine⟨by kernel_rfl,Post.norm (.here (by simp[rs72]) rfl ?_)⟩;simp[rs72,HV]
theorem kzyf(hR:∀(x:Aj) (s:Int) (r:Ag),BF x s=some r->AY EE Tryz.prog 129 [.agg x.cells,.int .i64 s] (.agg r.cells))(hI:∀(n:Int) (r:Ag),CR n=some r->AY EE Tryz.prog 38 [.int .i64 n] (.agg r.cells))(hM:∀(a b r:Ag),BC a b=some r->AY EE Tryz.prog 40 [.agg a.cells,.agg b.cells] (.agg r.cells))(hA:∀(a b r:Ag),Bv a b=some r->AY EE Tryz.prog 37 [.agg a.cells,.agg b.cells] (.agg r.cells)){l:List Aj} {k:Nat} {s:Int} {x:Aj} (hx:l[k]?=some x) {r:Ag} (hr:BF x s=some r) {c:List ((Int×Int)×Ag)} (hc:CcV l c) {n:Int} {q a b q2:Ag}(ea:CR n=some a) (eb:BC a r=some b) (eq:Bv q b=some q2) (e5 e6:Nat) (h:Ax) (hh:∀i,i∈[5,6]->h i=HV l e5 e6 c q i) :
  ATr EE Tryz.prog 72 [.ptr 6 e6 0,.int .i64 n,.int .i64 k,.int .i64 s] h (fun v h'=>v=.tup []/\h'=fun i=>if i∈[5,6] then HV l e5 e6 (cput c k s r) q2 i else h i):=by
 refine ATr.frameW (F:=[5,6]) hEE (fun i hi=>?_) (fun z hz=>?_) (Oe l e5 e6 c q) (Oe l e5 e6 (cput c k s r) q2) (fun i hi=>?_) (fun i hi=>?_) (.tup _ fun z hz=>by cases hz) (kz02 hR hI hM hA hx hr hc ea eb eq e5 e6) h hh
 ·simp at hi;simp[HV,hi]
 ·simp at hz;rcases hz with rfl|rfl|rfl|rfl
  ·exact .ptr _ _ _ (by simp)
  ·exact .int _ _
  ·exact .int _ _
  ·exact .int _ _
 ·simp at hi;rcases hi with rfl|rfl<;>rfl
 ·simp at hi;rcases hi with rfl|rfl<;>rfl
theorem kz0z(l:List Aj)(h:Ax)(h5:h 5=.gone 0)(h6:h 6=.gone 0) :
  ATr EE Tryz.prog 71 [slcV 7 Aj.cells l] h (fun v h'=>v=.ptr 6 1 0/\h'=fun i=>if i∈[5,6] then HV l 1 1 [] (Ag.mk false [] []) i else h i):=by
 obtain⟨cd,hb,cl⟩:=ck71;refine ATr.of (fn:=Tryz.f71) rfl hb cr71 (cl 5) 6 rfl ?_;refine AW.sr (by simp[XN,List.replicate];rfl) ?_;refine AW.sr (by simp[XO,h5,h6];rfl) ?_;refine .ret (.here (by simp[rs71]) rfl ?_);simp[rs71];funext i;by_cases i5:i=5
 ·subst i5;simp[HV,cE]
 by_cases i6:i=6
 ·subst i6;simp[HV]
 simp[i5,i6]
end Go.Am

