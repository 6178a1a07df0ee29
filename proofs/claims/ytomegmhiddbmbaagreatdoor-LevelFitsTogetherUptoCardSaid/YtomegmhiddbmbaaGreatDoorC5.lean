/- Part C5: contracts of some functions of this seat. No condition. -/
import Derived.Test.YtomegmhiddbmbaaGreatDoorC4
import Derived.Test.YtomegmhiddbmbaaGreatDoorC3
set_option linter.unusedSimpArgs false
set_option linter.unusedVariables false
set_option maxRecDepth 100000
namespace Go.Am
open Go.Proofs
attribute [local simp] areg aop dreg dop Al.req Ae argU Al.args BW Al.unAll Req.val Req.when putT putH AL ablk CS Cp F4 GY BV Lp Lq Lr Ls Lt Lu Lv Lw Lx Lz L0 L2 L3 L5 IntKind.bits FD ARes.ok ARes.val Gb cut Al.quiet
attribute [local simp] Ho Hq Hr IK Hm Hn QY NW IQ IR
attribute [local simp] Hs IM IN KX KY look DR zipA wm wh
attribute [local simp] L6 L7 L8 L9 LA LB ED Gu Ht LC LD w_fn LE LF LG Bh Hu D3 IS Ai.ep Ai.plain Ai.owned
attribute [local simp] CU C0 La Lb Lc Ld Le Lf Lg Lh Li Lj Lk Ll Lm Ln KZ Bl lay CQ ldv Ee Bq EA Dh F5 BL Aa.kind
attribute [local simp] Aa.one_int Aa.one_bool Aa.one_str Aa.one_nils Aa.one_slc Aa.one_vec Aa.one_ptr Aa.one_eptr Aa.one_cptr Aa.one_nilp Aa.one_fn Aa.one_nilfn Aa.one_mp Aa.one_nilmp
attribute [local simp] Ku Kv Kw Kx Ky Kz K0 K2 K3 K4 K5 K6 K7 K8 K9 KA KB KC KD KE KF KG KH KI KJ KK KL KM KN KO KP KQ KR KS KT KU
attribute [local simp] LH cI cB cS cL LI LJ LK LL LM LN LO LP fzm fzh fzv fzl fz1 LQ LR LS LT LU List.range_succ LV LW LX LY LZ Dl Gv Ma Mb
attribute [local simp] Mc
attribute [local simp] Au.cells
attribute [local simp] Ag.cells
attribute [local simp] AN.cells
attribute [local simp] AK.cells
attribute [local simp] Aj.cells
attribute [local simp] Ba.cells
attribute [local simp] Cq.cells
attribute [local simp] AI.cells
attribute [local simp] AO.cells
attribute [local simp] Bc.cells
attribute [local simp] Cr.cells
attribute [local simp] BB.cells
attribute [local simp] A9.cells
attribute [local simp] Fx.cells
attribute [local simp] Em.cells
attribute [local simp] EF.cells
attribute [local simp] Bd.cells
attribute [local simp] Cs.cells
attribute [local simp] CA.cells
attribute [local simp] Ct.cells
attribute [local simp] Cu.cells
attribute [local simp] CB.cells
attribute [local simp] CC.cells
attribute [local simp] hset
def k37:Fc:=⟨37,[(.us 1),(.us 1)],[false,false],[(.us 1)],fun x=>Bv x.1 x.2⟩
def k38:Fc:=⟨38,[(.int .i64)],[false],[(.us 1)],fun x=>CR x⟩
def k40:Fc:=⟨40,[(.us 1),(.us 1)],[false,false],[(.us 1)],fun x=>BC x.1 x.2⟩
def k64:Fc:=⟨64,[(.slc (.us 4))],[false],[(.int .i64)],fun x=>FI x⟩
def k129:Fc:=⟨129,[(.us 4),(.int .i64)],[false,false],[(.us 1)],fun x=>BF x.1 x.2⟩
def k39:Fc:=⟨39,[(.us 0),(.slc (.us 4))],[false,false],[(.us 1),(.int .i64)],fun x=>Hz x.1 x.2⟩
theorem bd_e{U β:Type}{a:Option U}{k:U->Option β}{r:β}(h:bd a k=some r):∃x,a=some x/\k x=some r:=by
 cases a with
 |none=>cases h
 |some x=>exact⟨x,rfl,h⟩
theorem it_e{U:Type}{e:Int}{a b:Option U}{r:U}(h:ite' (!decide (e=0)) a b=some r):(e≠0->a=some r)/\(e=0->b=some r):=by
 refine⟨fun k=>?_,fun k=>?_⟩
 ·rw[BE k]at h;exact h
 ·rw[Bt k]at h;exact h
theorem ck_e{U:Type}{c:Bool}{a:Option U}{r:U}(h:ck c a=some r):c=true/\a=some r:=by
 cases c with
 |false=>cases h
 |true=>exact⟨rfl,h⟩
def mE(l:List (Int×Int)):List (Aa×Aa):=l.map fun p=>(.int .i64 p.1,.int .i64 p.2)
theorem Rs(a:Int):∀(l:List (Int×Int)) (i:Nat),(mget keqI l a=none/\AH (.int .i64 a) (mE l) i=some none/\∀b,mE (mput keqI l a b)=mE l++[(.int .i64 a,.int .i64 b)]) \/ ∃j x,mget keqI l a=some x/\AH (.int .i64 a) (mE l) i=some (some (i+j,.int .i64 x))/\∀b,mE (mput keqI l a b)=(mE l).set j (.int .i64 a,.int .i64 b)
 |[],i=>.inl ⟨rfl,rfl,fun _=>rfl⟩
 |p :: l,i=>by
  have e:AH (.int .i64 a) (mE (p :: l)) i=(match some (decide (a=p.1)) with | some true=>some (some (i,.int .i64 p.2)) | some false=>AH (.int .i64 a) (mE l) (i+1) | none=>none):=rfl;by_cases h:a=p.1
  ·have hq:keqI a p.1=true:=Bt h;refine .inr ⟨0,p.2,?_,by rw[e,Bt h];rfl,fun b=>?_⟩
   ·show(match keqI a p.1 with | true=>some p.2 | false=>mget keqI l a)=_;rw[hq]
   ·show mE (match keqI a p.1 with | true=>(a,b) :: l | false=>p :: mput keqI l a b)=_;rw[hq];rfl
  ·have hq:keqI a p.1=false:=BE h;have g:mget keqI (p :: l) a=mget keqI l a:=by show(match keqI a p.1 with | true=>some p.2 | false=>mget keqI l a)=_;rw[hq]
   have q:∀b,mput keqI (p :: l) a b=p :: mput keqI l a b:=fun b=>by show(match keqI a p.1 with | true=>(a,b) :: l | false=>p :: mput keqI l a b)=_;rw[hq]
   rw[e,BE h,g];rcases Rs a l (i+1) with ⟨h1,h2,h3⟩|⟨j,x,h1,h2,h3⟩
   ·exact .inl ⟨h1,h2,fun b=>by rw[q];show _ :: mE _=_;rw[h3];rfl⟩
   ·exact .inr ⟨j+1,x,h1,by show AH (.int .i64 a) (mE l) (i+1)=_;rw[h2];simp only[AZ,De,and_true];omega,fun b=>by rw[q];show _ :: mE _=_;rw[h3];rfl⟩
theorem kzka(l:List (Int×Int)){h:Ax}{M e:Nat}{a:Int}(hM:h M=.amap e (mE l)):Bu 1 false (.int .i64 0) (.mp M e) (.int .i64 a) h=⟨True,[M],.int .i64 (Option.getD (mget keqI l a) 0),none⟩:=by
 have e1:Cn (.mp M e) h=⟨e=e,[M],mE l⟩:=by unfold Cn;simp only[hM]
 unfold Bu;rw[e1];simp only;rcases Rs a l 0 with ⟨h1,h2,_⟩|⟨j,x,h1,h2,_⟩
 ·rw[h2,h1];simp[Aa.kkind,Aa.kind]
 ·rw[h2,h1];simp[Aa.kkind,Aa.kind]
theorem kzkt(l:List (Int×Int)){h:Ax}{M e:Nat}{a b:Int}(hM:h M=.amap e (mE l)):F6 1 (.mp M e) (.int .i64 a) (.int .i64 b) h=⟨True,[M],.top,some (M,.amap e (mE (mput keqI l a b)))⟩:=by
 unfold F6;simp only[hM];rcases Rs a l 0 with ⟨h1,h2,h3⟩|⟨j,x,h1,h2,h3⟩
 ·rw[h2,h3];simp[Aa.kkind,Aa.kind]
 ·rw[h2,h3];simp[Aa.kkind,Aa.kind]
theorem XP{U:Type}{x:U}{b:List U}:∀a:List U,a++x :: b∈insA x (a++b)
 |[]=>by cases b<;>exact Be ..
 |y :: a=>Bi _ (FX.2 ⟨_,XP a,rfl⟩)
theorem XQ{U:Type}:∀{l m:List U},m.Perm l->m∈Mj l
 |[],m,h=>by rw[List.perm_nil.1 h];exact Be ..
 |x :: l,m,h=>by obtain⟨a,b,rfl⟩:=List.append_of_mem (h.mem_iff.2 (Be ..));exact List.mem_flatMap.2 ⟨_,XQ (List.perm_cons x |>.1 (List.perm_middle.symm.trans h)),XP a⟩
theorem kz0u:∀{a b:Option Ag},eqR a b=true->a=b
 |some ⟨a,b,c⟩,some ⟨d,e,f⟩,h=>by simp[eqR]at h;rw[h.1,h.2.1,h.2.2]
 |none,_,h=>by cases h
 |some _,none,h=>by cases h
theorem XR{s:Aj}{m:List (Int×Int)}{q r:Ag}(h:Gy s m q=some r){m':List (Int×Int)}(hp:m'.Perm m):Cj s m' q=some r:=by
 unfold Gy at h;cases e:(Mj m).all (fun m'=>eqR (Cj s m' q) (Cj s m q)) with
 |false=>rw[e]at h;cases h
 |true =>rw[e]at h;rw[kz0u (Dw.1 e m' (XQ hp))];exact h
theorem Rt{s:Aj}:∀(a b:List (Int×Int)) (q:Ag),Cj s (a++b) q=bd (Cj s a q) fun q=>Cj s b q
 |[],b,q=>rfl
 |p :: a,b,q=>by
  show(bd (CR p.2) fun x=>bd (BF s p.1) fun y=>bd (BC x y) fun z=>bd (Bv q z) fun q=>Cj s (a++b) q)=bd (bd (CR p.2) fun x=>bd (BF s p.1) fun y=>bd (BC x y) fun z=>bd (Bv q z) fun q=>Cj s a q) _;cases CR p.2 with
  |none=>rfl
  |some x =>
  cases BF s p.1 with
  |none=>rfl
  |some y =>
  show bd (BC x y) _=bd (bd (BC x y) _) _;cases BC x y with
  |none=>rfl
  |some z =>
  show bd (Bv q z) _=bd (bd (Bv q z) _) _;cases Bv q z with
  |none=>rfl
  |some w=>exact Rt a b w
def D4(m:List (Int×Int))(z:List Nat):List (Int×Int):=z.map fun k=>m.getD k (0,0)
theorem XS{m:List (Int×Int)}{z:List Nat}(h:z.Perm (List.range m.length)):(D4 m z).Perm m:=by
 have e:(List.range m.length).map (fun k=>m.getD k (0,0))=m:=by apply List.ext_getElem (by simp);intro i h1 h2;simp at h1;simp[h1]
 have:=h.map (fun k=>m.getD k ((0,0):Int×Int))
 rwa [e]at this
theorem kzyb{m:List (Int×Int)}{z:List Nat}(hn:z.Nodup)(hl:∀k,k∈z->k<m.length):∃y,(D4 m (z++y)).Perm m:=by
 refine⟨(List.range m.length).filter (fun k=>decide (k∉z)),XS ?_⟩;rw[List.perm_ext_iff_of_nodup ?_ List.nodup_range]
 ·intro a;rw[DJ,List.mem_filter,Fz,CO];exact⟨fun h=>h.elim (hl a) (·.1),fun h=>(Decidable.em (a∈z)).imp id fun e=>⟨h,e⟩⟩
 ·rw[List.nodup_append];refine⟨hn,List.nodup_range.filter _,fun x hx y hy e=>?_⟩;subst e;exact Ip (List.mem_filter.1 hy).2 hx
theorem kzys{s:Aj}{m:List (Int×Int)}{q0 q1 q:Ag}(hA:Gy s m q0=some q1){z:List Nat}{k:Nat}{p:Int×Int}(hn:(z++[k]).Nodup)(hl:∀j,j∈z++[k]->j<m.length)(hk:m[k]?=some p)(hq:Cj s (D4 m z) q0=some q) : ∃a b c q',CR p.2=some a/\BF s p.1=some b/\BC a b=some c/\Bv q c=some q'/\Cj s (D4 m (z++[k])) q0=some q':=by
 obtain⟨y,hy⟩:=kzyb hn hl;have h:=XR hA hy
 have e1:D4 m (z++[k]++y)=D4 m z++(p :: D4 m y):=by
  have:m.getD k (0,0)=p:=by simp[List.getD,hk]
  unfold D4;rw[List.map_append,List.map_append,List.append_assoc];show _++(m.getD k (0,0) :: List.map (fun k=>m.getD k (0,0)) y)=_;rw[this]
 have e2:D4 m (z++[k])=D4 m z++[p]:=by
  have:m.getD k (0,0)=p:=by simp[List.getD,hk]
  unfold D4;rw[List.map_append];show _++[m.getD k (0,0)]=_;rw[this]
 rw[e1,Rt,hq]at h;have h:(bd (CR p.2) fun x=>bd (BF s p.1) fun y'=>bd (BC x y') fun z=>bd (Bv q z) fun q=>Cj s (D4 m y) q)=some q1:=h;obtain⟨a,ha,h⟩:=bd_e h;obtain⟨b,hb,h⟩:=bd_e h;obtain⟨c,hc,h⟩:=bd_e h;obtain⟨q',lK,h⟩:=bd_e h;refine⟨a,b,c,q',ha,hb,hc,lK,?_⟩;rw[e2,Rt,hq];show(bd (CR p.2) fun x=>bd (BF s p.1) fun y'=>bd (BC x y') fun z=>bd (Bv q z) fun q=>some q)=some q';rw[ha];show(bd (BF s p.1) fun y'=>bd (BC a y') fun z=>bd (Bv q z) fun q=>some q)=some q';rw[hb];show(bd (BC a b) fun z=>bd (Bv q z) fun q=>some q)=some q';rw[hc];show(bd (Bv q c) fun q=>some q)=some q';rw[lK];rfl
theorem kzzd{h:Au}{l:List Aj}{r:Ag×Int}(hF:Hz h l=some r):∃e,FI l=some e/\(e≠0->r=(⟨false,[],[]⟩,e))/\(e=0->∃p,Gx h=some p/\(p.2≠0->r=(⟨false,[],[]⟩,1))/\(p.2=0->vaL h l ⟨false,[],[]⟩=some r)):=by unfold Hz at hF;obtain⟨e1,h1,hF⟩:=bd_e hF;refine⟨e1,h1,fun k=>(BI ((it_e hF).1 k)).symm,fun k=>?_⟩;obtain⟨p,h2,hF⟩:=bd_e ((it_e hF).2 k);exact⟨p,h2,fun k=>(BI ((it_e hF).1 k)).symm,fun k=>(it_e hF).2 k⟩
theorem kzzr{h:Au}{s:Aj}{l:List Aj}{q:Ag}{r:Ag×Int}(hF:vaL h (s :: l) q=some r):inr .i64 (h.From+(h.Stages.length:Int)) /\
  ((decide (s.From<h.From)||decide (h.From+(h.Stages.length:Int)<s.To))=true->r=(⟨false,[],[]⟩,19))/\((decide (s.From<h.From)||decide (h.From+(h.Stages.length:Int)<s.To))=false ->
   inr .i64 (s.From-h.From)/\inr .i64 (s.To-h.From)/\(0<=s.From-h.From/\s.From-h.From<=s.To-h.From/\s.To-h.From<=h.Stages.length) /\
   ∃m q',H6 (sub h.Stages (s.From-h.From) (s.To-h.From)) []=some m/\Gy s m q=some q'/\vaL h l q'=some r):=by
 have hF:(ck (A0 .i64 (h.From+(List.length h.Stages:Int)))<|ite' (bif decide (s.From<h.From) then true else decide (h.From+(List.length h.Stages:Int)<s.To)) (some (Ag.mk false [] [],19)) <|
  ck (A0 .i64 (s.From-h.From)&&A0 .i64 (s.To-h.From)&&Dv h.Stages (s.From-h.From) (s.To-h.From)) <|
  bd (H6 (sub h.Stages (s.From-h.From) (s.To-h.From)) []) fun m=>bd (Gy s m q) fun r=>vaL h l r)=some r:=hF
 obtain⟨h1,hF⟩:=ck_e hF;have eb:(bif decide (s.From<h.From) then true else decide (h.From+(List.length h.Stages:Int)<s.To))=(decide (s.From<h.From)||decide (h.From+(List.length h.Stages:Int)<s.To)):=by cases decide (s.From<h.From)<;>rfl
 rw[eb]at hF;refine⟨by simp[A0]at h1;exact h1,fun k=>?_,fun k=>?_⟩
 ·rw[k]at hF;exact(BI hF).symm
 ·rw[k]at hF;obtain⟨h2,hF⟩:=ck_e (show ck _ _=some r from hF);obtain⟨m,h3,hF⟩:=bd_e hF;obtain⟨q',h4,hF⟩:=bd_e hF;simp only[AE]at h2;obtain⟨⟨h5,h6⟩,h7⟩:=h2;refine⟨by simp[A0]at h5;exact h5,by simp[A0]at h6;exact h6,by simpa [Dv,and_assoc] using h7,m,q',h3,h4,hF⟩
end Go.Am

