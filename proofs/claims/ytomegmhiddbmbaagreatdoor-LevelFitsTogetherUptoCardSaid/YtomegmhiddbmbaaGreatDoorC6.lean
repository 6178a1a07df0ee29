/- Part C6: contracts of some functions of this seat. No condition. -/
import Derived.Test.YtomegmhiddbmbaaGreatDoorC5
set_option linter.unusedSimpArgs false
set_option linter.unusedVariables false
set_option maxRecDepth 100000
namespace Go.Am
open Go.Proofs
attribute [local simp] areg aop dreg dop Al.req Ae argU Al.args BW Al.unAll Req.val Req.when putT putH AL ablk CS Cp F4 GY BV Lp Lq Lr Ls Lt Lu Lv Lw Lx Lz L0 L2 L3 L5 IntKind.bits FD ARes.ok ARes.val Gb cut Al.quiet
attribute [local simp] Ho Hq Hr IK Hm Hn QY NW IQ IR
attribute [local simp] Hs IM IN KX KY look DR zipA wm wh
attribute [local simp] L6 L7 L8 L9 LA LB ED Gu Ht LC LD w_fn LE LF LG Bh Hu D3 IS Ai.ep Ai.plain Ai.owned
attribute [local simp] CU C0 La Lb Lc Ld Le Lf Lg Lh Li Lj Lk Ll Lm Ln KZ Bl lay CQ ldv Ee Bq EA Dh F5 BL Aa.kind
attribute [local simp] Aa.one_int Aa.one_bool Aa.one_str Aa.one_nils Aa.one_slc Aa.one_vec Aa.one_ptr Aa.one_eptr Aa.one_cptr Aa.one_nilp Aa.one_fn Aa.one_nilfn Aa.one_mp Aa.one_nilmp
attribute [local simp] Ku Kv Kw Kx Ky Kz K0 K2 K3 K4 K5 K6 K7 K8 K9 KA KB KC KD KE KF KG KH KI KJ KK KL KM KN KO KP KQ KR KS KT KU
attribute [local simp] LH cI cB cS cL LI LJ LK LL LM LN LO LP fzm fzh fzv fzl fz1 LQ LR LS LT LU List.range_succ LV LW LX LY LZ Dl Gv Ma Mb
attribute [local simp] Mc
attribute [local simp] Au.cells
attribute [local simp] Ag.cells
attribute [local simp] AN.cells
attribute [local simp] AK.cells
attribute [local simp] Aj.cells
attribute [local simp] Ba.cells
attribute [local simp] Cq.cells
attribute [local simp] AI.cells
attribute [local simp] AO.cells
attribute [local simp] Bc.cells
attribute [local simp] Cr.cells
attribute [local simp] BB.cells
attribute [local simp] A9.cells
attribute [local simp] Fx.cells
attribute [local simp] Em.cells
attribute [local simp] EF.cells
attribute [local simp] Bd.cells
attribute [local simp] Cs.cells
attribute [local simp] CA.cells
attribute [local simp] Ct.cells
attribute [local simp] Cu.cells
attribute [local simp] CB.cells
attribute [local simp] CC.cells
attribute [local simp] hset
section
attribute [local simp] kznm kzkz kzkx kzko W8 kzlr kzme kzmd WA subm subh JY pick NV
theorem kzya{a:Aj}{z:Aa}(hz:z∈a.cells):AC z:=by
 simp[Aj.cells]at hz;rcases hz with rfl|rfl|rfl|rfl|rfl|rfl|rfl<;>first|exact .int _ _|exact .bool _|exact .str _|skip
 exact Gc fun a z hz=>by simp[AN.cells]at hz;rcases hz with rfl|rfl|rfl|rfl<;>first|exact .int _ _|exact .bool _|exact .str _
theorem XT(m:List (Nat×Ai))(l:List Aj)(e5 e6:Nat)(c:List ((Int×Int)×Ag))(q:Ag):(fun i=>if i∈[5,6] then HV l e5 e6 c q i else hl m i)=hl ((5,.amap e5 (cE c)) :: (6,.box e6 [slcV 7 Aj.cells l,.mp 5 e5,.bool q.Neg,.str q.Num,.str q.Den]) :: m):=by
 funext i;by_cases i5:i=5
 ·subst i5;simp[HV]
 by_cases i6:i=6
 ·subst i6;simp[HV]
 have j5:¬5=i:=fun e=>i5 e.symm;have j6:¬6=i:=fun e=>i6 e.symm;simp[i5,i6,j5,j6]
def b39(H L:Aa)(n k:Nat):List (Nat×Aa):=[(1,L),(2,.ptr 0 1 0),(4,.ptr 1 1 0),(5,.int .i64 0),(9,.ptr 6 1 0),(33,L),(34,.int .i64 n),(35,.int .i64 k)]
def h39(hc:List Aa)(o2 o3 o4:Ai)(c:List ((Int×Int)×Ag))(l:List Aj)(q:Ag):List (Nat×Ai):=[(0,.box 1 hc),(1,.box 1 [.bool false,.str [],.str []]),(2,o2),(3,o3),(4,o4),(5,.amap 1 (cE c)),(6,.box 1 [slcV 7 Aj.cells l,.mp 5 1,.bool q.Neg,.str q.Num,.str q.Den])]
attribute [local simp] b39 h39
theorem kzyi{l:List Aj}{e:Int}(h:FI l=some e):l.length<=1000000\/e=2:=by
 unfold FI at h;cases hd:decide (400<(l.length:Int)) with
 |true=>rw[hd]at h;exact .inr (BI h).symm
 |false=>have:=of_decide_eq_false hd;exact .inl (by omega)
structure YV where
 k:Nat
 e2:Nat
 e3:Nat
 e4:Nat
 c:List ((Int×Int)×Ag)
 q:Ag
structure YN where
 j:Nat
 m:List (Int×Int)
structure YS where
 z:List Nat
 c:List ((Int×Int)×Ag)
 q:Ag
set_option maxHeartbeats 8000000 in
theorem kz08(hC:∀(l:List Aj) (e:Int),FI l=some e->AY EE Tryz.prog 64 [slcV 7 Aj.cells l] (.int .i64 e))(hO:∀(h:Au) (p:List A9×Int),Gx h=some p->AY EE Tryz.prog 70 [.agg h.cells] (.tup [slcV 5 A9.cells p.1,.int .i64 p.2]))(hR:∀(x:Aj) (s:Int) (r:Ag),BF x s=some r->AY EE Tryz.prog 129 [.agg x.cells,.int .i64 s] (.agg r.cells))(hI:∀(n:Int) (r:Ag),CR n=some r->AY EE Tryz.prog 38 [.int .i64 n] (.agg r.cells))(hM:∀(a b r:Ag),BC a b=some r->AY EE Tryz.prog 40 [.agg a.cells,.agg b.cells] (.agg r.cells))(hA:∀(a b r:Ag),Bv a b=some r->AY EE Tryz.prog 37 [.agg a.cells,.agg b.cells] (.agg r.cells))(h:Au) (l:List Aj) (r:Ag×Int) (hF:Hz h l=some r):Pure EE Tryz.prog 39 [.agg h.cells,slcV 7 Aj.cells l] (.tup [.agg r.1.cells,.int .i64 r.2]):=by
 obtain⟨e1,f1,g1,hF⟩:=kzzd hF;have sC:=hC l e1 f1;obtain⟨hf,hs⟩:=h;have eF:Au.cells ⟨hf,hs⟩=[.int .i64 hf,(Aa.slc 1 hs.length (Az (cI .i64) hs))]:=rfl;rw[LH]at sC;rw[LH,eF];obtain⟨c,hb,hc⟩:=ck39;refine Pure.ofs (fn:=Tryz.f39) (n:=98) rfl hb cr39 (hc 0) (by simp;rfl) rfl (by simp) ?_;refine(AW.srk [1,2,4,5] [0,1] (by simp[XU];exact⟨rfl,rfl⟩) (by simp;rfl) (by simp;rfl) rfl ?_);refine .seq (AW.sr (by simp[XV];refine sC.call ?_;(try simp);rfl) ?_);refine AW.sr (by simp[XW];rfl) ?_;refine AW.if' (!decide (e1=0)) (by simp) (fun e=>?_) (fun e=>AW.skip ?_)
 ·rw[g1 (by simpa using e)];refine AW.sr (by simp[XX];rfl) ?_;exact .retp (rs:=rs39) rfl (by simp[rs39]) (by simp[rs39])
 obtain rfl:e1=0:=by simpa using e
 have aF:l.length<=1000000:=(kzyi f1).resolve_right (by omega);obtain⟨p,f2,g2,hF⟩:=hF rfl;have sO:=hO _ p f2;rw[eF,LH]at sO;simp only[AL];refine .seq (AW.sr (by simp[XY];refine sO.call ?_;(try simp);rfl) ?_);refine AW.sr (by simp[XZ];rfl) ?_;refine AW.if' (!decide (p.2=0)) (by simp) (fun e=>?_) (fun e=>AW.skip ?_)
 ·rw[g2 (by simpa using e)];refine AW.sr (by simp[Ya];rfl) ?_;exact .retp (rs:=rs39) rfl (by simp[rs39]) (by simp[rs39])
 have hF:=hF (by simpa using e);simp only[AL];refine .seq (.reg ?_);simp[Yb];refine(kz0z l _ (by simp) (by simp)).mono ?_;rintro v h' ⟨rfl,rfl⟩;rw[XT];simp;refine .seq (.seq (AW.r1 (by simp[Yc];rfl) ?_));refine .block (AW.lp (fun y:YV=>b39 (.agg [.int .i64 hf,(Aa.slc 1 hs.length (Az (cI .i64) hs))]) (.slc 7 l.length (Az Aj.cells l)) l.length y.k) (fun y=>h39 [.int .i64 hf,(Aa.slc 1 hs.length (Az (cI .i64) hs))] (.gone y.e2) (.gone y.e3) (.gone y.e4) y.c l y.q) (fun y=>l.length-y.k) (fun y=>y.k<=l.length/\CcV l y.c/\vaL ⟨hf,hs⟩ (l.drop y.k) y.q=some r) ⟨0,0,0,0,[],⟨false,[],[]⟩⟩ ⟨Fv _,(fun k s r h=>by cases h),hF⟩ (by simp) (by simp) (by simp) ?_);rintro⟨k,e2,e3,e4,cc,q⟩ ⟨hk,cW,hV⟩;simp only at hk cW hV ⊢;refine AW.sr (by simp[Yd];rfl) ?_;refine .seq (AW.if' (decide ((k:Int)<(l.length:Int))) (by simp) (fun e=>AW.skip ?_) (fun e=>.exit ?_));rotate_left
 ·obtain rfl:k=l.length:=by have:=of_decide_eq_false e;omega
  rw[List.drop_length]at hV;obtain rfl:=BI (show some (q,(0:Int))=some r from hV);simp only[AL,ablk,BK];refine AW.sr (by simp[Ye];rfl) ?_;exact .retp (rs:=rs39) rfl (by simp[rs39]) (by simp[rs39])
 have hlt:k<l.length:=by have:=Ip e;omega
 have cQ:l[k]?=some l[k]:=AG hlt;have aI:Az Aj.cells l k=l[k].cells:=FH cQ;rw[Nt hlt]at hV;generalize l[k]=s at *;obtain⟨v1,v2,v3⟩:=kzzr hV;have kB:inr .i64 ((k:Int)+1):=by show _/\_;omega
 simp only at v1 v2 v3;simp only[AL];refine .seq (.block (AW.sr (by simp[Yf,hlt,aI];rfl) ?_));refine .seq (AW.sr (by simp[Yg];exact⟨fun _=>v1,rfl⟩) ?_);refine AW.if' (decide (s.From<hf)||decide (hf+(hs.length:Int)<s.To)) (by simp) (fun e=>?_) (fun e=>AW.skip ?_)
 ·rw[v2 e];refine AW.sr (by simp[Yh];rfl) ?_;exact .retp (rs:=rs39) rfl (by simp[rs39]) (by simp[rs39])
 obtain⟨w1,w2,⟨w3,w4,w5⟩,m,q1,kC,iF,hV⟩:=v3 e;simp only[AL];refine AW.sr (by simp[Yi];rfl) ?_;obtain⟨n0,gB⟩:∃n0:Nat,(s.To-hf-(s.From-hf)).toNat=n0:=⟨_,rfl⟩;have oB:n0<=9223372036854775807:=by have:s.To-hf<=9223372036854775807:=w2.2;omega
 have nj:max (s.To-hf-(s.From-hf)) 0=(n0:Int):=by omega
 have bB:(sub hs (s.From-hf) (s.To-hf)).length=n0:=by simp[sub];omega
 have bU:∀j x,(sub hs (s.From-hf) (s.To-hf))[j]?=some x->Az (cI .i64) hs ((s.From-hf).toNat+j)=[.int .i64 x]:=fun j x hj=>by
  unfold sub at hj;rw[gB,Is]at hj;split at hj
  ·rw[Im]at hj;rw[FH hj];rfl
  ·cases hj
 generalize sub hs (s.From-hf) (s.To-hf)=part at *;refine .seq (.seq (.reg ?_));simp[Yj];refine⟨w1,w2,⟨by omega,by omega,w5⟩,?_⟩;rw[nj,gB];generalize nk:(fun k=>Az (cI .i64) hs ((s.From-hf).toNat+k))=CP at *;have bU:∀j x,part[j]?=some x->CP j=[.int .i64 x]:=fun j x hj=>by rw[<-nk];exact bU j x hj
 refine .block (AW.lp (fun y:YN=>b39 (.agg [.int .i64 hf,(Aa.slc 1 hs.length (Az (cI .i64) hs))]) (.slc 7 l.length (Az Aj.cells l)) l.length k++[(10,.int .i64 k),(12,.mp 3 (e3+1)),(70,.slc 1 n0 CP),(71,.int .i64 n0),(72,.int .i64 y.j)]) (fun y=>h39 [.int .i64 hf,(Aa.slc 1 hs.length (Az (cI .i64) hs))] (.gone (e2+1)) (.amap (e3+1) (mE y.m)) (.gone e4) cc l q) (fun y=>n0-y.j) (fun y=>y.j<=n0/\H6 (part.drop y.j) y.m=some m) ⟨0,[]⟩ ⟨Fv _,kC⟩ (by simp) (by simp[mE]) (by simp) ?_);rintro⟨j,mm⟩ ⟨hj,hN⟩;simp only at hj hN ⊢;refine AW.sr (by simp[Yk];rfl) ?_;refine .seq (AW.if' (decide ((j:Int)<(n0:Int))) (by simp) (fun e=>AW.skip ?_) (fun e=>.exit ?_))
 ·have hlt:j<n0:=by have:=Ip e;omega
  have nl:part[j]?=some part[j]:=AG (by omega);have nm:=bU j _ nl;rw[Nt (show j<part.length by omega)]at hN;generalize part[j]=z at *;obtain⟨cl,hN⟩:=ck_e (show ck _ _=some m from hN);have k1:inr .i64 (Option.getD (mget keqI mm z) 0+1):=by simp[A0]at cl;exact cl
  have bh:inr .i64 ((j:Int)+1):=by show _/\_;omega
  simp only[AL];refine .seq (.block (AW.sr (by simp[Yl,hlt,nm];rfl) ?_));refine AW.r1 (by simp[Ym,kzka mm,kzkt mm];exact⟨k1,rfl⟩) ?_;simp only[AL,ablk];refine AW.r1 (by simp[Yn];exact⟨bh,rfl⟩) ?_;exact⟨⟨j+1,mput keqI mm z (Option.getD (mget keqI mm z) 0+1)⟩,⟨by simp only;omega,hN⟩,by simp only;omega,.sp (by simp) (by simp) (by simp)⟩
 obtain rfl:j=n0:=by have:=of_decide_eq_false e;omega
 rw[<-bB,List.drop_length]at hN;obtain rfl:=BI (show some mm=some m from hN);have jr:(mE mm).length=mm.length:=Fy ..;simp only[AL,ablk,BK];refine AW.sr (by simp[Yo,I2];rfl) ?_;refine .block (AW.lp (fun y:YS=>b39 (.agg [.int .i64 hf,(Aa.slc 1 hs.length (Az (cI .i64) hs))]) (.slc 7 l.length (Az Aj.cells l)) l.length k++[(10,.int .i64 k),(82,.ptr 4 (e4+1) 0)]) (fun y=>h39 [.int .i64 hf,(Aa.slc 1 hs.length (Az (cI .i64) hs))] (.gone (e2+1)) (.amap (e3+1) (mE mm)) (.miter (e4+1) (some (3,e3+1,(mE mm).length)) y.z) y.c l y.q) (fun y=>mm.length-y.z.length) (fun y=>y.z.Nodup/\(∀k,k∈y.z->k<mm.length)/\CcV l y.c/\Cj s (D4 mm y.z) q=some y.q) ⟨[],cc,q⟩ ⟨.nil,(fun k h=>by cases h),cW,rfl⟩ (by simp) (by simp) (by simp) ?_);rintro⟨seen,c3,q3⟩ ⟨bK,eS,gP,hz⟩;simp only at bK eS gP hz ⊢;refine .seq (.reg ?_);simp[Yp,Gl];refine⟨fun i ei fN=>?_,fun be=>?_⟩
 ·have ei:i<mm.length:=by simpa [jr] using ei
  have iG:mm[i]?=some mm[i]:=AG ei;have np:(mE mm)[i]?=some (.int .i64 mm[i].1,.int .i64 mm[i].2):=by unfold mE;rw[Gf,iG];rfl
  have kD:∀h:i<(mE mm).length,(mE mm)[i]=(.int .i64 mm[i].1,.int .i64 mm[i].2):=fun h=>(AU.1 np).2;generalize mm[i]=p at *;have dN:(seen++[i]).Nodup:=by rw[List.nodup_append];exact⟨bK,by simp,fun x hx y hy=>by simp at hy;subst hy;intro e;subst e;exact fN hx⟩
  have hlt':∀j,j∈seen++[i]->j<mm.length:=by
   intro j hj;rcases DJ.1 hj with h|h
   ·exact eS j h
   ·simp at h;omega
  have aD:=Rf _ _ dN hlt';obtain⟨a,b,d,q4,y1,y2,y3,y4,y5⟩:=kzys iF dN hlt' iG hz;refine .seq (AW.if' true rfl (fun _=>AW.skip ?_) (fun e=>by cases e));simp only[AL];refine .block (AW.sr (by simp[Yq,He,jr,ei,kD];rfl) ?_);refine .reg ?_;simp[Yr];refine(kzyf hR hI hM hA cQ y2 gP y1 y3 y4 1 1 _ (kz04 (by simp) (by simp))).mono ?_;rintro v h' ⟨rfl,rfl⟩;rw[XT];exact⟨⟨seen++[i],cput c3 k p.1 b,q4⟩,⟨dN,hlt',kz0o gP cQ y2,y5⟩,by simp at aD ⊢;omega,.sp (by simp) (by simp[jr]) (by simp)⟩
 ·refine .seq (AW.if' false rfl (fun e=>by cases e) (fun _=>.exit ?_));have hq:=XR iF (XS (Xe bK fun x=>⟨eS x,fun h=>be x (by rw[jr];exact h)⟩));rw[hz]at hq;obtain rfl:=BI hq;simp only[AL,ablk,BK];refine AW.r1 (by simp[Ys];exact⟨kB,rfl⟩) ?_;exact⟨⟨k+1,e2+1,e3+1,e4+1,c3,q3⟩,⟨by simp only;omega,gP,hV⟩,by simp only;omega,.sp (by simp) (by simp) (by simp)⟩
theorem kz0x(H64:Av k64)(H70:Av k70)(H129:Av k129)(H38:Av k38)(H40:Av k40)(H37:Av k37):Av k39:=by
 refine⟨by kernel_rfl,fun x y e=>?_⟩;have H:Pure EE Tryz.prog 39 [.agg x.1.cells,slcV 7 Aj.cells x.2] (.tup [.agg y.1.cells,.int .i64 y.2]):=kz08 (fun l e h=>H64.still (x:=l) (y:=e) h (by kernel_rfl)) (fun w p h=>H70.still (x:=w) (y:=p) h (by kernel_rfl)) (fun a s r h=>H129.still (x:=(a,s)) (y:=r) h (by kernel_rfl)) (fun n r h=>H38.still (x:=n) (y:=r) h (by kernel_rfl)) (fun a b r h=>H40.still (x:=(a,b)) (y:=r) h (by kernel_rfl)) (fun a b r h=>H37.still (x:=(a,b)) (y:=r) h (by kernel_rfl)) x.1 x.2 y e
 exact(Pure.still H hEE (fun z hz=>by
  rcases AM.1 hz with rfl|hz
  ·exact .agg _ fun z hz=>XD hz
  ·rw[CM.1 hz];exact Gc fun a z hz=>kzya hz) (.tup _ fun z hz=>by
  rcases AM.1 hz with rfl|hz
  ·exact .agg _ fun z hz=>by simp[Ag.cells]at hz;rcases hz with rfl|rfl|rfl<;>simp
  ·rw[CM.1 hz];exact .int _ _)).cast (by kernel_rfl)
end
end Go.Am

