/- Part C3: contracts of some functions of this seat. No condition. -/
import Derived.Test.YtomegmhiddbmbaaGreatDoorC2
set_option linter.unusedSimpArgs false
set_option linter.unusedVariables false
set_option maxRecDepth 100000
namespace Go.Am
open Go.Proofs
attribute [local simp] areg aop dreg dop Al.req Ae argU Al.args BW Al.unAll Req.val Req.when putT putH AL ablk CS Cp F4 GY BV Lp Lq Lr Ls Lt Lu Lv Lw Lx Lz L0 L2 L3 L5 IntKind.bits FD ARes.ok ARes.val Gb cut Al.quiet
attribute [local simp] Ho Hq Hr IK Hm Hn QY NW IQ IR
attribute [local simp] Hs IM IN KX KY look DR zipA wm wh
attribute [local simp] L6 L7 L8 L9 LA LB ED Gu Ht LC LD w_fn LE LF LG Bh Hu D3 IS Ai.ep Ai.plain Ai.owned
attribute [local simp] CU C0 La Lb Lc Ld Le Lf Lg Lh Li Lj Lk Ll Lm Ln KZ Bl lay CQ ldv Ee Bq EA Dh F5 BL Aa.kind
attribute [local simp] Aa.one_int Aa.one_bool Aa.one_str Aa.one_nils Aa.one_slc Aa.one_vec Aa.one_ptr Aa.one_eptr Aa.one_cptr Aa.one_nilp Aa.one_fn Aa.one_nilfn Aa.one_mp Aa.one_nilmp
attribute [local simp] Ku Kv Kw Kx Ky Kz K0 K2 K3 K4 K5 K6 K7 K8 K9 KA KB KC KD KE KF KG KH KI KJ KK KL KM KN KO KP KQ KR KS KT KU
attribute [local simp] LH cI cB cS cL LI LJ LK LL LM LN LO LP fzm fzh fzv fzl fz1 LQ LR LS LT LU List.range_succ LV LW LX LY LZ Dl Gv Ma Mb
attribute [local simp] Mc
attribute [local simp] Au.cells
attribute [local simp] Ag.cells
attribute [local simp] AN.cells
attribute [local simp] AK.cells
attribute [local simp] Aj.cells
attribute [local simp] Ba.cells
attribute [local simp] Cq.cells
attribute [local simp] AI.cells
attribute [local simp] AO.cells
attribute [local simp] Bc.cells
attribute [local simp] Cr.cells
attribute [local simp] BB.cells
attribute [local simp] A9.cells
attribute [local simp] Fx.cells
attribute [local simp] Em.cells
attribute [local simp] EF.cells
attribute [local simp] Bd.cells
attribute [local simp] Cs.cells
attribute [local simp] CA.cells
attribute [local simp] Ct.cells
attribute [local simp] Cu.cells
attribute [local simp] CB.cells
attribute [local simp] CC.cells
attribute [local simp] hset
theorem kzx8(a:A9):Bl (A9.cells a)=true:=rfl
theorem kzx1(a:A9):List.take 5 (A9.cells a)=A9.cells a:=rfl
def k96:Fc:=⟨96,[(.us 0)],[false],[.bool],fun x=>Gw x⟩
def k97:Fc:=⟨97,[(.int .i64),(.int .i64),(.int .i64)],[false,false,false],[(.us 12)],fun x=>EG x.1 x.2.1 x.2.2⟩
def k98:Fc:=⟨98,[(.us 12),(.us 12)],[false,false],[(.us 12),.bool],fun x=>Hx x.1 x.2⟩
def k70:Fc:=⟨70,[(.us 0)],[false],[(.slc (.us 12)),(.int .i64)],fun x=>Gx x⟩
theorem kzli{a:BB}{z:Aa}(hz:z∈a.cells):AC z:=by simp[BB.cells]at hz;rcases hz with rfl|rfl<;>exact .int _ _
theorem kzlk{a:A9}{z:Aa}(hz:z∈a.cells):AC z:=by simp[A9.cells]at hz;rcases hz with rfl|rfl|rfl|rfl|rfl<;>first|exact .int _ _|exact Gc fun a z hz=>kzli hz
def HO(hc:List Aa)(o:Ai)(e1 e3 e4:Nat):Ax:=fun i =>
 if i=0 then .box 1 hc else if i=1 then .gone e1 else if i=2 then o else if i=3 then .gone e3 else if i=4 then .gone e4 else .gone 0
theorem Xx{U:Type}(id ep:Nat)(l:List U)(x:U):ownV id ep (l++[x])=.vec id ep 0 (l.length+1):=by cases l<;>simp[ownV]
theorem Xy{U:Type}(ep st:Nat)(c:U->List Aa)(l:List U)(x:U):ownO ep st c (l++[x])=.vec ep st (l.length+1) (Az c (l++[x])):=by cases l<;>simp[ownO]
def TO7(hc:List Aa)(S O:Aa)(n k:Nat):List Aa:=[.agg hc,.ptr 0 1 0,.nils,.int .i64 0,O,.top,.top,.top,.top,.top,.top,.top,.top,.top,S,.int .i64 n,.int .i64 k]++List.replicate 49 .top
structure Y7 where
 k:Nat
 ep:Nat
 out:List A9
 e1:Nat
 e3:Nat
 e4:Nat
theorem kzr9{a x:A9}{m:List A9}(j:Nat)(hj:j<m.length+1+1):Az A9.cells (a :: m++[x]) j=if j<m.length+1 then Az A9.cells (a :: m) j else [A9.cells x][j-(m.length+1)]?.getD []:=by
 by_cases aV:j<m.length+1
 ·rw[Aq aV];unfold Az;rw[FU (by simpa using aV)]
 ·obtain rfl:j=m.length+1:=by omega
  rw[Ak aV,FH (x:=x) (by simp)];simp
theorem kzpb{h:Au}(e:Gw h=some true):h.Stages.length<=40000:=by
 unfold Gw at e;cases hd:decide ((h.Stages.length:Int)<=40000)
 ·rw[hd]at e;cases e
 ·have:=Ip hd;omega
set_option maxHeartbeats 4000000 in
theorem of70(hR:∀(h:Au) (r:Bool),Gw h=some r->AY EE Tryz.prog 96 [.agg h.cells] (.bool r))(hH:∀(a b s:Int) (r:A9),EG a b s=some r->AY EE Tryz.prog 97 [.int .i64 a,.int .i64 b,.int .i64 s] (.agg r.cells))(hB:∀(a b:A9) (r:A9×Bool),Hx a b=some r->AY EE Tryz.prog 98 [.agg a.cells,.agg b.cells] (.tup [.agg r.1.cells,.bool r.2]))(h:Au) (r:List A9×Int) (hF:Gx h=some r):ATr EE Tryz.prog 70 [.agg h.cells] h0 (fun v _=>W v (.tup [slcV 5 A9.cells r.1,.int .i64 r.2])):=by
 unfold Gx at hF;cases h1:Gw h with
 |none=>rw[h1]at hF;cases hF
 |some rb =>
 have sR:=hR h rb h1;rw[h1]at hF;have hF:ite' (!rb) (some ([],1)) (bd (ofL h.From 0 h.Stages []) fun out=>ite' (decide (2000<(List.length out:Int))) (some ([],2)) (some (out,0)))=some r:=hF;obtain⟨c,hb,hc⟩:=ck70;refine ATr.of (fn:=Tryz.f70) rfl hb cr70 (hc 0) 65 rfl ?_;obtain⟨hf,hs⟩:=h;have eF:Au.cells ⟨hf,hs⟩=[.int .i64 hf,(Aa.slc 1 hs.length (Az (cI .i64) hs))]:=rfl;simp only[eF]at sR ⊢;refine AW.sr (by simp[Xz,List.replicate,h0];rfl) ?_;refine .seq (AW.sr (by simp[X0];refine sR.call ?_;(try simp);rfl) ?_);refine AW.if' (!rb) (by simp) (fun e'=>?_) (fun e'=>AW.skip ?_)
 ·rw[show(!rb)=true from e']at hF;cases hF;refine AW.sr (by simp[X2];rfl) ?_;refine .ret ?_;simp only[AL];refine .here (by simp[rs70]) rfl ?_;simp[rs70]
 rw[show(!rb)=false from e']at hF
 have aF:hs.length<=40000:=by
  have:rb=true:=by simpa using e'
  rw[this]at h1;exact kzpb h1
 have hF:bd (ofL hf 0 hs []) (fun out=>ite' (decide (2000<(List.length out:Int))) (some ([],2)) (some (out,0)))=some r:=hF;cases h3:ofL hf 0 hs [] with
 |none=>rw[h3]at hF;cases hF
 |some fin =>
 rw[h3]at hF;have hF:ite' (decide (2000<(List.length fin:Int))) (some ([],2)) (some (fin,0))=some r:=hF;simp only[AL];refine AW.sr (by simp[X3];rfl) ?_;refine .seq (.seq (AW.r1 (by simp[X4];rfl) ?_));refine .block (.loop (fun y:Y7=>(⟨TO7 [.int .i64 hf,(Aa.slc 1 hs.length (Az (cI .i64) hs))] (Aa.slc 1 hs.length (Az (cI .i64) hs)) (ownV 2 y.ep y.out) hs.length y.k,HO [.int .i64 hf,(Aa.slc 1 hs.length (Az (cI .i64) hs))] (ownO y.ep 5 A9.cells y.out) y.e1 y.e3 y.e4,[]⟩:Ay)) (fun y=>hs.length-y.k) (fun y=>y.k<=hs.length/\y.out.length<=y.k/\ofL hf y.k (hs.drop y.k) y.out=some fin) ⟨0,0,[],0,0,0⟩ ⟨Fv _,AD _,h3⟩ (.of_sub ⟨?_,fun i=>?_,rfl,fun D hD=>by cases hD⟩) ?_)
 ·simp[TO7,List.replicate,TSub,VSub,ownV]
 ·refine .of_eq ?_;simp only[HO,hset,h0,ownO];by_cases i0:i=0
  ·subst i0;simp
  by_cases i2:i=2
  ·subst i2;simp
  simp[i0,i2]
 rintro⟨k,ep,out,e1,e3,e4⟩ ⟨hk,ho,bO⟩;simp only at hk ho bO ⊢;have q0:∀o e1 e3 e4,HO [.int .i64 hf,(Aa.slc 1 hs.length (Az (cI .i64) hs))] o e1 e3 e4 0=.box 1 [.int .i64 hf,(Aa.slc 1 hs.length (Az (cI .i64) hs))]:=fun _ _ _ _=>rfl;have q1:∀o e1 e3 e4,HO [.int .i64 hf,(Aa.slc 1 hs.length (Az (cI .i64) hs))] o e1 e3 e4 1=.gone e1:=fun _ _ _ _=>rfl;have q2:∀o e1 e3 e4,HO [.int .i64 hf,(Aa.slc 1 hs.length (Az (cI .i64) hs))] o e1 e3 e4 2=o:=fun _ _ _ _=>rfl;have q3:∀o e1 e3 e4,HO [.int .i64 hf,(Aa.slc 1 hs.length (Az (cI .i64) hs))] o e1 e3 e4 3=.gone e3:=fun _ _ _ _=>rfl;have q4:∀o e1 e3 e4,HO [.int .i64 hf,(Aa.slc 1 hs.length (Az (cI .i64) hs))] o e1 e3 e4 4=.gone e4:=fun _ _ _ _=>rfl;refine AW.sr (by simp[X5,TO7,List.replicate];rfl) ?_;refine .seq (AW.if' (decide ((k:Int)<(hs.length:Int))) (by simp) (fun e=>AW.skip ?_) (fun e=>.exit ?_))
 ·have hlt:k<hs.length:=by have:=Ip e;omega
  have cQ:hs[k]?=some hs[k]:=AG hlt;have aI:Az (cI .i64) hs k=[.int .i64 hs[k]]:=by rw[FH cQ];rfl
  have dO:hs.drop k=hs[k] :: hs.drop (k+1):=Nt hlt;rw[dO]at bO;generalize hs[k]=s at *;have bO:ck (A0 .i64 (hf+k)&&A0 .i64 (hf+k+1)) (bd (EG (hf+k) (hf+k+1) s) fun x=>bd (Hy out x) fun out=>ofL hf (k+1) (hs.drop (k+1)) out)=some fin:=bO;cases iC:(A0 .i64 (hf+(k:Int))&&A0 .i64 (hf+(k:Int)+1)) with
  |false=>rw[iC]at bO;cases bO
  |true =>
  rw[iC]at bO;cases hh:EG (hf+k) (hf+k+1) s with
  |none=>rw[hh]at bO;cases bO
  |some x =>
  rw[hh]at bO;have bO:bd (Hy out x) (fun out=>ofL hf (k+1) (hs.drop (k+1)) out)=some fin:=bO;cases hp:Hy out x with
  |none=>rw[hp]at bO;cases bO
  |some out1 =>
  rw[hp]at bO;have bO:ofL hf (k+1) (hs.drop (k+1)) out1=some fin:=bO;have sH:=hH _ _ _ _ hh;simp only[AE]at iC;have g1:inr .i64 (hf+(k:Int)):=by have:=iC.1;simp[A0]at this;exact this
  have g2:inr .i64 (hf+(k:Int)+1):=by have:=iC.2;simp[A0]at this;exact this
  have gu:inr .i64 ((k:Int)+1):=by show _/\_;omega
  simp only[AL];refine .seq (.block (AW.sr (by simp[X6,hlt,aI];rfl) ?_));refine .seq (.reg ((?_:areg EE Tryz.prog (Ob 0) _ (fun S'=>See EE S' ⟨TO7 [.int .i64 hf,(Aa.slc 1 hs.length (Az (cI .i64) hs))] (Aa.slc 1 hs.length (Az (cI .i64) hs)) (.vec 2 (ep+1) 0 (out.length+1)) hs.length k,HO [.int .i64 hf,(Aa.slc 1 hs.length (Az (cI .i64) hs))] (.vec (ep+1) 5 (out.length+1) (Az A9.cells (out++[x]))) (e1+1) e3 e4,[]⟩)).mono ?_))
  ·cases out with
   |nil =>
    simp[Ob,q0,q1,q2,ownV,ownO];refine⟨g1,g2,sH.call ?_⟩;simp[q0,q1,q2,q3,q4];refine .of_sub ⟨?_,fun i=>?_,rfl,fun D hD=>by cases hD⟩
    ·simp[TO7,List.replicate,TSub,VSub]
    ·simp only[hset];by_cases i2:i=2
     ·subst i2;refine .inr (.inr ⟨ep+1,5,1,_,Az A9.cells [x],by simp;rfl,rfl,fun j hj=>?_⟩);obtain rfl:j=0:=by omega
      simp
     by_cases i1:i=1
     ·subst i1;exact .inl (by simp;rfl)
     exact .of_eq (by simp[HO,i1,i2])
   |cons a m =>
    simp[Ob,q0,q1,q2,ownV,ownO];refine⟨g1,g2,sH.call ?_⟩;have d7:(m.length+1+1)*56<=140737488355328:=by simp at ho;omega
    simp[q0,q1,q2,q3,q4];refine⟨d7,.of_sub ⟨?_,fun i=>?_,rfl,fun D hD=>by cases hD⟩⟩
    ·simp[TO7,List.replicate,TSub,VSub]
    ·simp only[hset];by_cases i2:i=2
     ·subst i2;refine .inr (.inr ⟨ep+1,5,m.length+1+1,_,Az A9.cells (a :: m++[x]),by simp;rfl,rfl,fun j hj=>?_⟩);exact kzr9 j hj
     by_cases i1:i=1
     ·subst i1;exact .inl (by simp;rfl)
     exact .of_eq (by simp[HO,i1,i2])
  rintro S' kv;refine .see kv ?_;refine AW.sr (by simp[X7,TO7,q2,List.replicate];rfl) ?_;refine AW.sr (by simp[X8];rfl) ?_;rcases List.eq_nil_or_concat out with rfl|⟨m,a,rfl⟩
  ·cases hp;refine AW.if' false (by simp) (fun e=>by cases e) (fun _=>AW.skip ?_);simp only[AL,ablk];refine AW.r1 (by simp[Od];exact⟨gu,rfl⟩) ?_;simp only[AL];refine⟨⟨k+1,ep+1,[x],e1+1,e3,e4⟩,⟨by simp only;omega,by simp,bO⟩,by simp only;omega,.of_sub ⟨?_,fun i=>.refl _,rfl,fun D hD=>by cases hD⟩⟩;simp[TO7,List.replicate,TSub,VSub,ownV]
  ·rw[List.concat_eq_append]at *;have hp:bd (Hx a x) (fun p=>some (bif p.2 then(m++[a]).dropLast++[p.1] else m++[a]++[x]))=some out1:=by unfold Hy at hp;rw[List.getLast?_concat]at hp;exact hp
   cases cw:Hx a x with
   |none=>rw[cw]at hp;cases hp
   |some p =>
   rw[cw]at hp;have sB:=hB _ _ _ cw;have hp:out1=bif p.2 then m++[p.1] else m++[a]++[x]:=by have:=BI hp;rw[List.dropLast_concat]at this;exact this.symm
   have d7:(m++[a]).length=m.length+1:=by simp
   have o8:Az A9.cells (m++[a]++[x]) m.length=a.cells:=FH (by simp);have o9:Az A9.cells (m++[a]++[x]) (m.length+1)=x.cells:=FH (by simp);simp only[d7]at *;refine AW.if' true (by simp;omega) (fun _=>?_) (fun e=>by cases e);have fT:((m.length:Int)+1+1-2)=(m.length:Int):=by omega
   have kw:Az A9.cells (m++[a,x]) m.length=a.cells:=FH (by simp);have kx:Az A9.cells (m++[a,x]) (m.length+1)=x.cells:=FH (by simp);have iD:inr .i64 (m.length:Int):=by show _/\_;omega
   have kz:inr .i64 ((m.length:Int)+1):=by show _/\_;omega
   refine .seq (.draw ?_);simp[X9,q2,kzb,fT,kw,kx,kzx1,-A9.cells];refine⟨iD,by omega,by omega,kz,by omega,sB.cd (.refl _) ?_⟩;simp[q3,-A9.cells];refine⟨⟨rfl,kzx8 _⟩,by kernel_rfl,?_⟩;refine AW.sr (by simp[XA];rfl) ?_;cases dW:p.2
   ·rw[dW]at hp;have hp:out1=m++[a]++[x]:=hp;subst hp;refine AW.if' false (by simp[dW]) (fun e=>by cases e) (fun _=>AW.skip ?_);simp only[AL,ablk];refine AW.r1 (by simp[Od];exact⟨gu,rfl⟩) ?_;simp only[AL];refine⟨⟨k+1,ep+1,m++[a]++[x],e1+1,e3+1,e4⟩,⟨by simp only;omega,by simp;omega,bO⟩,by simp only;omega,.of_sub ⟨?_,fun i=>?_,rfl,fun D hD=>by cases hD⟩⟩
    ·rw[Xx];simp[TO7,List.replicate,TSub,VSub]
    ·rw[Xy];simp only[hset];by_cases i3:i=3
     ·subst i3;exact .inl (by simp;rfl)
     exact .of_eq (by simp[HO,i3])
   ·rw[dW]at hp;have hp:out1=m++[p.1]:=hp;subst hp;refine AW.if' true (by simp[dW]) (fun _=>?_) (fun e=>by cases e);refine .draw ?_;simp[XB,q2,q3,q4,fT,-A9.cells];refine⟨iD,by omega,⟨by omega,by omega⟩,by kernel_rfl,?_⟩;refine AW.r1 (by simp[Od];exact⟨gu,rfl⟩) ?_;simp only[AL];refine⟨⟨k+1,ep+2,m++[p.1],e1+1,e3+1,e4+1⟩,⟨by simp only;omega,by simp;omega,bO⟩,by simp only;omega,.of_sub ⟨?_,fun i=>?_,rfl,fun D hD=>by cases hD⟩⟩
    ·rw[Xx];simp[TO7,List.replicate,TSub,VSub]
    ·rw[Xy];simp only[hset];by_cases i2:i=2
     ·subst i2;refine .inr (.inr ⟨ep+2,5,m.length+1,_,Az A9.cells (m++[p.1]),by simp;rfl,rfl,fun j hj=>?_⟩);by_cases aV:j<m.length
      ·rw[Aq aV];unfold Az;rw[FU aV,FU aV]
      ·obtain rfl:j=m.length:=by omega
       rw[Ak aV,FH (x:=p.1) (by simp)];simp
     by_cases i4:i=4
     ·subst i4;exact .inl (by simp;rfl)
     by_cases i3:i=3
     ·subst i3;exact .inl (by simp;rfl)
     exact .of_eq (by simp[HO,i2,i3,i4])
 ·obtain rfl:k=hs.length:=by have:=of_decide_eq_false e;omega
  rw[List.drop_length]at bO;have bO:some out=some fin:=bO;obtain rfl:=BI bO;simp only[AL,ablk,BK]
  have fq:(2000<(out.length:Int)->r=([],2))/\(¬2000<(out.length:Int)->r=(out,0)):=by
   refine⟨fun h=>?_,fun h=>?_⟩
   ·rw[Bt h]at hF;cases hF;rfl
   ·rw[BE h]at hF;cases hF;rfl
  cases out with
  |nil =>rw[fq.2 (by simp)];refine .seq (AW.sr (by simp[Rm,TO7,ownV,ownO,List.replicate];rfl) ?_);refine AW.if' false (by simp) (fun e=>by cases e) (fun _=>AW.skip ?_);simp only[AL];refine AW.sr (by simp[Rn];rfl) ?_;refine .ret (.here (by simp[rs70]) rfl ?_);simp[rs70]
  |cons a m =>
   refine .fzc 2 (by simp[q2,ownO]) (by simp[q2,ownO]) ?_;refine .seq (AW.sr (by simp[Rm,TO7,ownV,ownO,q2,List.replicate];rfl) ?_);refine AW.if' (decide (2000<((a :: m).length:Int))) (by simp) (fun e=>?_) (fun e=>AW.skip ?_)
   ·rw[fq.1 (Ip e)];refine AW.sr (by simp[XC];rfl) ?_;refine .ret ?_;simp only[AL];refine .here (by simp[rs70]) rfl ?_;simp[rs70]
   ·rw[fq.2 (of_decide_eq_false e)];simp only[AL];refine AW.sr (by simp[Rn];rfl) ?_;refine .ret (.here (by simp[rs70]) rfl ?_);simp[rs70]
theorem XD{w:Au}{z:Aa}(hz:z∈w.cells):AC z:=by
 simp[Au.cells]at hz;rcases hz with rfl|rfl
 ·exact .int _ _
 ·exact Gc fun a z hz=>NW z hz
theorem kz01(H96:Av k96)(H97:Av k97)(H98:Av k98):Av k70:=by
 refine⟨by kernel_rfl,fun x y e=>?_⟩;have H:Pure EE Tryz.prog 70 [.agg x.cells] (.tup [slcV 5 A9.cells y.1,.int .i64 y.2]):=(of70 (fun w e h=>H96.still (x:=w) (y:=e) h (by kernel_rfl)) (fun a b s r h=>H97.still (x:=(a,b,s)) (y:=r) h (by kernel_rfl)) (fun a b r h=>H98.still (x:=(a,b)) (y:=r) h (by kernel_rfl)) x y e).wv fun v h' q=>⟨_,q,rfl⟩
 exact(Pure.still H hEE (fun z hz=>by
  rw[CM.1 hz];exact .agg _ fun z hz=>XD hz) (.tup _ fun z hz=>by
  rcases AM.1 hz with rfl|hz
  ·exact Gc fun a z hz=>kzlk hz
  ·rw[CM.1 hz];exact .int _ _)).cast (by kernel_rfl)
end Go.Am

