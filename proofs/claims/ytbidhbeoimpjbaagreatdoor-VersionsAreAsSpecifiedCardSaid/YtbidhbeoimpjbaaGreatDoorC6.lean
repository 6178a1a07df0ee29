/- Part C6: contracts of some functions of this seat. No condition. -/
import Derived.Test.YtbidhbeoimpjbaaGreatDoorC2
set_option linter.unusedSimpArgs false
set_option linter.unusedVariables false
set_option maxRecDepth 100000
namespace Go.Am
open Go.Proofs
attribute [local simp] areg aop dreg dop Ak.req Ag argU Ak.args BI Ak.unAll Req.val Req.when putT putH Bb ablk CA Ca Gc Ha BD MB MC MD ME MF MG MH MI MJ MK ML MM MN MO IntKind.bits EJ ARes.ok ARes.val F7 cut Ak.quiet
attribute [local simp] Gn Gp Gq Hm Gl Gm PA Ut Kd Ke
attribute [local simp] Iz Kb Kc Ms Mt look Gr zipA wm wh
attribute [local simp] MP MQ MR MS MT MU Gs Hn I3 MV MW w_fn MX MY MZ Bc I4 DS Kf Ai.ep Ai.plain Ai.owned
attribute [local simp] C0 Cs Mw Mx My Mz M0 M1 M2 M3 M4 M5 M6 M7 M8 M9 Mv AY lay Cr ldv DM Bh EG Di Ge Cn Aa.kind
attribute [local simp] Aa.one_int Aa.one_bool Aa.one_str Aa.one_nils Aa.one_slc Aa.one_vec Aa.one_ptr Aa.one_eptr Aa.one_cptr Aa.one_nilp Aa.one_fn Aa.one_nilfn Aa.one_mp Aa.one_nilmp
attribute [local simp] LG LH LI LJ LK LL LM LN LO LP LQ LR LS LT LU LV LW LX LY LZ Ma Mb Mc Md Me Mf Mg Mh Mi Mj Ml Mm Mn Mo Mp Mq
attribute [local simp] Ic cI cB cS cL Na Nb Nc Nd Nf Ng Nh Ni fzm fzh fzv fzl fz1 Nj Nk Nl Nm Nn List.range_succ Np Nq Nr Ns Nt Dy Ho Nu Nv
attribute [local simp] Nw
attribute [local simp] AJ.cells
attribute [local simp] AC.cells
attribute [local simp] AG.cells
attribute [local simp] Ac.cells
attribute [local simp] CD.cells
attribute [local simp] Aw.cells
attribute [local simp] CE.cells
attribute [local simp] CO.cells
attribute [local simp] AL.cells
attribute [local simp] BJ.cells
attribute [local simp] FK.cells
attribute [local simp] FL.cells
attribute [local simp] CP.cells
attribute [local simp] AZ.cells
attribute [local simp] CQ.cells
attribute [local simp] CF.cells
attribute [local simp] CR.cells
attribute [local simp] BO.cells
attribute [local simp] hset
section
variable {α:Type}{cf:α->List Aa}
theorem Nz{eq:α->α->Option Bool}{a b:α}{l r:List α}(h:cpA eq a (b :: l)=some r):∃q r',eq b a=some q/\cpA eq b l=some r'/\r=bif q then r' else b :: r':=by
 unfold cpA at h;cases hq:eq b a with
 |none=>rw[hq]at h;cases h
 |some q =>
  rw[hq]at h;cases hr:cpA eq b l with
  |none=>rw[hr]at h;cases h
  |some r'=>rw[hr]at h;exact⟨q,r',rfl,rfl,(BA h).symm⟩
theorem BF(h:Ax)(i:Nat)(o:Ai):hset h i o i=o:=Ap rfl
theorem BP(h:Ax)(i:Nat)(o o':Ai):hset (hset h i o) i o'=hset h i o':=by funext j;unfold hset;split<;>rfl
end
def T51(id ep n:Nat)(F:Aa)(k:Nat):List Aa:=.vec id ep 0 n :: F :: .top :: .top :: .nils :: .int .i64 k :: List.replicate 60 .top
def T51i(id ep n:Nat)(F:Aa)(k k0 j:Nat):List Aa:=.vec id ep 0 n :: F :: .top :: .top :: .nils :: .int .i64 k :: .vec id ep k0 (n-k0) :: .int .i64 j :: List.replicate 58 .top
theorem uK{α:Type}(cf:α->List Aa)(h8:∀x,(cf x).length=8)(h1:∀x,AY (cf x)=true)(eqf:α->α->Option Bool)(f:FuncId)(nb:Nat)(caps:List Aa)(heq:∀a b q,eqf a b=some q->Co Tryz.prog f=true/\B8 EE Tryz.prog f (fnArgs nb [.agg (cf a),.agg (cf b)] caps) (.bool q)) (l r:List α) (hr:cpF eqf l=some r) (aD:List.length l<=1000000) (h:Ax) (id ep:Nat) (hid:h id=ownO ep 8 cf l) :
  ATr EE Tryz.prog 51 [ownV id ep l,.fn f nb caps] h (fun v h'=>W v (slcV 8 cf r)/\∃e,h'=hset h id (.gone e)):=by
 obtain⟨c,cC,hc⟩:=ck51;refine ATr.of (fn:=Tryz.f51) rfl cC cr51 (hc 0) 64 rfl ?_;cases l with
 |nil =>
  obtain rfl:r=[]:=by cases hr;rfl
  refine AW.sr (by simp[QE,List.replicate];rfl) ?_;refine .seq (AW.sr (by simp[QF];rfl) ?_);refine AW.if' true (by simp) (fun _=>?_) (fun e=>by cases e);refine AW.sr (by simp[QG];rfl) ?_;refine .ret ?_;simp only[Bb,ablk];refine .here ?_ rfl ⟨?_,ep,?_⟩
  ·simp[rs51]
  ·simp[rs51]
  ·funext i;simp only[hset];split
   ·rename_i e;rw[e,hid];rfl
   ·rfl
 |cons a l =>
 generalize hL:a :: l=L at *;have hn:0<L.length:=by rw[<-hL];simp
 have hv:ownV id ep L=.vec id ep 0 L.length:=by subst hL;rfl
 have ho:ownO ep 8 cf L=.vec ep 8 L.length (Ay cf L):=by subst hL;rfl
 rw[hv];rw[ho]at hid;refine AW.sr (by simp[QE,List.replicate];rfl) ?_;refine .seq (AW.sr (by simp[QF,hid];rfl) ?_);refine AW.if' (decide ((L.length:Int)<2)) (by simp) (fun e=>?_) (fun e=>AW.skip ?_)
 ·have e:=GY e;obtain rfl:l=[]:=by subst hL;simp at e;exact Un (by omega)
  subst hL;obtain rfl:r=[a]:=by cases hr;rfl
  refine AW.sr (by simp[QG];rfl) ?_;refine .fz id (by simp[hid]) (by simp[hid]) ?_;refine .ret ?_;simp only[Bb,ablk];refine .here ?_ rfl ⟨?_,ep+1,?_⟩
  ·simp[rs51]
  ·simp[rs51,hid]
  ·simp[hid]
 have e2:=of_decide_eq_false e;have aP:∀k:Nat,k<=L.length->inr .i64 (k:Int):=fun k hk=>(by show _/\_;omega);have dw:∀k:Nat,k<=L.length+1->inr .i64 (k:Int):=fun k hk=>(by show _/\_;omega);have eB:∀x,List.take 8 (cf x)=cf x:=fun x=>by rw[<-h8 x,List.take_length]
 refine .seq (AW.sr (by simp[Wz];rfl) ?_);refine .block (.loop (fun m:Nat=>(⟨T51 id ep L.length (.fn f nb caps) (m+1),h,[]⟩:Au)) (fun m=>L.length-m) (fun m=>m+1<=L.length/\∃x rest,L[m]?=some x/\cpA eqf x (L.drop (m+1))=some rest/\L.take (m+1)++rest=r) 0 ⟨hn,?_⟩ (.of_sub ⟨?_,fun i=>.refl _,rfl,by simp⟩) ?_)
 ·subst hL;cases hq:cpA eqf a l with
  |none=>rw[cpF,hq]at hr;cases hr
  |some r' =>rw[cpF,hq]at hr;exact⟨a,r',rfl,hq,BA hr⟩
 ·simp[T51,List.replicate,TSub,VSub]
 rintro m ⟨hm,x,rest,hx,aL,c8⟩;refine .seq (AW.sr (by simp[W0,T51,List.replicate,hid];rfl) ?_);refine AW.if' (decide (((m+1:Nat):Int)<L.length)) (by simp) (fun e=>AW.skip ?_) (fun e=>.exit ?_);rotate_left
 ·have e:=of_decide_eq_false e;simp only[Bb,ablk,Bw];have hd:L.drop (m+1)=[]:=List.drop_eq_nil_of_le (by omega);rw[hd]at aL;obtain rfl:rest=[]:=by cases aL;rfl
  obtain rfl:r=L:=by rw[<-c8,List.append_nil,Ia (by omega)]
  refine AW.sr (by simp[W2];rfl) ?_;refine .fz id (by simp[hid]) (by simp[hid]) ?_;refine .ret (.here ?_ rfl ⟨?_,ep+1,?_⟩)
  ·simp[rs51]
  ·simp[rs51,hid]
  ·simp[hid]
 have e:=GY e;have hlt:m+1<L.length:=by omega
 have fe:L.drop (m+1)=L[m+1] :: L.drop (m+2):=Li hlt;generalize hb:L[m+1]=b at fe;have aW:L[m+1]?=some b:=by rw[AD hlt,hb]
 rw[fe]at aL;obtain⟨q,rest',hq,cN,rfl⟩:=Nz aL;have c1:Ay cf L (m+1)=cf b:=D4 aW;have c0:Ay cf L m=cf x:=D4 hx;obtain⟨en,aI⟩:=heq b x q hq;refine .seq (.block (AW.sd (by simp[W3,hid,c1,c0,eB];exact⟨⟨by omega,by omega⟩,by omega,aP m (by omega),by omega,en,Gk.pure _ aI ⟨by kernel_rfl,rfl⟩⟩) ?_));refine AW.if' q (by simp) (fun e3=>?_) (fun e3=>AW.skip ?_);rotate_left
 ·subst e3;refine AW.r1 (by simp[W4];exact⟨dw (m+1+1) (by omega),rfl⟩) ?_;refine⟨m+1,⟨by omega,b,rest',aW,cN,?_⟩,by omega,.of_sub ⟨?_,fun i=>.refl _,rfl,by simp⟩⟩
  ·rw[List.take_succ_eq_append_getElem hlt,hb,List.append_assoc];exact c8
  ·simp[T51,List.replicate,TSub,VSub]
 subst e3;have c8:L.take (m+1)++rest'=r:=c8;refine AW.sr (by simp[W5,hid];exact⟨by omega,rfl⟩) ?_;refine .seq (AW.sr (by simp[W6];rfl) ?_);have fQ:(L.take (m+1)).length=m+1:=by rw[Eg];omega
 refine .block (.loop (fun y:Nat×List α×(Nat->List Aa)=>(⟨T51i id ep L.length (.fn f nb caps) y.2.1.length (m+1) (y.1+1),hset h id (.vec ep 8 L.length y.2.2),[]⟩:Au)) (fun y=>L.length-y.1) (fun y=>m+1+y.1+1<=L.length/\y.2.1.length<=m+1+y.1/\(∀i z,y.2.1[i]?=some z->y.2.2 i=cf z)/\(∀i z,m+1+y.1<=i->L[i]?=some z->y.2.2 i=cf z)/\(∀i,i<L.length->(y.2.2 i).length=8)/\∃x rest,L[m+1+y.1]?=some x/\cpA eqf x (L.drop (m+1+y.1+1))=some rest/\y.2.1++rest=r) (0,L.take (m+1),Ay cf L) ⟨by simp;omega,by simp;omega,fun i z hz=>?_,fun i z _ hz=>D4 hz,fun i hi=>?_,b,rest',by simpa using aW,by simpa using cN,c8⟩ (.of_sub ⟨?_,fun i=>?_,rfl,by simp⟩) ?_)
 ·have hi:=(AN.1 hz).1;rw[fQ]at hi;rw[List.getElem?_take_of_lt hi]at hz;exact D4 hz
 ·show(Ay cf L i).length=8;rw[D4 (AD hi)];exact h8 _
 ·simp[T51i,List.replicate,TSub,VSub,fQ];omega
 ·simp only[hset];split
  ·rename_i e;rw[e,hid];exact .refl _
  ·exact .refl _
 rintro⟨j,out,g⟩ ⟨hj,gi,fF,dz,eH,x,rest,hx,aL,c8⟩;simp only at hj gi fF dz eH hx aL c8;refine .seq (AW.sr (by simp[W7,T51i,List.replicate,BF,BP];rfl) ?_);refine AW.if' (decide (((j+1:Nat):Int)<((L.length-(m+1):Nat):Int))) (by simp) (fun e=>AW.skip ?_) (fun e=>.exit ?_);rotate_left
 ·have e:=of_decide_eq_false e;simp only[Bb,ablk,Bw];have hd:L.drop (m+1+j+1)=[]:=List.drop_eq_nil_of_le (by omega);rw[hd]at aL;obtain rfl:rest=[]:=by cases aL;rfl
  obtain rfl:out=r:=by rw[<-c8,List.append_nil]
  have ic:out.length<=L.length:=by omega
  refine AW.sr (by simp[W8,BF,BP,Hc];(repeat' apply And.intro)<;>first|omega|rfl) ?_;refine AW.sr (by simp[W9,BF,BP,hset];exact⟨by omega,rfl⟩) ?_;refine .fz id (by simp[BF,BP,hset]) (by simp[BF,BP,hset]) ?_;refine .ret ?_;simp only[Bb,ablk];refine .here ?_ rfl ⟨?_,ep+1,?_⟩
  ·simp[rs51]
  ·simp[rs51,BF,BP,ic];intro k hk;rw[Aj (by omega),D4 (AD hk),fF k _ (AD hk)];exact .refl _
  ·simp[BF,BP]
 have e:=GY e;have dU:m+1+j+1<L.length:=by omega
 have fG:L.drop (m+1+j+1)=L[m+1+j+1] :: L.drop (m+1+j+2):=Li dU;generalize cR:L[m+1+j+1]=b2 at fG;have dV:L[m+1+j+1]?=some b2:=by rw[AD dU,cR]
 rw[fG]at aL;obtain⟨q2,rest2,gD,cO,rfl⟩:=Nz aL;have d1:g (m+1+(j+1))=cf b2:=dz _ _ (by omega) (by rw[<-dV];congr 1);have d0:g (m+1+j)=cf x:=dz _ _ (AB _) hx;obtain⟨en2,du⟩:=heq b2 x q2 gD;refine .seq (.block (AW.sd (by simp[WA,BF,BP,d1,d0,eB];refine⟨⟨by omega,by omega⟩,by omega,aP j (by omega),by omega,by omega,en2,Gk.pure _ du ?_⟩;simp;exact⟨by kernel_rfl,rfl⟩) ?_));cases q2 with
 |true =>refine AW.if' false (by simp) (fun e=>by cases e) (fun _=>AW.skip ?_);refine AW.r1 (by simp[QH];exact⟨dw (j+1+1) (by omega),rfl⟩) ?_;refine⟨(j+1,out,g),⟨by simp only;omega,by simp only;omega,fF,fun i z hi hz=>dz i z (by simp only at hi;omega) hz,eH,b2,rest2,dV,cO,c8⟩,by simp only;omega,.of_sub ⟨?_,fun i=>.refl _,rfl,by simp⟩⟩;simp[T51i,List.replicate,TSub,VSub]
 |false =>
  refine AW.if' true (by simp) (fun _=>?_) (fun e=>by cases e);refine AW.sr (by simp[WB,BF,BP,d1,eB,h8,h1];exact⟨⟨by omega,by omega⟩,by omega,by omega,rfl⟩) ?_;refine AW.r1 (by simp[WC];exact⟨dw (out.length+1) (by omega),rfl⟩) ?_;refine AW.r1 (by simp[QH];exact⟨dw (j+1+1) (by omega),rfl⟩) ?_;have js:List.drop 8 (g out.length)=[]:=List.drop_eq_nil_of_le (by rw[eH _ (by omega)];omega);refine⟨(j+1,out++[b2],fun k=>if k=out.length then cf b2++List.drop 8 (g out.length) else g k),⟨by simp only;omega,by simp;omega,fun i z hz=>?_,fun i z hi hz=>?_,fun i hi=>?_,b2,rest2,dV,cO,?_⟩,by simp only;omega,.of_sub ⟨?_,fun i=>.refl _,rfl,by simp⟩⟩
  ·simp only at hz |-;by_cases hk:i=out.length
   ·subst hk;simp at hz;rw[Ap rfl,js,List.append_nil,hz]
   ·rw[Aj hk];have hi:=(AN.1 hz).1;simp at hi;exact fF i z (by rw[<-hz,F0 (by omega)])
  ·simp only at hi |-;rw[Aj (by omega)];exact dz i z (by omega) hz
  ·simp only;split
   ·rw[js,List.append_nil];exact h8 _
   ·exact eH i hi
  ·simp only;rw[List.append_assoc];exact c8
  ·simp[T51i,List.replicate,TSub,VSub]
theorem QD{b:Bool}{α:Type}{x:Option α}{y:α}(h:ck b x=some y):b=true/\x=some y:=by
 cases b
 ·cases h
 ·exact⟨rfl,h⟩
noncomputable def z51:Zc:=⟨51,.us 3,[.fn 3],[false],fun l x=>WD l (fun a b=>x.g (a,b))⟩
theorem uL:ZcOk z51:=⟨by kernel_rfl,fun l x r h id ep hF hid=>by obtain⟨h1,h2⟩:=QD hF;refine ATr.wv (uK Ac.cells (fun _=>rfl) (fun _=>rfl) (fun a b=>x.g (a,b)) x.f x.nb x.caps (fun a b q hq=>x.ok (a,b) q hq) l r h2 (GY h1) h id ep hid) ?_;rintro v h' ⟨k1,k2⟩;exact⟨_,k1,rfl,k2⟩⟩
def T58(id ep n:Nat)(k:Nat):List Aa:=.vec id ep 0 n :: .top :: .nils :: .int .i64 k :: List.replicate 57 .top
def T58i(id ep n:Nat)(k k0 j:Nat):List Aa:=.vec id ep 0 n :: .top :: .nils :: .int .i64 k :: .vec id ep k0 (n-k0) :: .int .i64 j :: List.replicate 55 .top
theorem uM(l r:List Int)(hr:cpF (fun a b=>some (decide (a=b))) l=some r)(aD:List.length l<=1000000)(h:Ax)(id ep:Nat)(hid:h id=ownO ep 1 (cI .i64) l) :
  ATr EE Tryz.prog 58 [ownV id ep l] h (fun v h'=>W v (slcV 1 (cI .i64) r)/\∃e,h'=hset h id (.gone e)):=by
 obtain⟨c,cC,hc⟩:=ck58;refine ATr.of (fn:=Tryz.f58) rfl cC cr58 (hc 0) 60 rfl ?_;cases l with
 |nil =>
  obtain rfl:r=[]:=by cases hr;rfl
  refine AW.sr (by simp[QI,List.replicate];rfl) ?_;refine .seq (AW.sr (by simp[QJ];rfl) ?_);refine AW.if' true (by simp) (fun _=>?_) (fun e=>by cases e);refine AW.sr (by simp[QK];rfl) ?_;refine .ret ?_;simp only[Bb,ablk];refine .here ?_ rfl ⟨?_,ep,?_⟩
  ·simp[rs58]
  ·simp[rs58]
  ·funext i;simp only[hset];split
   ·rename_i e;rw[e,hid];rfl
   ·rfl
 |cons a l =>
 generalize hL:a :: l=L at *;have hn:0<L.length:=by rw[<-hL];simp
 have hv:ownV id ep L=.vec id ep 0 L.length:=by subst hL;rfl
 have ho:ownO ep 1 (cI .i64) L=.vec ep 1 L.length (Ay (cI .i64) L):=by subst hL;rfl
 rw[hv];rw[ho]at hid;refine AW.sr (by simp[QI,List.replicate];rfl) ?_;refine .seq (AW.sr (by simp[QJ,hid];rfl) ?_);refine AW.if' (decide ((L.length:Int)<2)) (by simp) (fun e=>?_) (fun e=>AW.skip ?_)
 ·have e:=GY e;obtain rfl:l=[]:=by subst hL;simp at e;exact Un (by omega)
  subst hL;obtain rfl:r=[a]:=by cases hr;rfl
  refine AW.sr (by simp[QK];rfl) ?_;refine .fz id (by simp[hid]) (by simp[hid]) ?_;refine .ret ?_;simp only[Bb,ablk];refine .here ?_ rfl ⟨?_,ep+1,?_⟩
  ·simp[rs58]
  ·simp[rs58,hid]
  ·simp[hid]
 have e2:=of_decide_eq_false e;have aP:∀k:Nat,k<=L.length->inr .i64 (k:Int):=fun k hk=>(by show _/\_;omega);have dw:∀k:Nat,k<=L.length+1->inr .i64 (k:Int):=fun k hk=>(by show _/\_;omega);refine .seq (AW.sr (by simp[WE];rfl) ?_);refine .block (.loop (fun m:Nat=>(⟨T58 id ep L.length (m+1),h,[]⟩:Au)) (fun m=>L.length-m) (fun m=>m+1<=L.length/\∃x rest,L[m]?=some x/\cpA (fun a b:Int=>some (decide (a=b))) x (L.drop (m+1))=some rest/\L.take (m+1)++rest=r) 0 ⟨hn,?_⟩ (.of_sub ⟨?_,fun i=>.refl _,rfl,by simp⟩) ?_)
 ·subst hL;cases hq:cpA (fun a b:Int=>some (decide (a=b))) a l with
  |none=>rw[cpF,hq]at hr;cases hr
  |some r' =>rw[cpF,hq]at hr;exact⟨a,r',rfl,hq,BA hr⟩
 ·simp[T58,List.replicate,TSub,VSub]
 rintro m ⟨hm,x,rest,hx,aL,c8⟩;refine .seq (AW.sr (by simp[WF,T58,List.replicate,hid];rfl) ?_);refine AW.if' (decide (((m+1:Nat):Int)<L.length)) (by simp) (fun e=>AW.skip ?_) (fun e=>.exit ?_);rotate_left
 ·have e:=of_decide_eq_false e;simp only[Bb,ablk,Bw];have hd:L.drop (m+1)=[]:=List.drop_eq_nil_of_le (by omega);rw[hd]at aL;obtain rfl:rest=[]:=by cases aL;rfl
  obtain rfl:r=L:=by rw[<-c8,List.append_nil,Ia (by omega)]
  refine AW.sr (by simp[WG];rfl) ?_;refine .fz id (by simp[hid]) (by simp[hid]) ?_;refine .ret (.here ?_ rfl ⟨?_,ep+1,?_⟩)
  ·simp[rs58]
  ·simp[rs58,hid]
  ·simp[hid]
 have e:=GY e;have hlt:m+1<L.length:=by omega
 have fe:L.drop (m+1)=L[m+1] :: L.drop (m+2):=Li hlt;generalize hb:L[m+1]=b at fe;have aW:L[m+1]?=some b:=by rw[AD hlt,hb]
 rw[fe]at aL;obtain⟨q,rest',hq,cN,rfl⟩:=Nz aL;have c1:Ay (cI .i64) L (m+1)=[.int .i64 b]:=D4 aW;have c0:Ay (cI .i64) L m=[.int .i64 x]:=D4 hx;obtain rfl:decide (b=x)=q:=BA hq;refine .seq (.block (AW.sd (by simp[WH,hid,c1,c0];exact⟨⟨by omega,by omega⟩,by omega,aP m (by omega),by omega,by kernel_rfl,rfl⟩) ?_));refine AW.if' (decide (b=x)) (by simp) (fun e3=>?_) (fun e3=>AW.skip ?_);rotate_left
 ·rw[e3]at c8;refine AW.r1 (by simp[WI];exact⟨dw (m+1+1) (by omega),rfl⟩) ?_;refine⟨m+1,⟨by omega,b,rest',aW,cN,?_⟩,by omega,.of_sub ⟨?_,fun i=>.refl _,rfl,by simp⟩⟩
  ·rw[List.take_succ_eq_append_getElem hlt,hb,List.append_assoc];exact c8
  ·simp[T58,List.replicate,TSub,VSub]
 rw[e3]at c8;have c8:L.take (m+1)++rest'=r:=c8;refine AW.sr (by simp[WJ,hid];exact⟨by omega,rfl⟩) ?_;refine .seq (AW.sr (by simp[WK];rfl) ?_);have fQ:(L.take (m+1)).length=m+1:=by rw[Eg];omega
 refine .block (.loop (fun y:Nat×List Int×(Nat->List Aa)=>(⟨T58i id ep L.length y.2.1.length (m+1) (y.1+1),hset h id (.vec ep 1 L.length y.2.2),[]⟩:Au)) (fun y=>L.length-y.1) (fun y=>m+1+y.1+1<=L.length/\y.2.1.length<=m+1+y.1/\(∀i z,y.2.1[i]?=some z->y.2.2 i=[.int .i64 z])/\(∀i z,m+1+y.1<=i->L[i]?=some z->y.2.2 i=[.int .i64 z])/\(∀i,i<L.length->(y.2.2 i).length=1)/\∃x rest,L[m+1+y.1]?=some x/\cpA (fun a b:Int=>some (decide (a=b))) x (L.drop (m+1+y.1+1))=some rest/\y.2.1++rest=r) (0,L.take (m+1),Ay (cI .i64) L) ⟨by simp;omega,by simp;omega,fun i z hz=>?_,fun i z _ hz=>D4 hz,fun i hi=>?_,b,rest',by simpa using aW,by simpa using cN,c8⟩ (.of_sub ⟨?_,fun i=>?_,rfl,by simp⟩) ?_)
 ·have hi:=(AN.1 hz).1;rw[fQ]at hi;rw[List.getElem?_take_of_lt hi]at hz;exact D4 hz
 ·show(Ay (cI .i64) L i).length=1;rw[D4 (AD hi)];rfl
 ·simp[T58i,List.replicate,TSub,VSub,fQ];omega
 ·simp only[hset];split
  ·rename_i e;rw[e,hid];exact .refl _
  ·exact .refl _
 rintro⟨j,out,g⟩ ⟨hj,gi,fF,dz,eH,x,rest,hx,aL,c8⟩;simp only at hj gi fF dz eH hx aL c8;refine .seq (AW.sr (by simp[WL,T58i,List.replicate,BF,BP];rfl) ?_);refine AW.if' (decide (((j+1:Nat):Int)<((L.length-(m+1):Nat):Int))) (by simp) (fun e=>AW.skip ?_) (fun e=>.exit ?_);rotate_left
 ·have e:=of_decide_eq_false e;simp only[Bb,ablk,Bw];have hd:L.drop (m+1+j+1)=[]:=List.drop_eq_nil_of_le (by omega);rw[hd]at aL;obtain rfl:rest=[]:=by cases aL;rfl
  obtain rfl:out=r:=by rw[<-c8,List.append_nil]
  have ic:out.length<=L.length:=by omega
  refine AW.sr (by simp[WM,BF,BP,Hc];(repeat' apply And.intro)<;>first|omega|rfl) ?_;refine AW.sr (by simp[WN,BF,BP,hset];exact⟨by omega,rfl⟩) ?_;refine .fz id (by simp[BF,BP,hset]) (by simp[BF,BP,hset]) ?_;refine .ret ?_;simp only[Bb,ablk];refine .here ?_ rfl ⟨?_,ep+1,?_⟩
  ·simp[rs58]
  ·simp[rs58,BF,BP,ic];intro k hk;rw[Aj (by omega),D4 (AD hk),fF k _ (AD hk)];exact .refl _
  ·simp[BF,BP]
 have e:=GY e;have dU:m+1+j+1<L.length:=by omega
 have fG:L.drop (m+1+j+1)=L[m+1+j+1] :: L.drop (m+1+j+2):=Li dU;generalize cR:L[m+1+j+1]=b2 at fG;have dV:L[m+1+j+1]?=some b2:=by rw[AD dU,cR]
 rw[fG]at aL;obtain⟨q2,rest2,gD,cO,rfl⟩:=Nz aL;have d1:g (m+1+(j+1))=[.int .i64 b2]:=dz _ _ (by omega) (by rw[<-dV];congr 1);have d0:g (m+1+j)=[.int .i64 x]:=dz _ _ (AB _) hx;obtain rfl:decide (b2=x)=q2:=BA gD;refine .seq (.block (AW.sd (by simp[WP,BF,BP,d1,d0];exact⟨⟨by omega,by omega⟩,by omega,aP j (by omega),by omega,by omega,by kernel_rfl,rfl⟩) ?_));cases kf:decide (b2=x) with
 |true =>rw[kf]at c8;refine AW.if' false (by simp[kf]) (fun e=>by cases e) (fun _=>AW.skip ?_);refine AW.r1 (by simp[QL];exact⟨dw (j+1+1) (by omega),rfl⟩) ?_;refine⟨(j+1,out,g),⟨by simp only;omega,by simp only;omega,fF,fun i z hi hz=>dz i z (by simp only at hi;omega) hz,eH,b2,rest2,dV,cO,c8⟩,by simp only;omega,.of_sub ⟨?_,fun i=>.refl _,rfl,by simp⟩⟩;simp[T58i,List.replicate,TSub,VSub]
 |false =>
  rw[kf]at c8;refine AW.if' true (by simp[kf]) (fun _=>?_) (fun e=>by cases e);refine AW.sr (by simp[WQ,BF,BP,d1];exact⟨⟨by omega,by omega⟩,by omega,by omega,rfl⟩) ?_;refine AW.r1 (by simp[WR];exact⟨dw (out.length+1) (by omega),rfl⟩) ?_;refine AW.r1 (by simp[QL];exact⟨dw (j+1+1) (by omega),rfl⟩) ?_
  have js:(g out.length).tail=[]:=by
   have:=eH out.length (by omega);cases hg:g out.length with
   |nil=>rfl
   |cons a l=>rw[hg]at this;simp at this;simp[this]
  refine⟨(j+1,out++[b2],fun k=>if k=out.length then .int .i64 b2 :: (g out.length).tail else g k),⟨by simp only;omega,by simp;omega,fun i z hz=>?_,fun i z hi hz=>?_,fun i hi=>?_,b2,rest2,dV,cO,?_⟩,by simp only;omega,.of_sub ⟨?_,fun i=>.refl _,rfl,by simp⟩⟩
  ·simp only at hz |-;by_cases hk:i=out.length
   ·subst hk;simp at hz;rw[Ap rfl,js,hz]
   ·rw[Aj hk];have hi:=(AN.1 hz).1;simp at hi;exact fF i z (by rw[<-hz,F0 (by omega)])
  ·simp only at hi |-;rw[Aj (by omega)];exact dz i z (by omega) hz
  ·simp only;split
   ·rw[js];rfl
   ·exact eH i hi
  ·simp only;rw[List.append_assoc];exact c8
  ·simp[T58i,List.replicate,TSub,VSub]
def z58:Zc:=⟨58,.int .i64,[],[],fun l _=>WS l⟩
theorem uN:ZcOk z58:=⟨by kernel_rfl,fun l x r h id ep hF hid=>by obtain⟨h1,h2⟩:=QD hF;refine ATr.wv (uM l r h2 (GY h1) h id ep hid) ?_;rintro v h' ⟨k1,k2⟩;exact⟨_,k1,rfl,k2⟩⟩
end Go.Am

