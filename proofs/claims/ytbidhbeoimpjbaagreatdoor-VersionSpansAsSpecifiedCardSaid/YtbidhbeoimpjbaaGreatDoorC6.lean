/- Part C6: contracts of some functions of this seat. No condition. -/
import Derived.Test.YtbidhbeoimpjbaaGreatDoorC2
set_option linter.unusedSimpArgs false
set_option linter.unusedVariables false
set_option maxRecDepth 100000
namespace Go.Am
open Go.Proofs
attribute [local simp] areg aop dreg dop Ak.req Ag argU Ak.args BL Ak.unAll Req.val Req.when putT putH Bc ablk CA Cf Gf GZ BG MN MO MP MQ MR MS MT MU MV MW MX MY MZ Na IntKind.bits EK ARes.ok ARes.val F5 cut Ak.quiet
attribute [local simp] Gq Gr Gs Hl Gn Gp PS U7 Ko Kp
attribute [local simp] Iy Kl Km M4 M5 look Gt zipA wm wh
attribute [local simp] Nb Nc Nd Nf Ng Nh Gu Gv I0 Ni Nj w_fn Nk Nl Nm Bd I3 DS Kq Ai.ep Ai.plain Ai.owned
attribute [local simp] C0 Cs M8 M9 MA MB MC MD ME MF MG MH MI MJ MK ML M7 AZ lay Cr ldv DM Bj EH Dh Gg Co Aa.kind
attribute [local simp] Aa.one_int Aa.one_bool Aa.one_str Aa.one_nils Aa.one_slc Aa.one_vec Aa.one_ptr Aa.one_eptr Aa.one_cptr Aa.one_nilp Aa.one_fn Aa.one_nilfn Aa.one_mp Aa.one_nilmp
attribute [local simp] LS LT LU LV LW LX LY LZ Ma Mb Mc Md Me Mf Mg Mh Mi Mj Ml Mm Mn Mo Mp Mq Mr Ms Mt Mu Mv Mw Mx My Mz M0 M1 M2
attribute [local simp] Ib cI cB cS cL Nn Np Nq Nr Ns Nt Nu Nv fzm fzh fzv fzl fz1 Nw Nx Ny Nz N0 List.range_succ N2 N3 N4 N5 N6 Dx Hm N7 N8
attribute [local simp] N9
attribute [local simp] AJ.cells
attribute [local simp] AF.cells
attribute [local simp] AH.cells
attribute [local simp] Ac.cells
attribute [local simp] CD.cells
attribute [local simp] Au.cells
attribute [local simp] BC.cells
attribute [local simp] CP.cells
attribute [local simp] AB.cells
attribute [local simp] BM.cells
attribute [local simp] FI.cells
attribute [local simp] FJ.cells
attribute [local simp] Bw.cells
attribute [local simp] Ba.cells
attribute [local simp] CQ.cells
attribute [local simp] CE.cells
attribute [local simp] CR.cells
attribute [local simp] BT.cells
attribute [local simp] hset
section
variable {α:Type}{cf:α->List Aa}
theorem NB{eq:α->α->Option Bool}{a b:α}{l r:List α}(h:cpA eq a (b :: l)=some r):∃q r',eq b a=some q/\cpA eq b l=some r'/\r=bif q then r' else b :: r':=by
 unfold cpA at h;cases hq:eq b a with
 |none=>rw[hq]at h;cases h
 |some q =>
  rw[hq]at h;cases hr:cpA eq b l with
  |none=>rw[hr]at h;cases h
  |some r'=>rw[hr]at h;exact⟨q,r',rfl,rfl,(BD h).symm⟩
theorem BI(h:Ay)(i:Nat)(o:Ai):hset h i o i=o:=Ap rfl
theorem BU(h:Ay)(i:Nat)(o o':Ai):hset (hset h i o) i o'=hset h i o':=by funext j;unfold hset;split<;>rfl
end
def T51(id ep n:Nat)(F:Aa)(k:Nat):List Aa:=.vec id ep 0 n :: F :: .top :: .top :: .nils :: .int .i64 k :: List.replicate 60 .top
def T51i(id ep n:Nat)(F:Aa)(k k0 j:Nat):List Aa:=.vec id ep 0 n :: F :: .top :: .top :: .nils :: .int .i64 k :: .vec id ep k0 (n-k0) :: .int .i64 j :: List.replicate 58 .top
theorem jz9q{α:Type}(cf:α->List Aa)(h8:∀x,(cf x).length=8)(h1:∀x,AZ (cf x)=true)(eqf:α->α->Option Bool)(f:FuncId)(nb:Nat)(caps:List Aa)(heq:∀a b q,eqf a b=some q->Cp Tryz.prog f=true/\B8 EE Tryz.prog f (fnArgs nb [.agg (cf a),.agg (cf b)] caps) (.bool q)) (l r:List α) (hr:cpF eqf l=some r) (aD:List.length l<=1000000) (h:Ay) (id ep:Nat) (hid:h id=ownO ep 8 cf l) :
  ATr EE Tryz.prog 51 [ownV id ep l,.fn f nb caps] h (fun v h'=>W v (slcV 8 cf r)/\∃e,h'=hset h id (.gone e)):=by
 obtain⟨c,c6,hc⟩:=ck51;refine ATr.of (fn:=Tryz.f51) rfl c6 cr51 (hc 0) 64 rfl ?_;cases l with
 |nil =>
  obtain rfl:r=[]:=by cases hr;rfl
  refine AW.sr (by simp[QW,List.replicate];rfl) ?_;refine .seq (AW.sr (by simp[QX];rfl) ?_);refine AW.if' true (by simp) (fun _=>?_) (fun e=>by cases e);refine AW.sr (by simp[QY];rfl) ?_;refine .ret ?_;simp only[Bc,ablk];refine .here ?_ rfl ⟨?_,ep,?_⟩
  ·simp[rs51]
  ·simp[rs51]
  ·funext i;simp only[hset];split
   ·rename_i e;rw[e,hid];rfl
   ·rfl
 |cons a l =>
 generalize hL:a :: l=L at *;have hn:0<L.length:=by rw[<-hL];simp
 have hv:ownV id ep L=.vec id ep 0 L.length:=by subst hL;rfl
 have ho:ownO ep 8 cf L=.vec ep 8 L.length (Az cf L):=by subst hL;rfl
 rw[hv];rw[ho]at hid;refine AW.sr (by simp[QW,List.replicate];rfl) ?_;refine .seq (AW.sr (by simp[QX,hid];rfl) ?_);refine AW.if' (decide ((L.length:Int)<2)) (by simp) (fun e=>?_) (fun e=>AW.skip ?_)
 ·have e:=GX e;obtain rfl:l=[]:=by subst hL;simp at e;exact Uy (by omega)
  subst hL;obtain rfl:r=[a]:=by cases hr;rfl
  refine AW.sr (by simp[QY];rfl) ?_;refine .fz id (by simp[hid]) (by simp[hid]) ?_;refine .ret ?_;simp only[Bc,ablk];refine .here ?_ rfl ⟨?_,ep+1,?_⟩
  ·simp[rs51]
  ·simp[rs51,hid]
  ·simp[hid]
 have e2:=of_decide_eq_false e;have aP:∀k:Nat,k<=L.length->inr .i64 (k:Int):=fun k hk=>(by show _/\_;omega);have dt:∀k:Nat,k<=L.length+1->inr .i64 (k:Int):=fun k hk=>(by show _/\_;omega);have ew:∀x,List.take 8 (cf x)=cf x:=fun x=>by rw[<-h8 x,List.take_length]
 refine .seq (AW.sr (by simp[WC];rfl) ?_);refine .block (.loop (fun m:Nat=>(⟨T51 id ep L.length (.fn f nb caps) (m+1),h,[]⟩:Aw)) (fun m=>L.length-m) (fun m=>m+1<=L.length/\∃x rest,L[m]?=some x/\cpA eqf x (L.drop (m+1))=some rest/\L.take (m+1)++rest=r) 0 ⟨hn,?_⟩ (.of_sub ⟨?_,fun i=>.refl _,rfl,by simp⟩) ?_)
 ·subst hL;cases hq:cpA eqf a l with
  |none=>rw[cpF,hq]at hr;cases hr
  |some r' =>rw[cpF,hq]at hr;exact⟨a,r',rfl,hq,BD hr⟩
 ·simp[T51,List.replicate,TSub,VSub]
 rintro m ⟨hm,x,rest,hx,aL,cy⟩;refine .seq (AW.sr (by simp[WD,T51,List.replicate,hid];rfl) ?_);refine AW.if' (decide (((m+1:Nat):Int)<L.length)) (by simp) (fun e=>AW.skip ?_) (fun e=>.exit ?_);rotate_left
 ·have e:=of_decide_eq_false e;simp only[Bc,ablk,Bz];have hd:L.drop (m+1)=[]:=List.drop_eq_nil_of_le (by omega);rw[hd]at aL;obtain rfl:rest=[]:=by cases aL;rfl
  obtain rfl:r=L:=by rw[<-cy,List.append_nil,HZ (by omega)]
  refine AW.sr (by simp[WE];rfl) ?_;refine .fz id (by simp[hid]) (by simp[hid]) ?_;refine .ret (.here ?_ rfl ⟨?_,ep+1,?_⟩)
  ·simp[rs51]
  ·simp[rs51,hid]
  ·simp[hid]
 have e:=GX e;have hlt:m+1<L.length:=by omega
 have fb:L.drop (m+1)=L[m+1] :: L.drop (m+2):=JK hlt;generalize hb:L[m+1]=b at fb;have aW:L[m+1]?=some b:=by rw[AD hlt,hb]
 rw[fb]at aL;obtain⟨q,rest',hq,cK,rfl⟩:=NB aL;have c1:Az cf L (m+1)=cf b:=D3 aW;have c0:Az cf L m=cf x:=D3 hx;obtain⟨en,aI⟩:=heq b x q hq;refine .seq (.block (AW.sd (by simp[WF,hid,c1,c0,ew];exact⟨⟨by omega,by omega⟩,by omega,aP m (by omega),by omega,en,Gm.pure _ aI ⟨by kernel_rfl,rfl⟩⟩) ?_));refine AW.if' q (by simp) (fun e3=>?_) (fun e3=>AW.skip ?_);rotate_left
 ·subst e3;refine AW.r1 (by simp[WG];exact⟨dt (m+1+1) (by omega),rfl⟩) ?_;refine⟨m+1,⟨by omega,b,rest',aW,cK,?_⟩,by omega,.of_sub ⟨?_,fun i=>.refl _,rfl,by simp⟩⟩
  ·rw[List.take_succ_eq_append_getElem hlt,hb,List.append_assoc];exact cy
  ·simp[T51,List.replicate,TSub,VSub]
 subst e3;have cy:L.take (m+1)++rest'=r:=cy;refine AW.sr (by simp[WH,hid];exact⟨by omega,rfl⟩) ?_;refine .seq (AW.sr (by simp[WI];rfl) ?_);have fY:(L.take (m+1)).length=m+1:=by rw[Eg];omega
 refine .block (.loop (fun y:Nat×List α×(Nat->List Aa)=>(⟨T51i id ep L.length (.fn f nb caps) y.2.1.length (m+1) (y.1+1),hset h id (.vec ep 8 L.length y.2.2),[]⟩:Aw)) (fun y=>L.length-y.1) (fun y=>m+1+y.1+1<=L.length/\y.2.1.length<=m+1+y.1/\(∀i z,y.2.1[i]?=some z->y.2.2 i=cf z)/\(∀i z,m+1+y.1<=i->L[i]?=some z->y.2.2 i=cf z)/\(∀i,i<L.length->(y.2.2 i).length=8)/\∃x rest,L[m+1+y.1]?=some x/\cpA eqf x (L.drop (m+1+y.1+1))=some rest/\y.2.1++rest=r) (0,L.take (m+1),Az cf L) ⟨by simp;omega,by simp;omega,fun i z hz=>?_,fun i z _ hz=>D3 hz,fun i hi=>?_,b,rest',by simpa using aW,by simpa using cK,cy⟩ (.of_sub ⟨?_,fun i=>?_,rfl,by simp⟩) ?_)
 ·have hi:=(AM.1 hz).1;rw[fY]at hi;rw[List.getElem?_take_of_lt hi]at hz;exact D3 hz
 ·show(Az cf L i).length=8;rw[D3 (AD hi)];exact h8 _
 ·simp[T51i,List.replicate,TSub,VSub,fY];omega
 ·simp only[hset];split
  ·rename_i e;rw[e,hid];exact .refl _
  ·exact .refl _
 rintro⟨j,out,g⟩ ⟨hj,eW,fB,dv,eE,x,rest,hx,aL,cy⟩;simp only at hj eW fB dv eE hx aL cy;refine .seq (AW.sr (by simp[WJ,T51i,List.replicate,BI,BU];rfl) ?_);refine AW.if' (decide (((j+1:Nat):Int)<((L.length-(m+1):Nat):Int))) (by simp) (fun e=>AW.skip ?_) (fun e=>.exit ?_);rotate_left
 ·have e:=of_decide_eq_false e;simp only[Bc,ablk,Bz];have hd:L.drop (m+1+j+1)=[]:=List.drop_eq_nil_of_le (by omega);rw[hd]at aL;obtain rfl:rest=[]:=by cases aL;rfl
  obtain rfl:out=r:=by rw[<-cy,List.append_nil]
  have gU:out.length<=L.length:=by omega
  refine AW.sr (by simp[WK,BI,BU,Hb];(repeat' apply And.intro)<;>first|omega|rfl) ?_;refine AW.sr (by simp[WL,BI,BU,hset];exact⟨by omega,rfl⟩) ?_;refine .fz id (by simp[BI,BU,hset]) (by simp[BI,BU,hset]) ?_;refine .ret ?_;simp only[Bc,ablk];refine .here ?_ rfl ⟨?_,ep+1,?_⟩
  ·simp[rs51]
  ·simp[rs51,BI,BU,gU];intro k hk;rw[Aj (by omega),D3 (AD hk),fB k _ (AD hk)];exact .refl _
  ·simp[BI,BU]
 have e:=GX e;have dN:m+1+j+1<L.length:=by omega
 have fC:L.drop (m+1+j+1)=L[m+1+j+1] :: L.drop (m+1+j+2):=JK dN;generalize cP:L[m+1+j+1]=b2 at fC;have dO:L[m+1+j+1]?=some b2:=by rw[AD dN,cP]
 rw[fC]at aL;obtain⟨q2,rest2,gv,cM,rfl⟩:=NB aL;have d1:g (m+1+(j+1))=cf b2:=dv _ _ (by omega) (by rw[<-dO];congr 1);have d0:g (m+1+j)=cf x:=dv _ _ (AC _) hx;obtain⟨en2,dm⟩:=heq b2 x q2 gv;refine .seq (.block (AW.sd (by simp[WM,BI,BU,d1,d0,ew];refine⟨⟨by omega,by omega⟩,by omega,aP j (by omega),by omega,by omega,en2,Gm.pure _ dm ?_⟩;simp;exact⟨by kernel_rfl,rfl⟩) ?_));cases q2 with
 |true =>refine AW.if' false (by simp) (fun e=>by cases e) (fun _=>AW.skip ?_);refine AW.r1 (by simp[QZ];exact⟨dt (j+1+1) (by omega),rfl⟩) ?_;refine⟨(j+1,out,g),⟨by simp only;omega,by simp only;omega,fB,fun i z hi hz=>dv i z (by simp only at hi;omega) hz,eE,b2,rest2,dO,cM,cy⟩,by simp only;omega,.of_sub ⟨?_,fun i=>.refl _,rfl,by simp⟩⟩;simp[T51i,List.replicate,TSub,VSub]
 |false =>
  refine AW.if' true (by simp) (fun _=>?_) (fun e=>by cases e);refine AW.sr (by simp[WN,BI,BU,d1,ew,h8,h1];exact⟨⟨by omega,by omega⟩,by omega,by omega,rfl⟩) ?_;refine AW.r1 (by simp[WP];exact⟨dt (out.length+1) (by omega),rfl⟩) ?_;refine AW.r1 (by simp[QZ];exact⟨dt (j+1+1) (by omega),rfl⟩) ?_;have jj:List.drop 8 (g out.length)=[]:=List.drop_eq_nil_of_le (by rw[eE _ (by omega)];omega);refine⟨(j+1,out++[b2],fun k=>if k=out.length then cf b2++List.drop 8 (g out.length) else g k),⟨by simp only;omega,by simp;omega,fun i z hz=>?_,fun i z hi hz=>?_,fun i hi=>?_,b2,rest2,dO,cM,?_⟩,by simp only;omega,.of_sub ⟨?_,fun i=>.refl _,rfl,by simp⟩⟩
  ·simp only at hz ⊢;by_cases hk:i=out.length
   ·subst hk;simp at hz;rw[Ap rfl,jj,List.append_nil,hz]
   ·rw[Aj hk];have hi:=(AM.1 hz).1;simp at hi;exact fB i z (by rw[<-hz,Fy (by omega)])
  ·simp only at hi ⊢;rw[Aj (by omega)];exact dv i z (by omega) hz
  ·simp only;split
   ·rw[jj,List.append_nil];exact h8 _
   ·exact eE i hi
  ·simp only;rw[List.append_assoc];exact cy
  ·simp[T51i,List.replicate,TSub,VSub]
theorem QV{b:Bool}{α:Type}{x:Option α}{y:α}(h:ck b x=some y):b=true/\x=some y:=by
 cases b
 ·cases h
 ·exact⟨rfl,h⟩
noncomputable def z51:Zc:=⟨51,.us 3,[.fn 3],[false],fun l x=>WQ l (fun a b=>x.g (a,b))⟩
theorem kzbk:ZcOk z51:=⟨by kernel_rfl,fun l x r h id ep hF hid=>by obtain⟨h1,h2⟩:=QV hF;refine ATr.wv (jz9q Ac.cells (fun _=>rfl) (fun _=>rfl) (fun a b=>x.g (a,b)) x.f x.nb x.caps (fun a b q hq=>x.ok (a,b) q hq) l r h2 (GX h1) h id ep hid) ?_;rintro v h' ⟨k1,k2⟩;exact⟨_,k1,rfl,k2⟩⟩
def T58(id ep n:Nat)(k:Nat):List Aa:=.vec id ep 0 n :: .top :: .nils :: .int .i64 k :: List.replicate 57 .top
def T58i(id ep n:Nat)(k k0 j:Nat):List Aa:=.vec id ep 0 n :: .top :: .nils :: .int .i64 k :: .vec id ep k0 (n-k0) :: .int .i64 j :: List.replicate 55 .top
theorem jz92(l r:List Int)(hr:cpF (fun a b=>some (decide (a=b))) l=some r)(aD:List.length l<=1000000)(h:Ay)(id ep:Nat)(hid:h id=ownO ep 1 (cI .i64) l) :
  ATr EE Tryz.prog 58 [ownV id ep l] h (fun v h'=>W v (slcV 1 (cI .i64) r)/\∃e,h'=hset h id (.gone e)):=by
 obtain⟨c,c6,hc⟩:=ck58;refine ATr.of (fn:=Tryz.f58) rfl c6 cr58 (hc 0) 60 rfl ?_;cases l with
 |nil =>
  obtain rfl:r=[]:=by cases hr;rfl
  refine AW.sr (by simp[Ra,List.replicate];rfl) ?_;refine .seq (AW.sr (by simp[Rb];rfl) ?_);refine AW.if' true (by simp) (fun _=>?_) (fun e=>by cases e);refine AW.sr (by simp[Rc];rfl) ?_;refine .ret ?_;simp only[Bc,ablk];refine .here ?_ rfl ⟨?_,ep,?_⟩
  ·simp[rs58]
  ·simp[rs58]
  ·funext i;simp only[hset];split
   ·rename_i e;rw[e,hid];rfl
   ·rfl
 |cons a l =>
 generalize hL:a :: l=L at *;have hn:0<L.length:=by rw[<-hL];simp
 have hv:ownV id ep L=.vec id ep 0 L.length:=by subst hL;rfl
 have ho:ownO ep 1 (cI .i64) L=.vec ep 1 L.length (Az (cI .i64) L):=by subst hL;rfl
 rw[hv];rw[ho]at hid;refine AW.sr (by simp[Ra,List.replicate];rfl) ?_;refine .seq (AW.sr (by simp[Rb,hid];rfl) ?_);refine AW.if' (decide ((L.length:Int)<2)) (by simp) (fun e=>?_) (fun e=>AW.skip ?_)
 ·have e:=GX e;obtain rfl:l=[]:=by subst hL;simp at e;exact Uy (by omega)
  subst hL;obtain rfl:r=[a]:=by cases hr;rfl
  refine AW.sr (by simp[Rc];rfl) ?_;refine .fz id (by simp[hid]) (by simp[hid]) ?_;refine .ret ?_;simp only[Bc,ablk];refine .here ?_ rfl ⟨?_,ep+1,?_⟩
  ·simp[rs58]
  ·simp[rs58,hid]
  ·simp[hid]
 have e2:=of_decide_eq_false e;have aP:∀k:Nat,k<=L.length->inr .i64 (k:Int):=fun k hk=>(by show _/\_;omega);have dt:∀k:Nat,k<=L.length+1->inr .i64 (k:Int):=fun k hk=>(by show _/\_;omega);refine .seq (AW.sr (by simp[WR];rfl) ?_);refine .block (.loop (fun m:Nat=>(⟨T58 id ep L.length (m+1),h,[]⟩:Aw)) (fun m=>L.length-m) (fun m=>m+1<=L.length/\∃x rest,L[m]?=some x/\cpA (fun a b:Int=>some (decide (a=b))) x (L.drop (m+1))=some rest/\L.take (m+1)++rest=r) 0 ⟨hn,?_⟩ (.of_sub ⟨?_,fun i=>.refl _,rfl,by simp⟩) ?_)
 ·subst hL;cases hq:cpA (fun a b:Int=>some (decide (a=b))) a l with
  |none=>rw[cpF,hq]at hr;cases hr
  |some r' =>rw[cpF,hq]at hr;exact⟨a,r',rfl,hq,BD hr⟩
 ·simp[T58,List.replicate,TSub,VSub]
 rintro m ⟨hm,x,rest,hx,aL,cy⟩;refine .seq (AW.sr (by simp[WS,T58,List.replicate,hid];rfl) ?_);refine AW.if' (decide (((m+1:Nat):Int)<L.length)) (by simp) (fun e=>AW.skip ?_) (fun e=>.exit ?_);rotate_left
 ·have e:=of_decide_eq_false e;simp only[Bc,ablk,Bz];have hd:L.drop (m+1)=[]:=List.drop_eq_nil_of_le (by omega);rw[hd]at aL;obtain rfl:rest=[]:=by cases aL;rfl
  obtain rfl:r=L:=by rw[<-cy,List.append_nil,HZ (by omega)]
  refine AW.sr (by simp[WT];rfl) ?_;refine .fz id (by simp[hid]) (by simp[hid]) ?_;refine .ret (.here ?_ rfl ⟨?_,ep+1,?_⟩)
  ·simp[rs58]
  ·simp[rs58,hid]
  ·simp[hid]
 have e:=GX e;have hlt:m+1<L.length:=by omega
 have fb:L.drop (m+1)=L[m+1] :: L.drop (m+2):=JK hlt;generalize hb:L[m+1]=b at fb;have aW:L[m+1]?=some b:=by rw[AD hlt,hb]
 rw[fb]at aL;obtain⟨q,rest',hq,cK,rfl⟩:=NB aL;have c1:Az (cI .i64) L (m+1)=[.int .i64 b]:=D3 aW;have c0:Az (cI .i64) L m=[.int .i64 x]:=D3 hx;obtain rfl:decide (b=x)=q:=BD hq;refine .seq (.block (AW.sd (by simp[WU,hid,c1,c0];exact⟨⟨by omega,by omega⟩,by omega,aP m (by omega),by omega,by kernel_rfl,rfl⟩) ?_));refine AW.if' (decide (b=x)) (by simp) (fun e3=>?_) (fun e3=>AW.skip ?_);rotate_left
 ·rw[e3]at cy;refine AW.r1 (by simp[WV];exact⟨dt (m+1+1) (by omega),rfl⟩) ?_;refine⟨m+1,⟨by omega,b,rest',aW,cK,?_⟩,by omega,.of_sub ⟨?_,fun i=>.refl _,rfl,by simp⟩⟩
  ·rw[List.take_succ_eq_append_getElem hlt,hb,List.append_assoc];exact cy
  ·simp[T58,List.replicate,TSub,VSub]
 rw[e3]at cy;have cy:L.take (m+1)++rest'=r:=cy;refine AW.sr (by simp[WW,hid];exact⟨by omega,rfl⟩) ?_;refine .seq (AW.sr (by simp[WX];rfl) ?_);have fY:(L.take (m+1)).length=m+1:=by rw[Eg];omega
 refine .block (.loop (fun y:Nat×List Int×(Nat->List Aa)=>(⟨T58i id ep L.length y.2.1.length (m+1) (y.1+1),hset h id (.vec ep 1 L.length y.2.2),[]⟩:Aw)) (fun y=>L.length-y.1) (fun y=>m+1+y.1+1<=L.length/\y.2.1.length<=m+1+y.1/\(∀i z,y.2.1[i]?=some z->y.2.2 i=[.int .i64 z])/\(∀i z,m+1+y.1<=i->L[i]?=some z->y.2.2 i=[.int .i64 z])/\(∀i,i<L.length->(y.2.2 i).length=1)/\∃x rest,L[m+1+y.1]?=some x/\cpA (fun a b:Int=>some (decide (a=b))) x (L.drop (m+1+y.1+1))=some rest/\y.2.1++rest=r) (0,L.take (m+1),Az (cI .i64) L) ⟨by simp;omega,by simp;omega,fun i z hz=>?_,fun i z _ hz=>D3 hz,fun i hi=>?_,b,rest',by simpa using aW,by simpa using cK,cy⟩ (.of_sub ⟨?_,fun i=>?_,rfl,by simp⟩) ?_)
 ·have hi:=(AM.1 hz).1;rw[fY]at hi;rw[List.getElem?_take_of_lt hi]at hz;exact D3 hz
 ·show(Az (cI .i64) L i).length=1;rw[D3 (AD hi)];rfl
 ·simp[T58i,List.replicate,TSub,VSub,fY];omega
 ·simp only[hset];split
  ·rename_i e;rw[e,hid];exact .refl _
  ·exact .refl _
 rintro⟨j,out,g⟩ ⟨hj,eW,fB,dv,eE,x,rest,hx,aL,cy⟩;simp only at hj eW fB dv eE hx aL cy;refine .seq (AW.sr (by simp[WY,T58i,List.replicate,BI,BU];rfl) ?_);refine AW.if' (decide (((j+1:Nat):Int)<((L.length-(m+1):Nat):Int))) (by simp) (fun e=>AW.skip ?_) (fun e=>.exit ?_);rotate_left
 ·have e:=of_decide_eq_false e;simp only[Bc,ablk,Bz];have hd:L.drop (m+1+j+1)=[]:=List.drop_eq_nil_of_le (by omega);rw[hd]at aL;obtain rfl:rest=[]:=by cases aL;rfl
  obtain rfl:out=r:=by rw[<-cy,List.append_nil]
  have gU:out.length<=L.length:=by omega
  refine AW.sr (by simp[WZ,BI,BU,Hb];(repeat' apply And.intro)<;>first|omega|rfl) ?_;refine AW.sr (by simp[Xa,BI,BU,hset];exact⟨by omega,rfl⟩) ?_;refine .fz id (by simp[BI,BU,hset]) (by simp[BI,BU,hset]) ?_;refine .ret ?_;simp only[Bc,ablk];refine .here ?_ rfl ⟨?_,ep+1,?_⟩
  ·simp[rs58]
  ·simp[rs58,BI,BU,gU];intro k hk;rw[Aj (by omega),D3 (AD hk),fB k _ (AD hk)];exact .refl _
  ·simp[BI,BU]
 have e:=GX e;have dN:m+1+j+1<L.length:=by omega
 have fC:L.drop (m+1+j+1)=L[m+1+j+1] :: L.drop (m+1+j+2):=JK dN;generalize cP:L[m+1+j+1]=b2 at fC;have dO:L[m+1+j+1]?=some b2:=by rw[AD dN,cP]
 rw[fC]at aL;obtain⟨q2,rest2,gv,cM,rfl⟩:=NB aL;have d1:g (m+1+(j+1))=[.int .i64 b2]:=dv _ _ (by omega) (by rw[<-dO];congr 1);have d0:g (m+1+j)=[.int .i64 x]:=dv _ _ (AC _) hx;obtain rfl:decide (b2=x)=q2:=BD gv;refine .seq (.block (AW.sd (by simp[Xb,BI,BU,d1,d0];exact⟨⟨by omega,by omega⟩,by omega,aP j (by omega),by omega,by omega,by kernel_rfl,rfl⟩) ?_));cases jS:decide (b2=x) with
 |true =>rw[jS]at cy;refine AW.if' false (by simp[jS]) (fun e=>by cases e) (fun _=>AW.skip ?_);refine AW.r1 (by simp[Rd];exact⟨dt (j+1+1) (by omega),rfl⟩) ?_;refine⟨(j+1,out,g),⟨by simp only;omega,by simp only;omega,fB,fun i z hi hz=>dv i z (by simp only at hi;omega) hz,eE,b2,rest2,dO,cM,cy⟩,by simp only;omega,.of_sub ⟨?_,fun i=>.refl _,rfl,by simp⟩⟩;simp[T58i,List.replicate,TSub,VSub]
 |false =>
  rw[jS]at cy;refine AW.if' true (by simp[jS]) (fun _=>?_) (fun e=>by cases e);refine AW.sr (by simp[Xc,BI,BU,d1];exact⟨⟨by omega,by omega⟩,by omega,by omega,rfl⟩) ?_;refine AW.r1 (by simp[Xd];exact⟨dt (out.length+1) (by omega),rfl⟩) ?_;refine AW.r1 (by simp[Rd];exact⟨dt (j+1+1) (by omega),rfl⟩) ?_
  have jj:(g out.length).tail=[]:=by
   have:=eE out.length (by omega);cases hg:g out.length with
   |nil=>rfl
   |cons a l=>rw[hg]at this;simp at this;simp[this]
  refine⟨(j+1,out++[b2],fun k=>if k=out.length then .int .i64 b2 :: (g out.length).tail else g k),⟨by simp only;omega,by simp;omega,fun i z hz=>?_,fun i z hi hz=>?_,fun i hi=>?_,b2,rest2,dO,cM,?_⟩,by simp only;omega,.of_sub ⟨?_,fun i=>.refl _,rfl,by simp⟩⟩
  ·simp only at hz ⊢;by_cases hk:i=out.length
   ·subst hk;simp at hz;rw[Ap rfl,jj,hz]
   ·rw[Aj hk];have hi:=(AM.1 hz).1;simp at hi;exact fB i z (by rw[<-hz,Fy (by omega)])
  ·simp only at hi ⊢;rw[Aj (by omega)];exact dv i z (by omega) hz
  ·simp only;split
   ·rw[jj];rfl
   ·exact eE i hi
  ·simp only;rw[List.append_assoc];exact cy
  ·simp[T58i,List.replicate,TSub,VSub]
def z58:Zc:=⟨58,.int .i64,[],[],fun l _=>Xe l⟩
theorem kzbb:ZcOk z58:=⟨by kernel_rfl,fun l x r h id ep hF hid=>by obtain⟨h1,h2⟩:=QV hF;refine ATr.wv (jz92 l r h2 (GX h1) h id ep hid) ?_;rintro v h' ⟨k1,k2⟩;exact⟨_,k1,rfl,k2⟩⟩
end Go.Am

