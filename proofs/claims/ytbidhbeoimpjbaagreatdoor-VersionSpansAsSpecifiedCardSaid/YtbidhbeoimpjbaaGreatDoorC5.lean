/- Part C5: contracts of some functions of this seat. No condition. -/
import Derived.Test.YtbidhbeoimpjbaaGreatDoorC6
set_option linter.unusedSimpArgs false
set_option linter.unusedVariables false
set_option maxRecDepth 100000
namespace Go.Am
open Go.Proofs
attribute [local simp] areg aop dreg dop Ak.req Ag argU Ak.args BL Ak.unAll Req.val Req.when putT putH Bc ablk CA Cf Gf GZ BG MN MO MP MQ MR MS MT MU MV MW MX MY MZ Na IntKind.bits EK ARes.ok ARes.val F5 cut Ak.quiet
attribute [local simp] Gq Gr Gs Hl Gn Gp PS U7 Ko Kp
attribute [local simp] Iy Kl Km M4 M5 look Gt zipA wm wh
attribute [local simp] Nb Nc Nd Nf Ng Nh Gu Gv I0 Ni Nj w_fn Nk Nl Nm Bd I3 DS Kq Ai.ep Ai.plain Ai.owned
attribute [local simp] C0 Cs M8 M9 MA MB MC MD ME MF MG MH MI MJ MK ML M7 AZ lay Cr ldv DM Bj EH Dh Gg Co Aa.kind
attribute [local simp] Aa.one_int Aa.one_bool Aa.one_str Aa.one_nils Aa.one_slc Aa.one_vec Aa.one_ptr Aa.one_eptr Aa.one_cptr Aa.one_nilp Aa.one_fn Aa.one_nilfn Aa.one_mp Aa.one_nilmp
attribute [local simp] LS LT LU LV LW LX LY LZ Ma Mb Mc Md Me Mf Mg Mh Mi Mj Ml Mm Mn Mo Mp Mq Mr Ms Mt Mu Mv Mw Mx My Mz M0 M1 M2
attribute [local simp] Ib cI cB cS cL Nn Np Nq Nr Ns Nt Nu Nv fzm fzh fzv fzl fz1 Nw Nx Ny Nz N0 List.range_succ N2 N3 N4 N5 N6 Dx Hm N7 N8
attribute [local simp] N9
attribute [local simp] AJ.cells
attribute [local simp] AF.cells
attribute [local simp] AH.cells
attribute [local simp] Ac.cells
attribute [local simp] CD.cells
attribute [local simp] Au.cells
attribute [local simp] BC.cells
attribute [local simp] CP.cells
attribute [local simp] AB.cells
attribute [local simp] BM.cells
attribute [local simp] FI.cells
attribute [local simp] FJ.cells
attribute [local simp] Bw.cells
attribute [local simp] Ba.cells
attribute [local simp] CQ.cells
attribute [local simp] CE.cells
attribute [local simp] CR.cells
attribute [local simp] BT.cells
attribute [local simp] hset
theorem jz79(c:Array Value):∀n,(Builtin.zeroCells c n).size=n*c.size:=by intro n;simp[Builtin.zeroCells]
theorem kzbj(n:Nat)(hn:0<n)(dX:n*80<=140737488355328)(h:Ay)(s:Nat) :
  ATr EE Tryz.prog 76 [.nils,.int .i64 n] h (fun v h'=>v=.vec s ((h s).ep+1) 0 0/\h'=hset h s (.vec ((h s).ep+1) 8 0 (fun _=>[]))):=by
 intro g w vs H hv;obtain⟨i0,ev,dG,bX,fA⟩:=info_parts (show(Tryz.prog.info? 27).map (fun i=>(i.zero,i.size,i.bytes))=some (some (.agg #[.int .i64 0,.int .i64 0,.int .i64 0,.int .i64 0,.int .i64 0,.int .i64 0,.int .i64 0,.slice none 0 0]),8,80) by kernel_rfl);obtain⟨hl,ha⟩:=hv
 match vs,hl with
 |[a,b],_ =>
 have h0:=ha 0 _ a rfl rfl;have h1:=ha 1 _ b rfl rfl;cases h0;cases h1;refine(Any8.slices_Grow_grow Tryz.growV i0 _ ev dG (by omega) none 0 0 n [] w (by omega) (by omega) (by rw[fA];omega) (by omega) (by simp) (fun _=>rfl) (fun a e=>by cases e)).mono ?_;rintro e w' ⟨rfl,rfl⟩;simp only[Cy,Nat.sub_zero];generalize hG:grownCap w n 0 (Tryz.growV_ren.t 25)=G;have mu:n<=G:=by rw[<-hG];exact grownCap_ge w _ _ _
 generalize c9:Obj.cells ((([]:List Value).toArray++Builtin.zeroCells (Value.agg #[.int .i64 0,.int .i64 0,.int .i64 0,.int .i64 0,.int .i64 0,.int .i64 0,.int .i64 0,.slice none 0 0]).cells n++Builtin.zeroCells (Value.agg #[.int .i64 0,.int .i64 0,.int .i64 0,.int .i64 0,.int .i64 0,.int .i64 0,.int .i64 0,.slice none 0 0]).cells (G-n))) (Tryz.growV_ren.t 25) (0,0)=ob;obtain⟨H1,S1⟩:=H.heap (w':=w.drew) rfl rfl rfl rfl (Db _);have hr:(Sem.new ob fun r=>.pure (.value (.slice (some ⟨r,0,none⟩) 0 G)):Sem Next).run Tryz.prog w.drew=.ok (.value (.slice (some ⟨w.heap.size,0,none⟩) 0 G)) (w.drew.alloc ob):=rfl
 obtain⟨nx,v,w',g',r1,r2,r3,r4,r5,r6⟩:=Ran.new (P:=Tryz.prog) (E:=EE) (rd:=[]) (p:=True)
  (i:=s) (x:=.vec s ((h s).ep+1) 0 0) (o:=.vec ((h s).ep+1) 8 0 (fun _=>[])) (bo:=0) (st:=8) (cp:=G) H1 ⟨w.drew,rfl,rfl,rfl,rfl,AC _,hr⟩ rfl (by
   intro g' w' aE aK cD aI cz aN;refine⟨JZ (by omega) aK cD aI cz (by omega) (by rw[<-c9]at aN;exact aN) ?_ (fun k hk=>by omega) (fun k j hk=>by omega),fun he=>?_⟩
   ·simp only[L0,jz79,JI,List.length_nil];show 0+G*8<=0+n*8+(G-n)*8;omega
   ·exact .vec _ _ _ _ _ rfl (by rw[he];exact AC _) fun _=>⟨_,G,rfl,Ej _,.inr ⟨by rw[aK,cD];simp,by rw[cz];omega⟩⟩)
 rw[hr]at r1;injection r1 with r1 r1'
 subst r1';rcases r2 with rfl|⟨rfl,_⟩
 ·injection r1 with r1
  subst r1;exact⟨g',_,_,_,⟨rfl,rfl⟩,rfl,r3,r4,S1.trans r5⟩
 ·cases r1
theorem jz97(h:Ay):ATr EE Tryz.prog 76 [.nils,.int .i64 0] h (fun v h'=>v=.nils/\h'=h):=by
 intro g w vs H hv;obtain⟨hl,ha⟩:=hv
 match vs,hl with
 |[a,b],_ =>
 have h0:=ha 0 _ a rfl rfl;have h1:=ha 1 _ b rfl rfl;cases h0;cases h1;refine(Any8.slices_Grow_room Tryz.growV none 0 0 0 w (by omega) (by omega) (by omega) (by omega)).mono ?_;rintro e w' ⟨rfl,rfl⟩;exact⟨g,h,_,_,⟨rfl,rfl⟩,rfl,.nils,H,.refl _ _ _⟩
def T48(X:Aa)(sm n i:Nat):List Aa:=X :: .top :: .nils :: .int .i64 sm :: .top :: .top :: .top :: .top :: .top :: X :: .int .i64 n :: .int .i64 i :: List.replicate 24 .top
def T48b(X v:Aa)(n i:Nat):List Aa:=X :: .top :: .nils :: .top :: .top :: .top :: v :: .top :: .top :: .top :: .top :: .top :: .top :: .top :: .top :: .top :: .top :: .top :: .top :: .top :: .top :: .top :: .top :: .top :: .top :: X :: .int .i64 n :: .int .i64 i :: List.replicate 8 .top
theorem jz9t{α:Type}(x:List (List α))(i:Nat):(x.take i).flatten.length<=x.flatten.length:=by
 conv=>rhs;rw[<-PP i x,List.flatten_append,BN]
 omega
theorem jz9c{α:Type}(x:List (List α))(i:Nat)(h:i<x.length):(x.take (i+1)).flatten=(x.take i).flatten++x[i]:=by rw[List.take_succ_eq_append_getElem h,List.flatten_append];simp
theorem jz99{α:Type}(cf:α->List Aa)(h8:∀x,(cf x).length=8)(h1:∀x,AZ (cf x)=true)(x:List (List α))(aD:x.flatten.length<=1000000)(hx:x.length<=1000000)(h:Ay)(s:Nat)(hp:(h s).plain) :
  ATr EE Tryz.prog 48 [slcV 1 (cL 8 cf) x] h (fun v h'=>∃ep,v=ownV s ep x.flatten/\h'=hset h s (ownO ep 8 cf x.flatten)):=by
 refine ATr.sub (R:=fun v h'=>∃ep f,v=ownV s ep x.flatten/\(∀i,i≠s->h' i=h i)/\(x.flatten≠[]->h' s=.vec ep 8 x.flatten.length f/\∀k,k<x.flatten.length->f k=Az cf x.flatten k)/\(x.flatten=[]->h' s=h s/\ep=(h s).ep)) ?_ ?_;rotate_left
 ·rintro v h' ⟨ep,f,rfl,ho,h2,h3⟩;refine⟨_,⟨ep,rfl,rfl⟩,fun i=>?_⟩;simp only[hset];split
  ·rename_i e;subst e;cases hr:x.flatten with
   |nil =>obtain⟨e1,e2⟩:=h3 hr;rw[e1,e2];exact .inl rfl
   |cons a l =>obtain⟨e1,e2⟩:=h2 (by rw[hr];simp);rw[e1];rw[hr]at e2 ⊢;exact .inr (.inr ⟨_,_,_,_,_,rfl,rfl,fun k hk=>(e2 k hk).symm⟩)
  ·rename_i e;rw[ho i e];exact .refl _
 obtain⟨c,c6,hc⟩:=ck48;refine ATr.of (fn:=Tryz.f48) rfl c6 cr48 (hc s) 35 rfl ?_;generalize hX:slcV 1 (cL 8 cf) x=X;have dE:X=.slc 1 x.length (Az (cL 8 cf) x):=by rw[<-hX,Ib]
 have aP:∀k:Nat,k<=2000000->inr .i64 (k:Int):=fun k hk=>(by show _/\_;omega);obtain⟨F,hF⟩:∃F:Nat->Nat,∀i,F i=(x.take i).flatten.length:=⟨_,fun _=>rfl⟩;have jR:F 0=0:=by rw[hF];rfl
 have lh:∀i (hi:i<x.length),F (i+1)=F i+x[i].length:=fun i hi=>by rw[hF,hF,jz9c x i hi,BN]
 have gT:∀i,F i<=1000000:=fun i=>by rw[hF];exact Br (jz9t x i) aD
 have ji:F x.length=x.flatten.length:=by rw[hF,List.take_length]
 obtain⟨fl,fc⟩:∃fl,fl=x.flatten:=⟨_,rfl⟩;rw[<-fc]at ji aD;rw[<-fc];generalize hR:(fun(v:Aa) (h':Ay)=>∃ep f,v=ownV s ep fl/\(∀i,i≠s->h' i=h i)/\(fl≠[]->h' s=.vec ep 8 fl.length f/\∀k,k<fl.length->f k=Az cf fl k)/\(fl=[]->h' s=h s/\ep=(h s).ep))=R;refine AW.sr (by simp[W2,List.replicate];rfl) ?_;refine .seq (AW.r1 (by simp[W3];rfl) ?_);refine .seq (.seq (AW.r1 (by simp[W4,dE];rfl) ?_));refine .block (.loop (fun i:Nat=>(⟨T48 X (F i) x.length i,h,[]⟩:Aw)) (fun i=>x.length-i) (fun i=>i<=x.length) 0 (Ej _) (.of_sub ⟨?_,fun i=>.refl _,rfl,by simp⟩) ?_)
 ·simp[T48,List.replicate,TSub,VSub,dE,jR]
 intro i hi;refine .seq (AW.r1 (by simp[W5,T48,List.replicate];rfl) ?_);refine .seq (AW.if' (decide ((i:Int)<x.length)) (by simp) (fun e=>AW.skip ?_) (fun e=>.exit ?_))
 ·have e:=GX e;have hlt:i<x.length:=by omega
  have c0:Az (cL 8 cf) x i=[slcV 8 cf x[i]]:=D3 (AD hlt);have aE:=gT (i+1);rw[lh i hlt]at aE;refine .seq (.block (AW.sr (by simp[W6,dE,c0];exact⟨by omega,rfl⟩) ?_));refine AW.sr (by simp[W7,Ib];exact⟨aP _ (by omega),rfl⟩) ?_;refine AW.sr (by simp[W8];rfl) ?_;refine AW.if' false (by simp;omega) (fun e=>by cases e) (fun _=>AW.skip ?_);refine AW.r1 (by simp[W9];exact⟨aP (i+1) (by omega),rfl⟩) ?_;refine⟨i+1,by omega,by omega,.of_sub ⟨?_,fun i=>.refl _,rfl,by simp⟩⟩;simp only[lh i hlt];simp[T48,List.replicate,TSub,VSub,dE]
 have e:=of_decide_eq_false e;obtain rfl:i=x.length:=by omega
 simp only[Bc,ablk,Bz];refine .seq (.reg ?_);simp[WA];by_cases h0:F x.length=0
 ·rw[h0];have fK:fl=[]:=L3.1 (by rw[<-ji];exact h0);refine(jz97 h).mono ?_;rintro v h' ⟨rfl,rfl⟩;try simp
  refine .seq (.seq (AW.r1 (by simp[QP,dE];rfl) ?_));refine .block (.loop (fun i:Nat=>(⟨T48b X .nils x.length i,h',[]⟩:Aw)) (fun i=>x.length-i) (fun i=>i<=x.length) 0 (Ej _) (.of_sub ⟨?_,fun i=>.refl _,rfl,by simp⟩) ?_)
  ·simp[T48b,List.replicate,TSub,VSub,dE]
  intro i hi;refine .seq (AW.r1 (by simp[QQ,T48b,List.replicate];rfl) ?_);refine .seq (AW.if' (decide ((i:Int)<x.length)) (by simp) (fun e=>AW.skip ?_) (fun e=>.exit ?_))
  ·have e:=GX e;have hlt:i<x.length:=by omega
   have c0:Az (cL 8 cf) x i=[slcV 8 cf x[i]]:=D3 (AD hlt);have nO:x[i]=[]:=by rw[fc]at fK;exact List.flatten_eq_nil_iff.1 fK _ (HV hlt)
   rw[nO]at c0;refine .seq (.block (AW.sr (by simp[QR,dE,c0];exact⟨by omega,rfl⟩) ?_));refine AW.r1 (by simp[QS,Ib,DM,Bj];rfl) ?_;refine AW.r1 (by simp[QT];exact⟨aP (i+1) (by omega),rfl⟩) ?_;refine⟨i+1,by omega,by omega,.of_sub ⟨?_,fun i=>.refl _,rfl,by simp⟩⟩;simp[T48b,List.replicate,TSub,VSub,dE]
  simp only[Bc,ablk,Bz];refine AW.sr (by simp[QU];rfl) ?_;refine .ret (.here ?_ rfl ?_)
  ·simp[rs48]
  rw[<-hR];refine⟨(h' s).ep,fun _=>[],?_,fun _ _=>rfl,fun e=>absurd fK e,fun _=>⟨rfl,rfl⟩⟩;simp[rs48,fK]
 refine(kzbj (F x.length) (by omega) (by have:=gT x.length;omega) h s).mono ?_;rintro v h' ⟨rfl,rfl⟩;try simp
 have nP:∀i (hi:i<x.length) j,j<x[i].length->fl[F i+j]?=x[i][j]?:=fun i hi j hj=>by
  have e:fl=(x.take i).flatten++(x[i]++(x.drop (i+1)).flatten):=by
   rw[fc]
   conv=>lhs;rw[<-PP i x,JK hi,List.flatten_append,List.flatten_cons]
  rw[e,hF,GT (by omega),Nat.add_sub_cancel_left,Fy hj]
 refine .seq (.seq (AW.r1 (by simp[QP,dE];rfl) ?_));refine .block (.loop (fun y:Nat×Nat×(Nat->List Aa)=>(⟨T48b X (.vec s y.2.1 0 (F y.1)) x.length y.1,hset h s (.vec y.2.1 8 (F y.1) y.2.2),[]⟩:Aw)) (fun y=>x.length-y.1) (fun y=>y.1<=x.length/\∀k,k<F y.1->y.2.2 k=Az cf fl k) (0,(h s).ep+1,fun _=>[]) ⟨Ej _,fun k hk=>by simp only[jR]at hk;omega⟩ (.of_sub ⟨?_,fun i=>?_,rfl,by simp⟩) ?_)
 ·simp[T48b,List.replicate,TSub,VSub,dE,jR]
 ·simp only[jR];exact .refl _
 rintro⟨i,ee,f⟩ ⟨hi,hf⟩;simp only at hi hf;refine .seq (AW.r1 (by simp[QQ,T48b,List.replicate];rfl) ?_);refine .seq (AW.if' (decide ((i:Int)<x.length)) (by simp) (fun e=>AW.skip ?_) (fun e=>.exit ?_))
 ·have e:=GX e;have hlt:i<x.length:=by omega
  have c0:Az (cL 8 cf) x i=[slcV 8 cf x[i]]:=D3 (AD hlt);have aE:=gT (i+1);have hs:=lh i hlt;refine .seq (.block (AW.sr (by simp[QR,dE,c0];exact⟨by omega,rfl⟩) ?_));refine AW.r1 (by simp[QS,Ib,DM,Bj,BI,BU];exact⟨by omega,rfl⟩) ?_;refine AW.r1 (by simp[QT];exact⟨aP (i+1) (by omega),rfl⟩) ?_;refine⟨(i+1,ee+1,fun k=>if k<F i then f k else Az cf x[i] (k-F i)),⟨by simp only;omega,?_⟩,by simp only;omega,.of_sub ⟨?_,fun i=>?_,rfl,by simp⟩⟩;rotate_left
  ·simp only[hs];simp[T48b,List.replicate,TSub,VSub,dE]
  ·simp only[hs];exact .refl _
  intro k hk;simp only[hs]at hk ⊢;by_cases cm:k<F i
  ·rw[Ap cm];exact hf k cm
  ·rw[Aj cm];have:=nP i hlt (k-F i) (by omega);rw[show F i+(k-F i)=k by omega]at this;unfold Az;rw[this]
 have e:=of_decide_eq_false e;obtain rfl:i=x.length:=by omega
 simp only[Bc,ablk,Bz];refine AW.sr (by simp[QU];rfl) ?_;have aH:fl≠[]:=fun e=>h0 (by rw[ji,e];rfl);refine .ret (.here ?_ rfl ?_)
 ·simp[rs48]
 rw[<-hR];refine⟨ee,f,?_,?_,?_,?_⟩
 ·simp[rs48,ji];cases fl with
  |nil=>exact absurd rfl aH
  |cons a l=>rfl
 ·intro i hi;simp[hset,hi]
 ·intro _;simp only[BI];rw[<-ji];exact⟨rfl,hf⟩
 ·intro e;exact absurd e aH
def d48:Dc:=⟨48,.us 3,[.slc (.slc (.us 3))],[false],fun x=>WB x⟩
theorem kzbi:DcOk d48:=⟨by kernel_rfl,fun x r h s hF hp=>by obtain⟨h1,h2⟩:=QV hF;simp only[AE,BE]at h1;obtain rfl:=BD h2;exact jz99 Ac.cells (fun _=>rfl) (fun _=>rfl) x h1.1 h1.2 h s hp⟩
end Go.Am

