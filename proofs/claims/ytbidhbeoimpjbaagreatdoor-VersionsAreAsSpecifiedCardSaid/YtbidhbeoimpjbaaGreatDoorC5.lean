/- Part C5: contracts of some functions of this seat. No condition. -/
import Derived.Test.YtbidhbeoimpjbaaGreatDoorC6
set_option linter.unusedSimpArgs false
set_option linter.unusedVariables false
set_option maxRecDepth 100000
namespace Go.Am
open Go.Proofs
attribute [local simp] areg aop dreg dop Ak.req Ag argU Ak.args BI Ak.unAll Req.val Req.when putT putH Bb ablk CA Ca Gc Ha BD MB MC MD ME MF MG MH MI MJ MK ML MM MN MO IntKind.bits EJ ARes.ok ARes.val F7 cut Ak.quiet
attribute [local simp] Gn Gp Gq Hm Gl Gm PA Ut Kd Ke
attribute [local simp] Iz Kb Kc Ms Mt look Gr zipA wm wh
attribute [local simp] MP MQ MR MS MT MU Gs Hn I3 MV MW w_fn MX MY MZ Bc I4 DS Kf Ai.ep Ai.plain Ai.owned
attribute [local simp] C0 Cs Mw Mx My Mz M0 M1 M2 M3 M4 M5 M6 M7 M8 M9 Mv AY lay Cr ldv DM Bh EG Di Ge Cn Aa.kind
attribute [local simp] Aa.one_int Aa.one_bool Aa.one_str Aa.one_nils Aa.one_slc Aa.one_vec Aa.one_ptr Aa.one_eptr Aa.one_cptr Aa.one_nilp Aa.one_fn Aa.one_nilfn Aa.one_mp Aa.one_nilmp
attribute [local simp] LG LH LI LJ LK LL LM LN LO LP LQ LR LS LT LU LV LW LX LY LZ Ma Mb Mc Md Me Mf Mg Mh Mi Mj Ml Mm Mn Mo Mp Mq
attribute [local simp] Ic cI cB cS cL Na Nb Nc Nd Nf Ng Nh Ni fzm fzh fzv fzl fz1 Nj Nk Nl Nm Nn List.range_succ Np Nq Nr Ns Nt Dy Ho Nu Nv
attribute [local simp] Nw
attribute [local simp] AJ.cells
attribute [local simp] AC.cells
attribute [local simp] AG.cells
attribute [local simp] Ac.cells
attribute [local simp] CD.cells
attribute [local simp] Aw.cells
attribute [local simp] CE.cells
attribute [local simp] CO.cells
attribute [local simp] AL.cells
attribute [local simp] BJ.cells
attribute [local simp] FK.cells
attribute [local simp] FL.cells
attribute [local simp] CP.cells
attribute [local simp] AZ.cells
attribute [local simp] CQ.cells
attribute [local simp] CF.cells
attribute [local simp] CR.cells
attribute [local simp] BO.cells
attribute [local simp] hset
theorem uD(c:Array Value):∀n,(Builtin.zeroCells c n).size=n*c.size:=by intro n;simp[Builtin.zeroCells]
theorem uE(n:Nat)(hn:0<n)(ei:n*80<=140737488355328)(h:Ax)(s:Nat) :
  ATr EE Tryz.prog 76 [.nils,.int .i64 n] h (fun v h'=>v=.vec s ((h s).ep+1) 0 0/\h'=hset h s (.vec ((h s).ep+1) 8 0 (fun _=>[]))):=by
 intro g w vs H hv;obtain⟨i0,qv,dL,cj,fE⟩:=info_parts (show(Tryz.prog.info? 27).map (fun i=>(i.zero,i.size,i.bytes))=some (some (.agg #[.int .i64 0,.int .i64 0,.int .i64 0,.int .i64 0,.int .i64 0,.int .i64 0,.int .i64 0,.slice none 0 0]),8,80) by kernel_rfl);obtain⟨hl,ha⟩:=hv
 match vs,hl with
 |[a,b],_ =>
 have h0:=ha 0 _ a rfl rfl;have h1:=ha 1 _ b rfl rfl;cases h0;cases h1;refine(Any8.slices_Grow_grow Tryz.growV i0 _ qv dL (by omega) none 0 0 n [] w (by omega) (by omega) (by rw[fE];omega) (by omega) (by simp) (fun _=>rfl) (fun a e=>by cases e)).mono ?_;rintro e w' ⟨rfl,rfl⟩;simp only[Cx,Nat.sub_zero];generalize hG:grownCap w n 0 (Tryz.growV_ren.t 25)=G;have mD:n<=G:=by rw[<-hG];exact grownCap_ge w _ _ _
 generalize cE:Obj.cells ((([]:List Value).toArray++Builtin.zeroCells (Value.agg #[.int .i64 0,.int .i64 0,.int .i64 0,.int .i64 0,.int .i64 0,.int .i64 0,.int .i64 0,.slice none 0 0]).cells n++Builtin.zeroCells (Value.agg #[.int .i64 0,.int .i64 0,.int .i64 0,.int .i64 0,.int .i64 0,.int .i64 0,.int .i64 0,.slice none 0 0]).cells (G-n))) (Tryz.growV_ren.t 25) (0,0)=ob;obtain⟨H1,S1⟩:=H.heap (w':=w.drew) rfl rfl rfl rfl (Dd _);have hr:(Sem.new ob fun r=>.pure (.value (.slice (some ⟨r,0,none⟩) 0 G)):Sem Next).run Tryz.prog w.drew=.ok (.value (.slice (some ⟨w.heap.size,0,none⟩) 0 G)) (w.drew.alloc ob):=rfl
 obtain⟨nx,v,w',g',r1,r2,r3,r4,r5,r6⟩:=Ran.new (P:=Tryz.prog) (E:=EE) (rd:=[]) (p:=True)
  (i:=s) (x:=.vec s ((h s).ep+1) 0 0) (o:=.vec ((h s).ep+1) 8 0 (fun _=>[])) (bo:=0) (st:=8) (cp:=G) H1 ⟨w.drew,rfl,rfl,rfl,rfl,AB _,hr⟩ rfl (by
   intro g' w' aE aK cH aI c9 aN;refine⟨JP (by omega) aK cH aI c9 (by omega) (by rw[<-cE]at aN;exact aN) ?_ (fun k hk=>by omega) (fun k j hk=>by omega),fun he=>?_⟩
   ·simp only[Lo,uD,J8,List.length_nil];show 0+G*8<=0+n*8+(G-n)*8;omega
   ·exact .vec _ _ _ _ _ rfl (by rw[he];exact AB _) fun _=>⟨_,G,rfl,Ej _,.inr ⟨by rw[aK,cH];simp,by rw[c9];omega⟩⟩)
 rw[hr]at r1;injection r1 with r1 r1'
 subst r1';rcases r2 with rfl|⟨rfl,_⟩
 ·injection r1 with r1
  subst r1;exact⟨g',_,_,_,⟨rfl,rfl⟩,rfl,r3,r4,S1.trans r5⟩
 ·cases r1
theorem uF(h:Ax):ATr EE Tryz.prog 76 [.nils,.int .i64 0] h (fun v h'=>v=.nils/\h'=h):=by
 intro g w vs H hv;obtain⟨hl,ha⟩:=hv
 match vs,hl with
 |[a,b],_ =>
 have h0:=ha 0 _ a rfl rfl;have h1:=ha 1 _ b rfl rfl;cases h0;cases h1;refine(Any8.slices_Grow_room Tryz.growV none 0 0 0 w (by omega) (by omega) (by omega) (by omega)).mono ?_;rintro e w' ⟨rfl,rfl⟩;exact⟨g,h,_,_,⟨rfl,rfl⟩,rfl,.nils,H,.refl _ _ _⟩
def T48(X:Aa)(sm n i:Nat):List Aa:=X :: .top :: .nils :: .int .i64 sm :: .top :: .top :: .top :: .top :: .top :: X :: .int .i64 n :: .int .i64 i :: List.replicate 24 .top
def T48b(X v:Aa)(n i:Nat):List Aa:=X :: .top :: .nils :: .top :: .top :: .top :: v :: .top :: .top :: .top :: .top :: .top :: .top :: .top :: .top :: .top :: .top :: .top :: .top :: .top :: .top :: .top :: .top :: .top :: .top :: X :: .int .i64 n :: .int .i64 i :: List.replicate 8 .top
theorem uG{α:Type}(x:List (List α))(i:Nat):(x.take i).flatten.length<=x.flatten.length:=by
 conv=>rhs;rw[<-P7 i x,List.flatten_append,BK]
 omega
theorem uH{α:Type}(x:List (List α))(i:Nat)(h:i<x.length):(x.take (i+1)).flatten=(x.take i).flatten++x[i]:=by rw[List.take_succ_eq_append_getElem h,List.flatten_append];simp
theorem uI{α:Type}(cf:α->List Aa)(h8:∀x,(cf x).length=8)(h1:∀x,AY (cf x)=true)(x:List (List α))(aD:x.flatten.length<=1000000)(hx:x.length<=1000000)(h:Ax)(s:Nat)(hp:(h s).plain) :
  ATr EE Tryz.prog 48 [slcV 1 (cL 8 cf) x] h (fun v h'=>∃ep,v=ownV s ep x.flatten/\h'=hset h s (ownO ep 8 cf x.flatten)):=by
 refine ATr.sub (R:=fun v h'=>∃ep f,v=ownV s ep x.flatten/\(∀i,i≠s->h' i=h i)/\(x.flatten≠[]->h' s=.vec ep 8 x.flatten.length f/\∀k,k<x.flatten.length->f k=Ay cf x.flatten k)/\(x.flatten=[]->h' s=h s/\ep=(h s).ep)) ?_ ?_;rotate_left
 ·rintro v h' ⟨ep,f,rfl,ho,h2,h3⟩;refine⟨_,⟨ep,rfl,rfl⟩,fun i=>?_⟩;simp only[hset];split
  ·rename_i e;subst e;cases hr:x.flatten with
   |nil =>obtain⟨e1,e2⟩:=h3 hr;rw[e1,e2];exact .inl rfl
   |cons a l =>obtain⟨e1,e2⟩:=h2 (by rw[hr];simp);rw[e1];rw[hr]at e2 |-;exact .inr (.inr ⟨_,_,_,_,_,rfl,rfl,fun k hk=>(e2 k hk).symm⟩)
  ·rename_i e;rw[ho i e];exact .refl _
 obtain⟨c,cC,hc⟩:=ck48;refine ATr.of (fn:=Tryz.f48) rfl cC cr48 (hc s) 35 rfl ?_;generalize hX:slcV 1 (cL 8 cf) x=X;have dJ:X=.slc 1 x.length (Ay (cL 8 cf) x):=by rw[<-hX,Ic]
 have aP:∀k:Nat,k<=2000000->inr .i64 (k:Int):=fun k hk=>(by show _/\_;omega);obtain⟨F,hF⟩:∃F:Nat->Nat,∀i,F i=(x.take i).flatten.length:=⟨_,fun _=>rfl⟩;have kc:F 0=0:=by rw[hF];rfl
 have lu:∀i (hi:i<x.length),F (i+1)=F i+x[i].length:=fun i hi=>by rw[hF,hF,uH x i hi,BK]
 have ib:∀i,F i<=1000000:=fun i=>by rw[hF];exact Bo (uG x i) aD
 have jr:F x.length=x.flatten.length:=by rw[hF,List.take_length]
 obtain⟨fl,fg⟩:∃fl,fl=x.flatten:=⟨_,rfl⟩;rw[<-fg]at jr aD;rw[<-fg];generalize hR:(fun(v:Aa) (h':Ax)=>∃ep f,v=ownV s ep fl/\(∀i,i≠s->h' i=h i)/\(fl≠[]->h' s=.vec ep 8 fl.length f/\∀k,k<fl.length->f k=Ay cf fl k)/\(fl=[]->h' s=h s/\ep=(h s).ep))=R;refine AW.sr (by simp[Wo,List.replicate];rfl) ?_;refine .seq (AW.r1 (by simp[Wp];rfl) ?_);refine .seq (.seq (AW.r1 (by simp[Wq,dJ];rfl) ?_));refine .block (.loop (fun i:Nat=>(⟨T48 X (F i) x.length i,h,[]⟩:Au)) (fun i=>x.length-i) (fun i=>i<=x.length) 0 (Ej _) (.of_sub ⟨?_,fun i=>.refl _,rfl,by simp⟩) ?_)
 ·simp[T48,List.replicate,TSub,VSub,dJ,kc]
 intro i hi;refine .seq (AW.r1 (by simp[Wr,T48,List.replicate];rfl) ?_);refine .seq (AW.if' (decide ((i:Int)<x.length)) (by simp) (fun e=>AW.skip ?_) (fun e=>.exit ?_))
 ·have e:=GY e;have hlt:i<x.length:=by omega
  have c0:Ay (cL 8 cf) x i=[slcV 8 cf x[i]]:=D4 (AD hlt);have aE:=ib (i+1);rw[lu i hlt]at aE;refine .seq (.block (AW.sr (by simp[Wt,dJ,c0];exact⟨by omega,rfl⟩) ?_));refine AW.sr (by simp[Wu,Ic];exact⟨aP _ (by omega),rfl⟩) ?_;refine AW.sr (by simp[Wv];rfl) ?_;refine AW.if' false (by simp;omega) (fun e=>by cases e) (fun _=>AW.skip ?_);refine AW.r1 (by simp[Ww];exact⟨aP (i+1) (by omega),rfl⟩) ?_;refine⟨i+1,by omega,by omega,.of_sub ⟨?_,fun i=>.refl _,rfl,by simp⟩⟩;simp only[lu i hlt];simp[T48,List.replicate,TSub,VSub,dJ]
 have e:=of_decide_eq_false e;obtain rfl:i=x.length:=by omega
 simp only[Bb,ablk,Bw];refine .seq (.reg ?_);simp[Wx];by_cases h0:F x.length=0
 ·rw[h0];have fP:fl=[]:=J7.1 (by rw[<-jr];exact h0);refine(uF h).mono ?_;rintro v h' ⟨rfl,rfl⟩;try simp
  refine .seq (.seq (AW.r1 (by simp[Q7,dJ];rfl) ?_));refine .block (.loop (fun i:Nat=>(⟨T48b X .nils x.length i,h',[]⟩:Au)) (fun i=>x.length-i) (fun i=>i<=x.length) 0 (Ej _) (.of_sub ⟨?_,fun i=>.refl _,rfl,by simp⟩) ?_)
  ·simp[T48b,List.replicate,TSub,VSub,dJ]
  intro i hi;refine .seq (AW.r1 (by simp[Q8,T48b,List.replicate];rfl) ?_);refine .seq (AW.if' (decide ((i:Int)<x.length)) (by simp) (fun e=>AW.skip ?_) (fun e=>.exit ?_))
  ·have e:=GY e;have hlt:i<x.length:=by omega
   have c0:Ay (cL 8 cf) x i=[slcV 8 cf x[i]]:=D4 (AD hlt);have oe:x[i]=[]:=by rw[fg]at fP;exact List.flatten_eq_nil_iff.1 fP _ (GT hlt)
   rw[oe]at c0;refine .seq (.block (AW.sr (by simp[Q9,dJ,c0];exact⟨by omega,rfl⟩) ?_));refine AW.r1 (by simp[QA,Ic,DM,Bh];rfl) ?_;refine AW.r1 (by simp[QB];exact⟨aP (i+1) (by omega),rfl⟩) ?_;refine⟨i+1,by omega,by omega,.of_sub ⟨?_,fun i=>.refl _,rfl,by simp⟩⟩;simp[T48b,List.replicate,TSub,VSub,dJ]
  simp only[Bb,ablk,Bw];refine AW.sr (by simp[QC];rfl) ?_;refine .ret (.here ?_ rfl ?_)
  ·simp[rs48]
  rw[<-hR];refine⟨(h' s).ep,fun _=>[],?_,fun _ _=>rfl,fun e=>absurd fP e,fun _=>⟨rfl,rfl⟩⟩;simp[rs48,fP]
 refine(uE (F x.length) (by omega) (by have:=ib x.length;omega) h s).mono ?_;rintro v h' ⟨rfl,rfl⟩;try simp
 have og:∀i (hi:i<x.length) j,j<x[i].length->fl[F i+j]?=x[i][j]?:=fun i hi j hj=>by
  have e:fl=(x.take i).flatten++(x[i]++(x.drop (i+1)).flatten):=by
   rw[fg]
   conv=>lhs;rw[<-P7 i x,Li hi,List.flatten_append,List.flatten_cons]
  rw[e,hF,GS (by omega),Nat.add_sub_cancel_left,F0 hj]
 refine .seq (.seq (AW.r1 (by simp[Q7,dJ];rfl) ?_));refine .block (.loop (fun y:Nat×Nat×(Nat->List Aa)=>(⟨T48b X (.vec s y.2.1 0 (F y.1)) x.length y.1,hset h s (.vec y.2.1 8 (F y.1) y.2.2),[]⟩:Au)) (fun y=>x.length-y.1) (fun y=>y.1<=x.length/\∀k,k<F y.1->y.2.2 k=Ay cf fl k) (0,(h s).ep+1,fun _=>[]) ⟨Ej _,fun k hk=>by simp only[kc]at hk;omega⟩ (.of_sub ⟨?_,fun i=>?_,rfl,by simp⟩) ?_)
 ·simp[T48b,List.replicate,TSub,VSub,dJ,kc]
 ·simp only[kc];exact .refl _
 rintro⟨i,ee,f⟩ ⟨hi,hf⟩;simp only at hi hf;refine .seq (AW.r1 (by simp[Q8,T48b,List.replicate];rfl) ?_);refine .seq (AW.if' (decide ((i:Int)<x.length)) (by simp) (fun e=>AW.skip ?_) (fun e=>.exit ?_))
 ·have e:=GY e;have hlt:i<x.length:=by omega
  have c0:Ay (cL 8 cf) x i=[slcV 8 cf x[i]]:=D4 (AD hlt);have aE:=ib (i+1);have hs:=lu i hlt;refine .seq (.block (AW.sr (by simp[Q9,dJ,c0];exact⟨by omega,rfl⟩) ?_));refine AW.r1 (by simp[QA,Ic,DM,Bh,BF,BP];exact⟨by omega,rfl⟩) ?_;refine AW.r1 (by simp[QB];exact⟨aP (i+1) (by omega),rfl⟩) ?_;refine⟨(i+1,ee+1,fun k=>if k<F i then f k else Ay cf x[i] (k-F i)),⟨by simp only;omega,?_⟩,by simp only;omega,.of_sub ⟨?_,fun i=>?_,rfl,by simp⟩⟩;rotate_left
  ·simp only[hs];simp[T48b,List.replicate,TSub,VSub,dJ]
  ·simp only[hs];exact .refl _
  intro k hk;simp only[hs]at hk |-;by_cases dr:k<F i
  ·rw[Ap dr];exact hf k dr
  ·rw[Aj dr];have:=og i hlt (k-F i) (by omega);rw[show F i+(k-F i)=k by omega]at this;unfold Ay;rw[this]
 have e:=of_decide_eq_false e;obtain rfl:i=x.length:=by omega
 simp only[Bb,ablk,Bw];refine AW.sr (by simp[QC];rfl) ?_;have aH:fl≠[]:=fun e=>h0 (by rw[jr,e];rfl);refine .ret (.here ?_ rfl ?_)
 ·simp[rs48]
 rw[<-hR];refine⟨ee,f,?_,?_,?_,?_⟩
 ·simp[rs48,jr];cases fl with
  |nil=>exact absurd rfl aH
  |cons a l=>rfl
 ·intro i hi;simp[hset,hi]
 ·intro _;simp only[BF];rw[<-jr];exact⟨rfl,hf⟩
 ·intro e;exact absurd e aH
def d48:Dc:=⟨48,.us 3,[.slc (.slc (.us 3))],[false],fun x=>Wy x⟩
theorem uJ:DcOk d48:=⟨by kernel_rfl,fun x r h s hF hp=>by obtain⟨h1,h2⟩:=QD hF;simp only[AE,BB]at h1;obtain rfl:=BA h2;exact uI Ac.cells (fun _=>rfl) (fun _=>rfl) x h1.1 h1.2 h s hp⟩
end Go.Am

