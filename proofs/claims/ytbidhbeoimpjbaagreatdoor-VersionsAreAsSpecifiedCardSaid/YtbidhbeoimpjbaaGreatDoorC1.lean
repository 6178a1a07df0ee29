/- Part C1: contracts of some functions of this seat. No condition. -/
import Derived.Test.YtbidhbeoimpjbaaGreatDoorG1
import Derived.Test.YtbidhbeoimpjbaaGreatDoorH1
set_option linter.unusedSimpArgs false
set_option linter.unusedVariables false
set_option maxRecDepth 100000
namespace Go.Am
open Go.Proofs
attribute [local simp] areg aop dreg dop Ak.req Ag argU Ak.args BI Ak.unAll Req.val Req.when putT putH Bb ablk CA Ca Gc Ha BD MB MC MD ME MF MG MH MI MJ MK ML MM MN MO IntKind.bits EJ ARes.ok ARes.val F7 cut Ak.quiet
attribute [local simp] Gn Gp Gq Hm Gl Gm PA Ut Kd Ke
attribute [local simp] Iz Kb Kc Ms Mt look Gr zipA wm wh
attribute [local simp] MP MQ MR MS MT MU Gs Hn I3 MV MW w_fn MX MY MZ Bc I4 DS Kf Ai.ep Ai.plain Ai.owned
attribute [local simp] C0 Cs Mw Mx My Mz M0 M1 M2 M3 M4 M5 M6 M7 M8 M9 Mv AY lay Cr ldv DM Bh EG Di Ge Cn Aa.kind
attribute [local simp] Aa.one_int Aa.one_bool Aa.one_str Aa.one_nils Aa.one_slc Aa.one_vec Aa.one_ptr Aa.one_eptr Aa.one_cptr Aa.one_nilp Aa.one_fn Aa.one_nilfn Aa.one_mp Aa.one_nilmp
attribute [local simp] LG LH LI LJ LK LL LM LN LO LP LQ LR LS LT LU LV LW LX LY LZ Ma Mb Mc Md Me Mf Mg Mh Mi Mj Ml Mm Mn Mo Mp Mq
attribute [local simp] Ic cI cB cS cL Na Nb Nc Nd Nf Ng Nh Ni fzm fzh fzv fzl fz1 Nj Nk Nl Nm Nn List.range_succ Np Nq Nr Ns Nt Dy Ho Nu Nv
attribute [local simp] Nw
attribute [local simp] AJ.cells
attribute [local simp] AC.cells
attribute [local simp] AG.cells
attribute [local simp] Ac.cells
attribute [local simp] CD.cells
attribute [local simp] Aw.cells
attribute [local simp] CE.cells
attribute [local simp] CO.cells
attribute [local simp] AL.cells
attribute [local simp] BJ.cells
attribute [local simp] FK.cells
attribute [local simp] FL.cells
attribute [local simp] CP.cells
attribute [local simp] AZ.cells
attribute [local simp] CQ.cells
attribute [local simp] CF.cells
attribute [local simp] CR.cells
attribute [local simp] BO.cells
def v130:Cc:=⟨130,.int .u32,[],[],fun l _=>Gt l⟩
def w133:Wc:=⟨133,.int .u8,[],[],fun l _=>I5 l⟩
theorem hEE:∀i,AF (EE i):=fun _=>.top
theorem ug(l r:List Int)(X:Aa)(h:Ax)(s:Nat)(hF:Gt l=some r)(hp:(h s).plain)(hs:X=slcV 1 (cI .u32) l\/∃id ep lo m,id≠s/\X=.vec id ep lo (List.length l)/\h id=.vec ep 1 (List.length m) (Ay (cI .u32) m)/\lo+List.length l<=List.length m/\∀k,k<List.length l->Ay (cI .u32) m (lo+k)=Ay (cI .u32) l k) :
  ATr EE Tryz.prog 130 [X] h fun v h'=>∃ep,v=.vec s ep 0 (List.length r)/\0<List.length r/\h'=hset h s (.vec ep 1 (List.length r) (Ay (cI .u32) r)):=by
 have hh:r=l/\0<List.length l/\List.length l*4<=140737488355328:=by
  unfold Gt at hF;cases hx:(decide (0<List.length l)&&decide (List.length l*4<=140737488355328))
  ·rw[hx]at hF;cases hF
  ·rw[hx]at hF;simp only[AE,BB]at hx;cases hF;exact⟨rfl,hx⟩
 obtain⟨rfl,hn,ei⟩:=hh;obtain⟨c,hb,hc⟩:=uh;refine ATr.sub (R:=fun v h'=>∃ep f',v=.vec s ep 0 (List.length r)/\h'=hset h s (.vec ep 1 (List.length r) f')/\∀k,k<List.length r->f' k=Ay (cI .u32) r k) ?_ ?_;rotate_left
 ·rintro v h' ⟨ep,f',rfl,rfl,hf⟩;refine⟨_,⟨ep,rfl,hn,rfl⟩,fun i=>?_⟩;simp only[hset];split
  ·exact .inr (.inr ⟨_,_,_,_,_,rfl,rfl,fun k hk=>(hf k hk).symm⟩)
  ·exact .refl _
 refine ATr.of (fn:=Tryz.f130) rfl hb ui (hc s) 7 rfl ?_;refine AW.sr (by simp[VY,List.replicate];rfl) ?_;rcases hs with rfl|⟨id,ep,lo,m,aH,rfl,hid,cg,hf⟩
 ·rw[Ic];refine .seq ?_;refine AW.sr (by simp[Qx,hn];rfl) ?_;refine AW.if' false (by simp) (fun e=>by cases e) (fun _=>AW.skip ?_);refine AW.sr (by simp[Qy,-Ai.plain,-Ai.ep,hset,hp,Bh,Cr,AY,EG,DM,ei];first|rfl|exact⟨rfl,rfl⟩|exact⟨hp,rfl,rfl⟩) ?_;refine .ret (Post.here (by simp[Kg]) rfl ⟨(h s).ep+2,Ay (cI .u32) r,by simp[Kg],?_,fun k hk=>rfl⟩);funext j;simp only[hset];by_cases hj:j=s<;>simp[hj]
 ·refine .seq ?_;refine AW.sr (by simp[Qx,hid];rfl) ?_;refine AW.if' false (by simp) (fun e=>by cases e) (fun _=>AW.skip ?_);refine AW.sr (by simp[Qy,-Ai.plain,-Ai.ep,hset,hp,Bh,Cr,AY,EG,DM,ei,hid,aH,cg];first|rfl|exact⟨rfl,rfl⟩|exact⟨hp,rfl,rfl⟩) ?_;refine .ret (Post.here (by simp[Kg]) rfl ⟨(h s).ep+2,fun k=>Ay (cI .u32) m (lo+k),by simp[Kg],?_,hf⟩);funext j;simp only[hset];by_cases hj:j=s<;>simp[hj]
theorem uj:CcOk v130:=⟨by kernel_rfl,fun l x r X h s a b c=>ug l r X h s a b c⟩
theorem uk(l r:List Int)(h:Ax)(id ep:Nat)(hF:I5 l=some r)(hid:h id=ownO ep 1 (cI .u8) l) :
  ATr EE Tryz.prog 133 [ownV id ep l] h fun v h'=>v=.tup []/\h'=hset h id (ownO ep 1 (cI .u8) r)/\List.length r=List.length l:=by
 unfold I5 at hF;cases hx:decide (List.length l<=4611686018427387904)
 ·rw[hx]at hF;cases hF
 rw[hx]at hF;obtain rfl:r=l.reverse:=(BA hF).symm;simp only[BB]at hx;have main:=ul (E:=EE) Tryz.laysE35 (fun n=>.int .u8 n) (Value.int .u8) (fun _=>rfl) (fun g w x v hv=>by cases hv;rfl) (fun g w x=>.int _ _) (H:=h) (id:=id) (ep:=ep) (l:=l) hid (by omega);exact main.mono fun v h' ⟨a,b⟩=>⟨a,b,by simp⟩
theorem um:WcOk w133:=⟨by kernel_rfl,fun l x r h id ep a b=>uk l r h id ep a b⟩
def k112:Fc:=⟨112,[.str],[false],[(.slc (.int .u32))],fun x=>GO x⟩
def k111:Fc:=⟨111,[(.slc (.int .u32)),(.slc (.int .u32))],[false,false],[(.slc (.int .u32)),(.slc (.int .u32))],fun x=>Nx x.1 x.2⟩
def k113:Fc:=⟨113,[(.slc (.int .u32))],[false],[.str],fun x=>I6 x⟩
theorem VZ:Co Tryz.prog 110=true:=by kernel_rfl
set_option maxHeartbeats 4000000 in
theorem un(ei:∀x y r,Nx x y=some r->B8 EE Tryz.prog 111 [slcV 1 (cI .u32) x,slcV 1 (cI .u32) y] (.tup [slcV 1 (cI .u32) r.1,slcV 1 (cI .u32) r.2])):∀(n:Nat) (x y r:List Int),lpN I7 n (x,y)=some r->∀h:Ax,h 0=.box 1 [.fn 110 0 [.ptr 0 1 0]] ->
  ATr EE Tryz.prog 110 [slcV 1 (cI .u32) x,slcV 1 (cI .u32) y,.ptr 0 1 0] h (fun v h'=>v=slcV 1 (cI .u32) r/\h'=h):=by
 intro n;induction n with
 |zero=>intro x y r hr;cases hr
 |succ n ih =>
  intro x y r hr h h0;rw[lpN]at hr;obtain⟨c,cC,hc⟩:=uo;refine ATr.of (fn:=Tryz.f110) rfl cC uq (hc 0) 19 rfl ?_;refine .seq (.reg ?_);simp[Wa];refine .seq (.seq (.reg ?_));simp[Wb];refine .cond (t:=decide ((List.length y:Int)=0)) (by simp) (fun e=>?_) (fun e=>?_)
  ·have e':(I7 (x,y))=some (.inr x):=by simp only[I7,e,ite']
   rw[e']at hr;cases hr;refine .seq (.reg ?_);simp[Wd];refine .ret ?_;simp only[Bb,ablk];refine .here ?_ rfl ⟨?_,?_⟩
   ·simp[Kh]
   ·simp[Kh]
   ·simp
  ·have e':(I7 (x,y))=bd (Nx x y) fun r=>some (.inl (y,r.2)):=by simp only[I7,e,ite']
   rw[e']at hr;cases hq:Nx x y with
   |none=>rw[hq]at hr;cases hr
   |some q =>
   rw[hq]at hr;have hr:lpN I7 n (y,q.2)=some r:=hr;refine .skip ?_;refine .seq (.reg ?_);simp[We];refine(ei x y q hq).ca (by simp) ?_;simp;refine .seq (.reg ?_);simp[Wf,h0];refine⟨VZ,?_⟩;try simp[fnArgs]
   refine((ih y q.2 r hr h h0).w (by simp)).mono ?_;rintro v h' ⟨rfl,rfl⟩;refine .ret ?_;try simp only[Bb,ablk]
   refine .here ?_ rfl ⟨?_,?_⟩
   ·simp[Kh]
   ·simp[Kh]
   ·simp
set_option maxHeartbeats 4000000 in
theorem ur(ei:∀x y r,Nx x y=some r->B8 EE Tryz.prog 111 [slcV 1 (cI .u32) x,slcV 1 (cI .u32) y] (.tup [slcV 1 (cI .u32) r.1,slcV 1 (cI .u32) r.2]))(hZ:∀x r,GO x=some r->B8 EE Tryz.prog 112 [.str x] (slcV 1 (cI .u32) r))(od:∀x r,I6 x=some r->B8 EE Tryz.prog 113 [slcV 1 (cI .u32) x] (.str r))(a0:List UInt8)(b1:List UInt8)  (r:List UInt8)(h:Hq a0 b1=some r):B8 EE Tryz.prog 85 [.str a0,.str b1] (.str r):=by
 refine Pure.still ?_ hEE (by simp) (by simp);obtain⟨c,hb,hc⟩:=ck85;replace h:=Ok.of h;unfold Hq at h;obtain⟨x,hx,h⟩:=h.ex;obtain⟨y,hy,h⟩:=h.ex;obtain⟨q,hq,h⟩:=h.ex
 have ht:I6 q=some r:=by
  cases hx:I6 q with
  |none=>rw[hx]at h;exact h.no
  |some v=>rw[hx]at h;exact F5 some h.some
 rw[Ki]at hq;refine Pure.ofs (fn:=Tryz.f85) (n:=14) rfl hb cr85 (hc 0) rfl rfl (by simp) ?_;refine AW.rS [(0,.str a0),(1,.str b1)] [] ?_ ?_
 ·simp[Wg];exact .mk (by simp) (by simp) rfl
 refine AW.rS [(0,.str a0),(1,.str b1),(5,.ptr 0 1 0)] [(0,.box 1 [.nilfn])] ?_ ?_
 ·simp[Wh];exact .mk (by simp) (by simp) rfl
 refine AW.rS [(0,.str a0),(1,.str b1),(5,.ptr 0 1 0)] [(0,.box 1 [.fn 110 0 [.ptr 0 1 0]])] ?_ ?_
 ·simp[Wi];exact .mk (by simp) (by simp) rfl
 refine AW.dS [(4,.str r)] [(0,.gone 1)] ?_ ?_
 ·simp[Wj];refine(hZ a0 x hx).cd (by simp) ?_
  (try simp)
  refine(hZ b1 y hy).cd (by simp) ?_
  (try simp)
  refine⟨VZ,?_⟩;simp[fnArgs];refine⟨slcV 1 (cI .u32) q,[0],fun h' e=>((un ei _ x y q hq h' ?_).w (by simp)).mono ?_,?_⟩
  ·rw[e 0 (by simp)];simp[hl,Gr]
  ·rintro v h' ⟨rfl,rfl⟩;exact⟨rfl,rfl⟩
  simp;refine(od q r ht).cd (by simp) ?_
  (try simp)
  (repeat' apply And.intro)<;>first|kernel_rfl|exact .mk (by simp) (by simp) rfl
 exact AW.rt (rs:=rs85) [(4,.str r)] [(0,.gone 1)] (by simp) (by simp) rfl rfl (by simp[rs85]) (by simp[rs85])
def k85:Fc:=⟨85,[.str,.str],[false,false],[.str],fun x=>Hq x.1 x.2⟩
theorem ut(H1:Az k111)(H2:Az k112)(H3:Az k113):Az k85 := ⟨by kernel_rfl,fun x y e=>ur (fun a b r h=>H1.ok (a,b) r h) (fun a r h=>H2.ok a r h) (fun a r h=>H3.ok a r h) x.1 x.2 y e⟩
theorem Qz(x:Aa):VSub x .top:=.inl rfl
theorem Q0{k k':IntKind}{a b:Int}:VSub (.int k a) (.int k' b)↔k'=k/\b=a:=by
 constructor
 ·rintro(h|h|⟨_,_,_,_,h,_⟩);·cases h
  ·injection h with h1 h2;exact⟨h1,h2⟩
  ·cases h
 ·rintro⟨rfl,rfl⟩;exact .refl _
theorem Post.norm{E:Nat->Aa}{rs:List ARes}{R:Aa->Ax->Prop}{S:Au}(h:Post E rs R .ret S):Post E rs R .normal S:=h
end Go.Am

