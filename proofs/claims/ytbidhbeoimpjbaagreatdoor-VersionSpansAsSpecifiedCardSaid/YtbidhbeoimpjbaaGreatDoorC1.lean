/- Part C1: contracts of some functions of this seat. No condition. -/
import Derived.Test.YtbidhbeoimpjbaaGreatDoorG1
import Derived.Test.YtbidhbeoimpjbaaGreatDoorH1
set_option linter.unusedSimpArgs false
set_option linter.unusedVariables false
set_option maxRecDepth 100000
namespace Go.Am
open Go.Proofs
attribute [local simp] areg aop dreg dop Ak.req Ag argU Ak.args BL Ak.unAll Req.val Req.when putT putH Bc ablk CA Cf Gf GZ BG MN MO MP MQ MR MS MT MU MV MW MX MY MZ Na IntKind.bits EK ARes.ok ARes.val F5 cut Ak.quiet
attribute [local simp] Gq Gr Gs Hl Gn Gp PS U7 Ko Kp
attribute [local simp] Iy Kl Km M4 M5 look Gt zipA wm wh
attribute [local simp] Nb Nc Nd Nf Ng Nh Gu Gv I0 Ni Nj w_fn Nk Nl Nm Bd I3 DS Kq Ai.ep Ai.plain Ai.owned
attribute [local simp] C0 Cs M8 M9 MA MB MC MD ME MF MG MH MI MJ MK ML M7 AZ lay Cr ldv DM Bj EH Dh Gg Co Aa.kind
attribute [local simp] Aa.one_int Aa.one_bool Aa.one_str Aa.one_nils Aa.one_slc Aa.one_vec Aa.one_ptr Aa.one_eptr Aa.one_cptr Aa.one_nilp Aa.one_fn Aa.one_nilfn Aa.one_mp Aa.one_nilmp
attribute [local simp] LS LT LU LV LW LX LY LZ Ma Mb Mc Md Me Mf Mg Mh Mi Mj Ml Mm Mn Mo Mp Mq Mr Ms Mt Mu Mv Mw Mx My Mz M0 M1 M2
attribute [local simp] Ib cI cB cS cL Nn Np Nq Nr Ns Nt Nu Nv fzm fzh fzv fzl fz1 Nw Nx Ny Nz N0 List.range_succ N2 N3 N4 N5 N6 Dx Hm N7 N8
attribute [local simp] N9
attribute [local simp] AJ.cells
attribute [local simp] AF.cells
attribute [local simp] AH.cells
attribute [local simp] Ac.cells
attribute [local simp] CD.cells
attribute [local simp] Au.cells
attribute [local simp] BC.cells
attribute [local simp] CP.cells
attribute [local simp] AB.cells
attribute [local simp] BM.cells
attribute [local simp] FI.cells
attribute [local simp] FJ.cells
attribute [local simp] Bw.cells
attribute [local simp] Ba.cells
attribute [local simp] CQ.cells
attribute [local simp] CE.cells
attribute [local simp] CR.cells
attribute [local simp] BT.cells
def v130:Cc:=⟨130,.int .u32,[],[],fun l _=>Gw l⟩
def w133:Wc:=⟨133,.int .u8,[],[],fun l _=>I4 l⟩
theorem hEE:∀i,AG (EE i):=fun _=>.top
theorem jzhc(l r:List Int)(X:Aa)(h:Ay)(s:Nat)(hF:Gw l=some r)(hp:(h s).plain)(hs:X=slcV 1 (cI .u32) l\/∃id ep lo m,id≠s/\X=.vec id ep lo (List.length l)/\h id=.vec ep 1 (List.length m) (Az (cI .u32) m)/\lo+List.length l<=List.length m/\∀k,k<List.length l->Az (cI .u32) m (lo+k)=Az (cI .u32) l k) :
  ATr EE Tryz.prog 130 [X] h fun v h'=>∃ep,v=.vec s ep 0 (List.length r)/\0<List.length r/\h'=hset h s (.vec ep 1 (List.length r) (Az (cI .u32) r)):=by
 have hh:r=l/\0<List.length l/\List.length l*4<=140737488355328:=by
  unfold Gw at hF;cases hx:(decide (0<List.length l)&&decide (List.length l*4<=140737488355328))
  ·rw[hx]at hF;cases hF
  ·rw[hx]at hF;simp only[AE,BE]at hx;cases hF;exact⟨rfl,hx⟩
 obtain⟨rfl,hn,dX⟩:=hh;obtain⟨c,hb,hc⟩:=kzbt;refine ATr.sub (R:=fun v h'=>∃ep f',v=.vec s ep 0 (List.length r)/\h'=hset h s (.vec ep 1 (List.length r) f')/\∀k,k<List.length r->f' k=Az (cI .u32) r k) ?_ ?_;rotate_left
 ·rintro v h' ⟨ep,f',rfl,rfl,hf⟩;refine⟨_,⟨ep,rfl,hn,rfl⟩,fun i=>?_⟩;simp only[hset];split
  ·exact .inr (.inr ⟨_,_,_,_,_,rfl,rfl,fun k hk=>(hf k hk).symm⟩)
  ·exact .refl _
 refine ATr.of (fn:=Tryz.f130) rfl hb kzbw (hc s) 7 rfl ?_;refine AW.sr (by simp[Wm,List.replicate];rfl) ?_;rcases hs with rfl|⟨id,ep,lo,m,aH,rfl,hid,bW,hf⟩
 ·rw[Ib];refine .seq ?_;refine AW.sr (by simp[QF,hn];rfl) ?_;refine AW.if' false (by simp) (fun e=>by cases e) (fun _=>AW.skip ?_);refine AW.sr (by simp[QG,-Ai.plain,-Ai.ep,hset,hp,Bj,Cr,AZ,EH,DM,dX];first|rfl|exact⟨rfl,rfl⟩|exact⟨hp,rfl,rfl⟩) ?_;refine .ret (Post.here (by simp[Kr]) rfl ⟨(h s).ep+2,Az (cI .u32) r,by simp[Kr],?_,fun k hk=>rfl⟩);funext j;simp only[hset];by_cases hj:j=s<;>simp[hj]
 ·refine .seq ?_;refine AW.sr (by simp[QF,hid];rfl) ?_;refine AW.if' false (by simp) (fun e=>by cases e) (fun _=>AW.skip ?_);refine AW.sr (by simp[QG,-Ai.plain,-Ai.ep,hset,hp,Bj,Cr,AZ,EH,DM,dX,hid,aH,bW];first|rfl|exact⟨rfl,rfl⟩|exact⟨hp,rfl,rfl⟩) ?_;refine .ret (Post.here (by simp[Kr]) rfl ⟨(h s).ep+2,fun k=>Az (cI .u32) m (lo+k),by simp[Kr],?_,hf⟩);funext j;simp only[hset];by_cases hj:j=s<;>simp[hj]
theorem kza9:CcOk v130:=⟨by kernel_rfl,fun l x r X h s a b c=>jzhc l r X h s a b c⟩
theorem jzjd(l r:List Int)(h:Ay)(id ep:Nat)(hF:I4 l=some r)(hid:h id=ownO ep 1 (cI .u8) l) :
  ATr EE Tryz.prog 133 [ownV id ep l] h fun v h'=>v=.tup []/\h'=hset h id (ownO ep 1 (cI .u8) r)/\List.length r=List.length l:=by
 unfold I4 at hF;cases hx:decide (List.length l<=4611686018427387904)
 ·rw[hx]at hF;cases hF
 rw[hx]at hF;obtain rfl:r=l.reverse:=(BD hF).symm;simp only[BE]at hx;have main:=wzcu (E:=EE) Tryz.laysE35 (fun n=>.int .u8 n) (Value.int .u8) (fun _=>rfl) (fun g w x v hv=>by cases hv;rfl) (fun g w x=>.int _ _) (H:=h) (id:=id) (ep:=ep) (l:=l) hid (by omega);exact main.mono fun v h' ⟨a,b⟩=>⟨a,b,by simp⟩
theorem kza7:WcOk w133:=⟨by kernel_rfl,fun l x r h id ep a b=>jzjd l r h id ep a b⟩
def k112:Fc:=⟨112,[.str],[false],[(.slc (.int .u32))],fun x=>GQ x⟩
def k111:Fc:=⟨111,[(.slc (.int .u32)),(.slc (.int .u32))],[false,false],[(.slc (.int .u32)),(.slc (.int .u32))],fun x=>NA x.1 x.2⟩
def k113:Fc:=⟨113,[(.slc (.int .u32))],[false],[.str],fun x=>I5 x⟩
theorem Wn:Cp Tryz.prog 110=true:=by kernel_rfl
set_option maxHeartbeats 4000000 in
theorem wzd4(dX:∀x y r,NA x y=some r->B8 EE Tryz.prog 111 [slcV 1 (cI .u32) x,slcV 1 (cI .u32) y] (.tup [slcV 1 (cI .u32) r.1,slcV 1 (cI .u32) r.2])):∀(n:Nat) (x y r:List Int),lpN I6 n (x,y)=some r->∀h:Ay,h 0=.box 1 [.fn 110 0 [.ptr 0 1 0]] ->
  ATr EE Tryz.prog 110 [slcV 1 (cI .u32) x,slcV 1 (cI .u32) y,.ptr 0 1 0] h (fun v h'=>v=slcV 1 (cI .u32) r/\h'=h):=by
 intro n;induction n with
 |zero=>intro x y r hr;cases hr
 |succ n ih =>
  intro x y r hr h h0;rw[lpN]at hr;obtain⟨c,c6,hc⟩:=jzwd;refine ATr.of (fn:=Tryz.f110) rfl c6 jzw8 (hc 0) 19 rfl ?_;refine .seq (.reg ?_);simp[Wo];refine .seq (.seq (.reg ?_));simp[Wp];refine .cond (t:=decide ((List.length y:Int)=0)) (by simp) (fun e=>?_) (fun e=>?_)
  ·have e':(I6 (x,y))=some (.inr x):=by simp only[I6,e,ite']
   rw[e']at hr;cases hr;refine .seq (.reg ?_);simp[Wq];refine .ret ?_;simp only[Bc,ablk];refine .here ?_ rfl ⟨?_,?_⟩
   ·simp[Ks]
   ·simp[Ks]
   ·simp
  ·have e':(I6 (x,y))=bd (NA x y) fun r=>some (.inl (y,r.2)):=by simp only[I6,e,ite']
   rw[e']at hr;cases hq:NA x y with
   |none=>rw[hq]at hr;cases hr
   |some q =>
   rw[hq]at hr;have hr:lpN I6 n (y,q.2)=some r:=hr;refine .skip ?_;refine .seq (.reg ?_);simp[Wr];refine(dX x y q hq).ca (by simp) ?_;simp;refine .seq (.reg ?_);simp[Wt,h0];refine⟨Wn,?_⟩;try simp[fnArgs]
   refine((ih y q.2 r hr h h0).w (by simp)).mono ?_;rintro v h' ⟨rfl,rfl⟩;refine .ret ?_;try simp only[Bc,ablk]
   refine .here ?_ rfl ⟨?_,?_⟩
   ·simp[Ks]
   ·simp[Ks]
   ·simp
set_option maxHeartbeats 4000000 in
theorem qzm1(dX:∀x y r,NA x y=some r->B8 EE Tryz.prog 111 [slcV 1 (cI .u32) x,slcV 1 (cI .u32) y] (.tup [slcV 1 (cI .u32) r.1,slcV 1 (cI .u32) r.2]))(gS:∀x r,GQ x=some r->B8 EE Tryz.prog 112 [.str x] (slcV 1 (cI .u32) r))(nN:∀x r,I5 x=some r->B8 EE Tryz.prog 113 [slcV 1 (cI .u32) x] (.str r))(a0:List UInt8)(b1:List UInt8)  (r:List UInt8)(h:Hn a0 b1=some r):B8 EE Tryz.prog 85 [.str a0,.str b1] (.str r):=by
 refine Pure.still ?_ hEE (by simp) (by simp);obtain⟨c,hb,hc⟩:=ck85;replace h:=Ok.of h;unfold Hn at h;obtain⟨x,hx,h⟩:=h.ex;obtain⟨y,hy,h⟩:=h.ex;obtain⟨q,hq,h⟩:=h.ex
 have ht:I5 q=some r:=by
  cases hx:I5 q with
  |none=>rw[hx]at h;exact h.no
  |some v=>rw[hx]at h;exact F3 some h.some
 rw[Kt]at hq;refine Pure.ofs (fn:=Tryz.f85) (n:=14) rfl hb cr85 (hc 0) rfl rfl (by simp) ?_;refine AW.rS [(0,.str a0),(1,.str b1)] [] ?_ ?_
 ·simp[Wu];exact .mk (by simp) (by simp) rfl
 refine AW.rS [(0,.str a0),(1,.str b1),(5,.ptr 0 1 0)] [(0,.box 1 [.nilfn])] ?_ ?_
 ·simp[Wv];exact .mk (by simp) (by simp) rfl
 refine AW.rS [(0,.str a0),(1,.str b1),(5,.ptr 0 1 0)] [(0,.box 1 [.fn 110 0 [.ptr 0 1 0]])] ?_ ?_
 ·simp[Ww];exact .mk (by simp) (by simp) rfl
 refine AW.dS [(4,.str r)] [(0,.gone 1)] ?_ ?_
 ·simp[Wx];refine(gS a0 x hx).cd (by simp) ?_
  (try simp)
  refine(gS b1 y hy).cd (by simp) ?_
  (try simp)
  refine⟨Wn,?_⟩;simp[fnArgs];refine⟨slcV 1 (cI .u32) q,[0],fun h' e=>((wzd4 dX _ x y q hq h' ?_).w (by simp)).mono ?_,?_⟩
  ·rw[e 0 (by simp)];simp[hl,Gt]
  ·rintro v h' ⟨rfl,rfl⟩;exact⟨rfl,rfl⟩
  simp;refine(nN q r ht).cd (by simp) ?_
  (try simp)
  (repeat' apply And.intro)<;>first|kernel_rfl|exact .mk (by simp) (by simp) rfl
 exact AW.rt (rs:=rs85) [(4,.str r)] [(0,.gone 1)] (by simp) (by simp) rfl rfl (by simp[rs85]) (by simp[rs85])
def k85:Fc:=⟨85,[.str,.str],[false,false],[.str],fun x=>Hn x.1 x.2⟩
theorem kzbh(H1:As k111)(H2:As k112)(H3:As k113):As k85 := ⟨by kernel_rfl,fun x y e=>qzm1 (fun a b r h=>H1.ok (a,b) r h) (fun a r h=>H2.ok a r h) (fun a r h=>H3.ok a r h) x.1 x.2 y e⟩
theorem QH(x:Aa):VSub x .top:=.inl rfl
theorem QI{k k':IntKind}{a b:Int}:VSub (.int k a) (.int k' b)↔k'=k/\b=a:=by
 constructor
 ·rintro(h|h|⟨_,_,_,_,h,_⟩);·cases h
  ·injection h with h1 h2;exact⟨h1,h2⟩
  ·cases h
 ·rintro⟨rfl,rfl⟩;exact .refl _
end Go.Am

