/- Part C1: contracts of some functions of this seat. No condition. -/
import Derived.Test.YtomegmhiddbmbaaGreatDoorG1
import Derived.Test.YtomegmhiddbmbaaGreatDoorH1
set_option linter.unusedSimpArgs false
set_option linter.unusedVariables false
set_option maxRecDepth 100000
namespace Go.Am
open Go.Proofs
attribute [local simp] areg aop dreg dop Al.req Ae argU Al.args BW Al.unAll Req.val Req.when putT putH AL ablk CS Cp F4 GY BV Lp Lq Lr Ls Lt Lu Lv Lw Lx Lz L0 L2 L3 L5 IntKind.bits FD ARes.ok ARes.val Gb cut Al.quiet
attribute [local simp] Ho Hq Hr IK Hm Hn QY NW IQ IR
attribute [local simp] Hs IM IN KX KY look DR zipA wm wh
attribute [local simp] L6 L7 L8 L9 LA LB ED Gu Ht LC LD w_fn LE LF LG Bh Hu D3 IS Ai.ep Ai.plain Ai.owned
attribute [local simp] CU C0 La Lb Lc Ld Le Lf Lg Lh Li Lj Lk Ll Lm Ln KZ Bl lay CQ ldv Ee Bq EA Dh F5 BL Aa.kind
attribute [local simp] Aa.one_int Aa.one_bool Aa.one_str Aa.one_nils Aa.one_slc Aa.one_vec Aa.one_ptr Aa.one_eptr Aa.one_cptr Aa.one_nilp Aa.one_fn Aa.one_nilfn Aa.one_mp Aa.one_nilmp
attribute [local simp] Ku Kv Kw Kx Ky Kz K0 K2 K3 K4 K5 K6 K7 K8 K9 KA KB KC KD KE KF KG KH KI KJ KK KL KM KN KO KP KQ KR KS KT KU
attribute [local simp] LH cI cB cS cL LI LJ LK LL LM LN LO LP fzm fzh fzv fzl fz1 LQ LR LS LT LU List.range_succ LV LW LX LY LZ Dl Gv Ma Mb
attribute [local simp] Mc
attribute [local simp] Au.cells
attribute [local simp] Ag.cells
attribute [local simp] AN.cells
attribute [local simp] AK.cells
attribute [local simp] Aj.cells
attribute [local simp] Ba.cells
attribute [local simp] Cq.cells
attribute [local simp] AI.cells
attribute [local simp] AO.cells
attribute [local simp] Bc.cells
attribute [local simp] Cr.cells
attribute [local simp] BB.cells
attribute [local simp] A9.cells
attribute [local simp] Fx.cells
attribute [local simp] Em.cells
attribute [local simp] EF.cells
attribute [local simp] Bd.cells
attribute [local simp] Cs.cells
attribute [local simp] CA.cells
attribute [local simp] Ct.cells
attribute [local simp] Cu.cells
attribute [local simp] CB.cells
attribute [local simp] CC.cells
def v161:Cc:=⟨161,.int .u32,[],[],fun l _=>Qs l⟩
def w162:Wc:=⟨162,.int .u8,[],[],fun l _=>yzz l⟩
theorem hEE:∀i,AC (EE i):=fun _=>.top
theorem jzhc(l r:List Int)(X:Aa)(h:Ax)(s:Nat)(hF:Qs l=some r)(hp:(h s).plain)(hs:X=slcV 1 (cI .u32) l\/∃id ep lo m,id≠s/\X=.vec id ep lo (List.length l)/\h id=.vec ep 1 (List.length m) (Az (cI .u32) m)/\lo+List.length l<=List.length m/\∀k,k<List.length l->Az (cI .u32) m (lo+k)=Az (cI .u32) l k) :
  ATr EE Tryz.prog 161 [X] h fun v h'=>∃ep,v=.vec s ep 0 (List.length r)/\0<List.length r/\h'=hset h s (.vec ep 1 (List.length r) (Az (cI .u32) r)):=by
 have hh:r=l/\0<List.length l/\List.length l*4<=140737488355328:=by
  unfold Qs at hF;cases hx:(decide (0<List.length l)&&decide (List.length l*4<=140737488355328))
  ·rw[hx]at hF;cases hF
  ·rw[hx]at hF;simp only[AE,CO]at hx;cases hF;exact⟨rfl,hx⟩
 obtain⟨rfl,hn,fc⟩:=hh;obtain⟨c,hb,hc⟩:=jzkr;refine ATr.sub (R:=fun v h'=>∃ep f',v=.vec s ep 0 (List.length r)/\h'=hset h s (.vec ep 1 (List.length r) f')/\∀k,k<List.length r->f' k=Az (cI .u32) r k) ?_ ?_;rotate_left
 ·rintro v h' ⟨ep,f',rfl,rfl,hf⟩;refine⟨_,⟨ep,rfl,hn,rfl⟩,fun i=>?_⟩;simp only[hset];split
  ·exact .inr (.inr ⟨_,_,_,_,_,rfl,rfl,fun k hk=>(hf k hk).symm⟩)
  ·exact .refl _
 refine ATr.of (fn:=Tryz.f161) rfl hb jzjz (hc s) 7 rfl ?_;refine AW.sr (by simp[WF,List.replicate];rfl) ?_;rcases hs with rfl|⟨id,ep,lo,m,aL,rfl,hid,bW,hf⟩
 ·rw[LH];refine .seq ?_;refine AW.sr (by simp[Rd,hn];rfl) ?_;refine AW.if' false (by simp) (fun e=>by cases e) (fun _=>AW.skip ?_);refine AW.sr (by simp[Re,-Ai.plain,-Ai.ep,hset,hp,Bq,CQ,Bl,EA,Ee,fc];first|rfl|exact⟨rfl,rfl⟩|exact⟨hp,rfl,rfl⟩) ?_;refine .ret (Post.here (by simp[Md]) rfl ⟨(h s).ep+2,Az (cI .u32) r,by simp[Md],?_,fun k hk=>rfl⟩);funext j;simp only[hset];by_cases hj:j=s<;>simp[hj]
 ·refine .seq ?_;refine AW.sr (by simp[Rd,hid];rfl) ?_;refine AW.if' false (by simp) (fun e=>by cases e) (fun _=>AW.skip ?_);refine AW.sr (by simp[Re,-Ai.plain,-Ai.ep,hset,hp,Bq,CQ,Bl,EA,Ee,fc,hid,aL,bW];first|rfl|exact⟨rfl,rfl⟩|exact⟨hp,rfl,rfl⟩) ?_;refine .ret (Post.here (by simp[Md]) rfl ⟨(h s).ep+2,fun k=>Az (cI .u32) m (lo+k),by simp[Md],?_,hf⟩);funext j;simp only[hset];by_cases hj:j=s<;>simp[hj]
theorem jzhn:CcOk v161:=⟨by kernel_rfl,fun l x r X h s a b c=>jzhc l r X h s a b c⟩
theorem jzjd(l r:List Int)(h:Ax)(id ep:Nat)(hF:yzz l=some r)(hid:h id=ownO ep 1 (cI .u8) l) :
  ATr EE Tryz.prog 162 [ownV id ep l] h fun v h'=>v=.tup []/\h'=hset h id (ownO ep 1 (cI .u8) r)/\List.length r=List.length l:=by
 unfold yzz at hF;cases hx:decide (List.length l<=4611686018427387904)
 ·rw[hx]at hF;cases hF
 rw[hx]at hF;obtain rfl:r=l.reverse:=(BI hF).symm;simp only[CO]at hx;have main:=wzcu (E:=EE) Tryz.laysE35 (fun n=>.int .u8 n) (Value.int .u8) (fun _=>rfl) (fun g w x v hv=>by cases hv;rfl) (fun g w x=>.int _ _) (H:=h) (id:=id) (ep:=ep) (l:=l) hid (by omega);exact main.mono fun v h' ⟨a,b⟩=>⟨a,b,by simp⟩
theorem jzg0:WcOk w162:=⟨by kernel_rfl,fun l x r h id ep a b=>jzjd l r h id ep a b⟩
def k118:Fc:=⟨118,[.str],[false],[(.slc (.int .u32))],fun x=>GZ x⟩
def k117:Fc:=⟨117,[(.slc (.int .u32)),(.slc (.int .u32))],[false,false],[(.slc (.int .u32)),(.slc (.int .u32))],fun x=>NX x.1 x.2⟩
def k119:Fc:=⟨119,[(.slc (.int .u32))],[false],[.str],fun x=>IT x⟩
theorem WG:Ci Tryz.prog 116=true:=by kernel_rfl
set_option maxHeartbeats 4000000 in
theorem wzd4(fc:∀x y r,NX x y=some r->AY EE Tryz.prog 117 [slcV 1 (cI .u32) x,slcV 1 (cI .u32) y] (.tup [slcV 1 (cI .u32) r.1,slcV 1 (cI .u32) r.2])):∀(n:Nat) (x y r:List Int),lpN IU n (x,y)=some r->∀h:Ax,h 0=.box 1 [.fn 116 0 [.ptr 0 1 0]] ->
  ATr EE Tryz.prog 116 [slcV 1 (cI .u32) x,slcV 1 (cI .u32) y,.ptr 0 1 0] h (fun v h'=>v=slcV 1 (cI .u32) r/\h'=h):=by
 intro n;induction n with
 |zero=>intro x y r hr;cases hr
 |succ n ih =>
  intro x y r hr h h0;rw[lpN]at hr;obtain⟨c,bG,hc⟩:=wzf8;refine ATr.of (fn:=Tryz.f116) rfl bG wzfv (hc 0) 19 rfl ?_;refine .seq (.reg ?_);simp[WH];refine .seq (.seq (.reg ?_));simp[WI];refine .cond (t:=decide ((List.length y:Int)=0)) (by simp) (fun e=>?_) (fun e=>?_)
  ·have e':(IU (x,y))=some (.inr x):=by simp only[IU,e,ite']
   rw[e']at hr;cases hr;refine .seq (.reg ?_);simp[WJ];refine .ret ?_;simp only[AL,ablk];refine .here ?_ rfl ⟨?_,?_⟩
   ·simp[Me]
   ·simp[Me]
   ·simp
  ·have e':(IU (x,y))=bd (NX x y) fun r=>some (.inl (y,r.2)):=by simp only[IU,e,ite']
   rw[e']at hr;cases hq:NX x y with
   |none=>rw[hq]at hr;cases hr
   |some q =>
   rw[hq]at hr;have hr:lpN IU n (y,q.2)=some r:=hr;refine .skip ?_;refine .seq (.reg ?_);simp[WK];refine(fc x y q hq).ca (by simp) ?_;simp;refine .seq (.reg ?_);simp[WL,h0];refine⟨WG,?_⟩;try simp[fnArgs]
   refine((ih y q.2 r hr h h0).w (by simp)).mono ?_;rintro v h' ⟨rfl,rfl⟩;refine .ret ?_;try simp only[AL,ablk]
   refine .here ?_ rfl ⟨?_,?_⟩
   ·simp[Me]
   ·simp[Me]
   ·simp
set_option maxHeartbeats 4000000 in
theorem qzm1(fc:∀x y r,NX x y=some r->AY EE Tryz.prog 117 [slcV 1 (cI .u32) x,slcV 1 (cI .u32) y] (.tup [slcV 1 (cI .u32) r.1,slcV 1 (cI .u32) r.2]))(gq:∀x r,GZ x=some r->AY EE Tryz.prog 118 [.str x] (slcV 1 (cI .u32) r))(nf:∀x r,IT x=some r->AY EE Tryz.prog 119 [slcV 1 (cI .u32) x] (.str r))(a0:List UInt8)(b1:List UInt8)  (r:List UInt8)(h:Hv a0 b1=some r):AY EE Tryz.prog 89 [.str a0,.str b1] (.str r):=by
 refine Pure.still ?_ hEE (by simp) (by simp);obtain⟨c,hb,hc⟩:=ck89;replace h:=Ok.of h;unfold Hv at h;obtain⟨x,hx,h⟩:=h.ex;obtain⟨y,hy,h⟩:=h.ex;obtain⟨q,hq,h⟩:=h.ex
 have ht:IT q=some r:=by
  cases hx:IT q with
  |none=>rw[hx]at h;exact h.no
  |some v=>rw[hx]at h;exact E9 some h.some
 rw[Mf]at hq;refine Pure.ofs (fn:=Tryz.f89) (n:=14) rfl hb cr89 (hc 0) rfl rfl (by simp) ?_;refine AW.rS [(0,.str a0),(1,.str b1)] [] ?_ ?_
 ·simp[WM];exact .mk (by simp) (by simp) rfl
 refine AW.rS [(0,.str a0),(1,.str b1),(5,.ptr 0 1 0)] [(0,.box 1 [.nilfn])] ?_ ?_
 ·simp[WN];exact .mk (by simp) (by simp) rfl
 refine AW.rS [(0,.str a0),(1,.str b1),(5,.ptr 0 1 0)] [(0,.box 1 [.fn 116 0 [.ptr 0 1 0]])] ?_ ?_
 ·simp[WP];exact .mk (by simp) (by simp) rfl
 refine AW.dS [(4,.str r)] [(0,.gone 1)] ?_ ?_
 ·simp[WQ];refine(gq a0 x hx).cd (by simp) ?_
  (try simp)
  refine(gq b1 y hy).cd (by simp) ?_
  (try simp)
  refine⟨WG,?_⟩;simp[fnArgs];refine⟨slcV 1 (cI .u32) q,[0],fun h' e=>((wzd4 fc _ x y q hq h' ?_).w (by simp)).mono ?_,?_⟩
  ·rw[e 0 (by simp)];simp[hl,DR]
  ·rintro v h' ⟨rfl,rfl⟩;exact⟨rfl,rfl⟩
  simp;refine(nf q r ht).cd (by simp) ?_
  (try simp)
  (repeat' apply And.intro)<;>first|kernel_rfl|exact .mk (by simp) (by simp) rfl
 exact AW.rt (rs:=rs89) [(4,.str r)] [(0,.gone 1)] (by simp) (by simp) rfl rfl (by simp[rs89]) (by simp[rs89])
def k89:Fc:=⟨89,[.str,.str],[false,false],[.str],fun x=>Hv x.1 x.2⟩
theorem jzhv(H1:Av k117)(H2:Av k118)(H3:Av k119):Av k89 := ⟨by kernel_rfl,fun x y e=>qzm1 (fun a b r h=>H1.ok (a,b) r h) (fun a r h=>H2.ok a r h) (fun a r h=>H3.ok a r h) x.1 x.2 y e⟩
attribute [local simp] hset fzv fzl fzl fz1
theorem ATr.opaqueF{E:Nat->Aa}{P:Program}{f:FuncId}{args:List Aa}{r:Aa}{id:Nat}(hE:∀i,AC (E i))(ha:∀x,x∈args->AR [id] x)(hr:AR [id] r)(H:∀e,ATr E P f args (fun i=>if i=id then .gone e else .gone 0) (fun v h'=>v=r/\(h' id).ep=e)):AY E P f args r:=by
 intro h g w vs hh hv
 let hs:Ax:=fun i=>if i=id then .gone (h id).ep else .gone 0
 let g0:Gh:=⟨fun i=>if i∈[id] then g.blk i else 0,fun i=>if i∈[id] then g.ep i else 0,fun i=>if i∈[id] then g.bo i else 0,fun i=>if i∈[id] then g.st i else 0,fun i=>if i∈[id] then g.cp i else 0,g.fz⟩
 have hA:GAg [id] g g0:=⟨fun _ h=>h,fun i hi=>⟨Aq hi,Aq hi,Aq hi,Aq hi,Aq hi⟩⟩
 have no:∀i,(hs i).owned=true->False:=fun i hi=>by
  have:(hs i).owned=false:=by show(if i=id then Ai.gone _ else Ai.gone 0).owned=false;split<;>rfl
  rw[this]at hi;cases hi
 have H0:HR E g0 hs w:=by
  refine⟨fun i=>?_,fun i=>?_,fun i j hi hj e=>(no i hi).elim,fun i hi=>(no i hi).elim,hh.fzb,fun i=>(hh.glob i).ag hA (hE i).refs⟩
  ·show OR g0 w i (if i=id then .gone _ else .gone 0);split<;>trivial
  ·by_cases e:i=id;·subst e;show(if i∈[i] then g.ep i else 0)=(if i=i then Ai.gone (h i).ep else .gone 0).ep;rw[Aq (by simp),Aq rfl,hh.ep i];rfl
   ·show(if i∈[id] then g.ep i else 0)=(if i=id then Ai.gone (h id).ep else .gone 0).ep;rw[Ak (by simpa using e),Ak e];rfl
 refine(H _ g0 w vs H0 (hv.ag hA ha)).mono ?_;rintro e w' ⟨g',h',_,v,⟨rfl,hF⟩,rfl,bt,hH,st⟩
 have cm:∀i,i∈[id]->g'.blk i=g.blk i/\g'.ep i=g.ep i/\g'.bo i=g.bo i/\g'.st i=g.st i/\g'.cp i=g.cp i:=fun i hi=>by
  have bf:i=id:=by simpa using hi
  have e1:g'.ep i=g0.ep i:=by rw[hH.ep i,bf,hF];show(h id).ep=(if id∈[id] then g.ep id else 0);rw[Aq (by simp),hh.ep id]
  obtain⟨a,b,c,d⟩:=st.le.same i e1;obtain⟨a',b',c',d',e'⟩:=hA.pl i hi;exact⟨a.trans a',e1.trans b',b.trans c',c.trans d',d.trans e'⟩
 have aY:∀b,b<w.heap.size->w'.heap[b]?=w.heap[b]?:=fun b hb=>st.keep b hb fun i hi e=>(no i hi).elim
 let g2:Gh:=⟨g.blk,g.ep,g.bo,g.st,g.cp,g'.fz⟩
 have i9:GAg [id] g' g2:=⟨fun _ h=>h,fun i hi=>by obtain⟨a,b,c,d,e⟩:=cm i hi;exact⟨a.symm,b.symm,c.symm,d.symm,e.symm⟩⟩;have aD:GLe g w g2 w':=⟨fun b hb=>st.le.fz b hb,fun _=>AD _,fun _ _=>⟨rfl,rfl,rfl,rfl⟩⟩;refine⟨g2,h,_,v,⟨rfl,rfl⟩,rfl,bt.ag i9 hr,?_,⟨aD,st.os,st.tape,st.output,st.size,fun b hb hn=>aY b hb,fun i ho=>.inl ⟨i,ho,rfl⟩,fun b hb=>?_,st.drawn⟩⟩
 ·refine⟨fun i=>(hh.obj i).mono aD rfl fun ho=>aY _ ((hh.obj i).lt ho),hh.ep,hh.inj,fun i hi hf=>?_,hH.fzb,fun i=>(hh.glob i).mono aD⟩;have fe:g'.fz (g.blk i):=hf;rcases st.fzn _ fe with h1|⟨j,hj,ej⟩|h3
  ·exact hh.sep i hi h1
  ·exact no j hj
  ·have:g.blk i<w.heap.size:=(hh.obj i).lt hi;omega
 ·rcases st.fzn b hb with h1|⟨j,hj,ej⟩|h3;·exact .inl h1
  ·exact(no j hj).elim
  ·exact .inr (.inr h3)
theorem jzh7(id ep:Nat):AY EE Tryz.prog 57 [.mp id ep] (.fn 86 0 [keyC id ep]):=by
 refine ATr.opaqueF (id:=id) hEE (fun x hx=>by simp at hx;subst hx;exact .mp _ _ (by simp)) ?_ fun e=>?_
 ·refine .fn _ _ _ fun x hx=>?_;simp at hx;subst hx;refine .cptr _ _ _ fun j hj=>?_;obtain rfl:j=0:=by omega
  exact .mp _ _ (by simp)
 obtain⟨c,hb,hc⟩:=ck57;refine ATr.of (fn:=Tryz.f57) rfl hb cr57 (hc (id+1)) 3 rfl ?_;refine AW.sr (by simp[WR,List.replicate];rfl) ?_;refine .fz (id+1) (by simp) (by simp) ?_;refine AW.sr (by simp[WS];rfl) ?_;refine .ret (Post.here (by simp[rs57]) rfl ⟨?_,?_⟩)
 ·simp[rs57,keyC]
 ·simp
noncomputable def xm57:Mk:=⟨57,86,by kernel_rfl,jzh7⟩
theorem jzeg(x:Aa):VSub x .top:=.inl rfl
theorem jzej{k k':IntKind}{a b:Int}:VSub (.int k a) (.int k' b)↔k'=k/\b=a:=by
 constructor
 ·rintro(h|h|⟨_,_,_,_,h,_⟩);·cases h
  ·injection h with h1 h2;exact⟨h1,h2⟩
  ·cases h
 ·rintro⟨rfl,rfl⟩;exact .refl _
theorem OSub.of_eq{o o':Ai}(h:o'=o):OSub o o':=.inr (.inl h)
theorem NY(a:Ag):Bl (Ag.cells a)=true:=rfl
theorem Mg(a:Ag):(Ag.cells a).length=3:=rfl
theorem Post.norm{E:Nat->Aa}{rs:List ARes}{R:Aa->Ax->Prop}{S:Ay}(h:Post E rs R .ret S):Post E rs R .normal S:=h
theorem WT(a:Ag):List.take 3 (Ag.cells a)=Ag.cells a:=rfl
end Go.Am

