/- Part C1: contracts of some functions of this seat. No condition. -/
import Derived.Test.YtibbibelkkgfpaaGreatDoorG2
import Derived.Test.YtibbibelkkgfpaaGreatDoorH1
set_option linter.unusedSimpArgs false
set_option linter.unusedVariables false
set_option maxRecDepth 100000
namespace Go.Am
open Go.Proofs
attribute [local simp] areg aop dreg dop An.req Ag argU An.args BD An.unAll Req.val Req.when putT putH Ay ablk HS GA yzk G9 F3 vzo vz1 vz8 vzm yz3 yzu kz0 Mf yz8 yzr yzq IntKind.bits Gr ARes.ok ARes.val Gs cut An.quiet
attribute [local simp] UE UF UG UB UC UD O5 UY Va
attribute [local simp] JQ JP yzd Ma Mb look Dz zipA wm wh
attribute [local simp] Mg JS F6 GO Im Mh Mi yzy Fu yzc Th JT Ad.ep Ad.plain Ad.owned
attribute [local simp] CV Lx jz7 jzo jz0 jzf jz2 jz4 jzx jzn jzm jzk kzy wz4 kz1 wz2 jz6 Bz lay CA ldv DT Bj EF Cr yzh B2 Aa.kind
attribute [local simp] Aa.one_int Aa.one_bool Aa.one_str Aa.one_nils Aa.one_slc Aa.one_vec Aa.one_ptr Aa.one_eptr Aa.one_cptr Aa.one_nilp Aa.one_fn Aa.one_nilfn Aa.one_mp Aa.one_nilmp
attribute [local simp] yz6 LQ vz0 vzz yzt yzs vzt vz3 LR yzv yzo yzn yz0 LS vz4 vz7 vzx vzr vzq vz5 LT LU kzz kzx LV LW kzw kzv yz7 yz5 yzz yz4 LX LY yzw yz9
attribute [local simp] HL cI cB cS cL wz3 jzl jzj wzv kzu vzv kzs vz6 fzv fzl fz1 Mj vzw Mk yzp List.range_succ HW Pm jzp jzg

attribute [local simp] AM.cells Ao.cells Af.cells Bq.cells Bc.cells Al.cells Ba.cells Ec.cells GP.cells EA.cells Gt.cells AQ.cells A7.cells GQ.cells ES.cells DQ.cells EB.cells GR.cells GS.cells Dh.cells Gu.cells
def v140:Cc:=⟨140,.int .u32,[],[],fun l _=>F7 l⟩
def w143:Wc:=⟨143,.int .u8,[],[],fun l _=>In l⟩
theorem hEE:∀i,AB (EE i):=fun _=>.top
theorem ATr.wv{E:Nat->Aa}{P:Program}{f:FuncId}{args:List Aa}{h:Aq}{R R':Aa->Aq->Prop}(H:ATr E P f args h R)(hr:∀v h',R v h'->∃v',W v v'/\R' v' h'):ATr E P f args h R' :=
 fun g w vs hh hv=>(H g w vs hh hv).mono fun _ _ ⟨g',h',r,v,q,e,rv,rest⟩=>by obtain⟨v',w1,q'⟩:=hr r h' q;exact⟨g',h',v',v,q',e,RV.w w1 rv,rest⟩
theorem Vb:∀(n:Nat) (l:List Nat),l.Nodup->(∀x,x∈l->x<n)->l.length<=n
 |0,l,_,h=>by
  cases l with
  |nil=>simp
  |cons x l=>exact absurd (h x (by simp)) (by omega)
 |n+1,l,hd,h=>by
  have h1:=Vb n (l.erase n) (hd.erase n) (fun x hx=>by have h2:=(hd.mem_erase_iff).1 hx;have:=h x h2.2;omega);have:=List.length_erase_le (a:=n) (l:=l);by_cases hm:n∈l
  ·rw[List.length_erase_of_mem hm]at h1;omega
  ·rw[List.erase_of_not_mem hm]at h1;omega
theorem wzq3{n:Nat}{ord:List Nat}(d7:ord.Nodup)(h:∀x,x∈ord↔x<n):ord.Perm (List.range n):=by rw[List.perm_ext_iff_of_nodup d7 List.nodup_range];intro a;rw[h,Jz]
theorem wzp1(l r:List Int)(X:Aa)(h:Aq)(s:Nat)(hF:F7 l=some r)(hp:(h s).plain)(hs:X=slcV 1 (cI .u32) l\/∃id ep lo m,id≠s/\X=.vec id ep lo (List.length l)/\h id=.vec ep 1 (List.length m) (Ai (cI .u32) m)/\lo+List.length l<=List.length m/\∀k,k<List.length l->Ai (cI .u32) m (lo+k)=Ai (cI .u32) l k) :
  ATr EE Tryz.prog 140 [X] h fun v h'=>∃ep,v=.vec s ep 0 (List.length r)/\0<List.length r/\h'=hset h s (.vec ep 1 (List.length r) (Ai (cI .u32) r)):=by
 have hh:r=l/\0<List.length l/\List.length l*4<=140737488355328:=by
  unfold F7 at hF;cases hx:(decide (0<List.length l)&&decide (List.length l*4<=140737488355328))
  ·rw[hx]at hF;cases hF
  ·rw[hx]at hF;simp only[AH,CS]at hx;cases hF;exact⟨rfl,hx⟩
 obtain⟨rfl,hn,bU⟩:=hh;obtain⟨c,hb,hc⟩:=wzub;refine ATr.sub (R:=fun v h'=>∃ep f',v=.vec s ep 0 (List.length r)/\h'=hset h s (.vec ep 1 (List.length r) f')/\∀k,k<List.length r->f' k=Ai (cI .u32) r k) ?_ ?_;rotate_left
 ·rintro v h' ⟨ep,f',rfl,rfl,hf⟩;refine⟨_,⟨ep,rfl,hn,rfl⟩,fun i=>?_⟩;simp only[hset];split
  ·exact .inr (.inr ⟨_,_,_,_,_,rfl,rfl,fun k hk=>(hf k hk).symm⟩)
  ·exact .refl _
 refine ATr.of (fn:=Tryz.f140) rfl hb wzus (hc s) 7 rfl ?_;refine AW.sr (by simp[Ve,List.replicate];rfl) ?_;rcases hs with rfl|⟨id,ep,lo,m,aI,rfl,hid,cR,hf⟩
 ·rw[HL];refine .seq ?_;refine AW.sr (by simp[Pn,hn];rfl) ?_;refine AW.if' false (by simp) (fun e=>by cases e) (fun _=>AW.skip ?_);refine AW.sr (by simp[Po,-Ad.plain,-Ad.ep,hset,hp,Bj,CA,Bz,EF,DT,bU];first|rfl|exact⟨rfl,rfl⟩|exact⟨hp,rfl,rfl⟩) ?_;refine .ret (Post.here (by simp[JU]) rfl ⟨(h s).ep+2,Ai (cI .u32) r,by simp[JU],?_,fun k hk=>rfl⟩);funext j;simp only[hset];by_cases hj:j=s<;>simp[hj]
 ·refine .seq ?_;refine AW.sr (by simp[Pn,hid];rfl) ?_;refine AW.if' false (by simp) (fun e=>by cases e) (fun _=>AW.skip ?_);refine AW.sr (by simp[Po,-Ad.plain,-Ad.ep,hset,hp,Bj,CA,Bz,EF,DT,bU,hid,aI,cR];first|rfl|exact⟨rfl,rfl⟩|exact⟨hp,rfl,rfl⟩) ?_;refine .ret (Post.here (by simp[JU]) rfl ⟨(h s).ep+2,fun k=>Ai (cI .u32) m (lo+k),by simp[JU],?_,hf⟩);funext j;simp only[hset];by_cases hj:j=s<;>simp[hj]
theorem wzpa:CcOk v140:=⟨by kernel_rfl,fun l x r X h s a b c=>wzp1 l r X h s a b c⟩
theorem wzuw(l r:List Int)(h:Aq)(id ep:Nat)(hF:In l=some r)(hid:h id=ownO ep 1 (cI .u8) l) :
  ATr EE Tryz.prog 143 [ownV id ep l] h fun v h'=>v=.tup []/\h'=hset h id (ownO ep 1 (cI .u8) r)/\List.length r=List.length l:=by
 unfold In at hF;cases hx:decide (List.length l<=4611686018427387904)
 ·rw[hx]at hF;cases hF
 rw[hx]at hF;obtain rfl:r=l.reverse:=(AI hF).symm;simp only[CS]at hx;have main:=wzpn (E:=EE) Tryz.laysE35 (fun n=>.int .u8 n) (Value.int .u8) (fun _=>rfl) (fun g w x v hv=>by cases hv;rfl) (fun g w x=>.int _ _) (H:=h) (id:=id) (ep:=ep) (l:=l) hid (by omega);exact main.mono fun v h' ⟨a,b⟩=>⟨a,b,by simp⟩
theorem wzqa:WcOk w143:=⟨by kernel_rfl,fun l x r h id ep a b=>wzuw l r h id ep a b⟩
def k104:Fc:=⟨104,[.str],[false],[(.slc (.int .u32))],fun x=>Gv x⟩
def k103:Fc:=⟨103,[(.slc (.int .u32)),(.slc (.int .u32))],[false,false],[(.slc (.int .u32)),(.slc (.int .u32))],fun x=>ET x.1 x.2⟩
def k105:Fc:=⟨105,[(.slc (.int .u32))],[false],[.str],fun x=>Io x⟩
theorem Vf:CX Tryz.prog 102=true:=by kernel_rfl
set_option maxHeartbeats 4000000 in
theorem wzos(bU:∀x y r,ET x y=some r->AJ EE Tryz.prog 103 [slcV 1 (cI .u32) x,slcV 1 (cI .u32) y] (.tup [slcV 1 (cI .u32) r.1,slcV 1 (cI .u32) r.2])):∀(n:Nat) (x y r:List Int),lpN Ip n (x,y)=some r->∀h:Aq,h 0=.box 1 [.fn 102 0 [.ptr 0 1 0]] ->
  ATr EE Tryz.prog 102 [slcV 1 (cI .u32) x,slcV 1 (cI .u32) y,.ptr 0 1 0] h (fun v h'=>v=slcV 1 (cI .u32) r/\h'=h):=by
 intro n;induction n with
 |zero=>intro x y r hr;cases hr
 |succ n ih =>
  intro x y r hr h h0;rw[lpN]at hr;obtain⟨c,cH,hc⟩:=wzwx;refine ATr.of (fn:=Tryz.f102) rfl cH wzuo (hc 0) 19 rfl ?_;refine .seq (.reg ?_);simp[Vg];refine .seq (.seq (.reg ?_));simp[Vh];refine .cond (t:=decide ((List.length y:Int)=0)) (by simp) (fun e=>?_) (fun e=>?_)
  ·have e':(Ip (x,y))=some (.inr x):=by simp only[Ip,e,ite']
   rw[e']at hr;cases hr;refine .seq (.reg ?_);simp[Vi];refine .ret ?_;simp only[Ay,ablk];refine .here ?_ rfl ⟨?_,?_⟩
   ·simp[JV]
   ·simp[JV]
   ·simp
  ·have e':(Ip (x,y))=bd (ET x y) fun r=>some (.inl (y,r.2)):=by simp only[Ip,e,ite']
   rw[e']at hr;cases hq:ET x y with
   |none=>rw[hq]at hr;cases hr
   |some q =>
   rw[hq]at hr;have hr:lpN Ip n (y,q.2)=some r:=hr;refine .skip ?_;refine .seq (.reg ?_);simp[Vj];refine(bU x y q hq).ca (by simp) ?_;simp;refine .seq (.reg ?_);simp[Vk,h0];refine⟨Vf,?_⟩;try simp[fnArgs]
   refine((ih y q.2 r hr h h0).w (by simp)).mono ?_;rintro v h' ⟨rfl,rfl⟩;refine .ret ?_;try simp only[Ay,ablk]
   refine .here ?_ rfl ⟨?_,?_⟩
   ·simp[JV]
   ·simp[JV]
   ·simp
set_option maxHeartbeats 4000000 in
theorem qz6a(bU:∀x y r,ET x y=some r->AJ EE Tryz.prog 103 [slcV 1 (cI .u32) x,slcV 1 (cI .u32) y] (.tup [slcV 1 (cI .u32) r.1,slcV 1 (cI .u32) r.2]))(gG:∀x r,Gv x=some r->AJ EE Tryz.prog 104 [.str x] (slcV 1 (cI .u32) r))(nS:∀x r,Io x=some r->AJ EE Tryz.prog 105 [slcV 1 (cI .u32) x] (.str r))(a0:List UInt8)(b1:List UInt8)  (r:List UInt8)(h:GT a0 b1=some r):AJ EE Tryz.prog 61 [.str a0,.str b1] (.str r):=by
 refine Pure.still ?_ hEE (by simp) (by simp);obtain⟨c,hb,hc⟩:=ck61;replace h:=Ok.of h;unfold GT at h;obtain⟨x,hx,h⟩:=h.ex;obtain⟨y,hy,h⟩:=h.ex;obtain⟨q,hq,h⟩:=h.ex
 have ht:Io q=some r:=by
  cases hx:Io q with
  |none=>rw[hx]at h;exact h.no
  |some v=>rw[hx]at h;exact Fy some h.some
 rw[JW]at hq;refine Pure.ofs (fn:=Tryz.f61) (n:=14) rfl hb cr61 (hc 0) rfl rfl (by simp) ?_;refine AW.rS [(0,.str a0),(1,.str b1)] [] ?_ ?_
 ·simp[Vl];exact .mk (by simp) (by simp) rfl
 refine AW.rS [(0,.str a0),(1,.str b1),(5,.ptr 0 1 0)] [(0,.box 1 [.nilfn])] ?_ ?_
 ·simp[Vm];exact .mk (by simp) (by simp) rfl
 refine AW.rS [(0,.str a0),(1,.str b1),(5,.ptr 0 1 0)] [(0,.box 1 [.fn 102 0 [.ptr 0 1 0]])] ?_ ?_
 ·simp[Vn];exact .mk (by simp) (by simp) rfl
 refine AW.dS [(4,.str r)] [(0,.gone 1)] ?_ ?_
 ·simp[Vo];refine(gG a0 x hx).cd (by simp) ?_
  (try simp)
  refine(gG b1 y hy).cd (by simp) ?_
  (try simp)
  refine⟨Vf,?_⟩;simp[fnArgs];refine⟨slcV 1 (cI .u32) q,[0],fun h' e=>((wzos bU _ x y q hq h' ?_).w (by simp)).mono ?_,?_⟩
  ·rw[e 0 (by simp)];simp[hl,Dz]
  ·rintro v h' ⟨rfl,rfl⟩;exact⟨rfl,rfl⟩
  simp;refine(nS q r ht).cd (by simp) ?_
  (try simp)
  (repeat' apply And.intro)<;>first|kernel_rfl|exact .mk (by simp) (by simp) rfl
 exact AW.rt (rs:=rs61) [(4,.str r)] [(0,.gone 1)] (by simp) (by simp) rfl rfl (by simp[rs61]) (by simp[rs61])
def k61:Fc:=⟨61,[.str,.str],[false,false],[.str],fun x=>GT x.1 x.2⟩
theorem wzrw(H1:Ap k103)(H2:Ap k104)(H3:Ap k105):Ap k61 := ⟨by kernel_rfl,fun x y e=>qz6a (fun a b r h=>H1.ok (a,b) r h) (fun a r h=>H2.ok a r h) (fun a r h=>H3.ok a r h) x.1 x.2 y e⟩
theorem OSub.of_eq{o o':Ad}(h:o'=o):OSub o o':=.inr (.inl h)
theorem Post.norm{E:Nat->Aa}{rs:List ARes}{R:Aa->Aq->Prop}{S:As}(h:Post E rs R .ret S):Post E rs R .normal S:=h
end Go.Am

