/- Part C1: contracts of some functions of this seat. No condition. -/
import Derived.Test.YtiaclogojhfmfaaGreatDoorG1
import Derived.Test.YtiaclogojhfmfaaGreatDoorH1
set_option linter.unusedSimpArgs false
set_option linter.unusedVariables false
set_option maxRecDepth 100000
namespace Go.Am
open Go.Proofs
attribute [local simp] areg aop dreg dop Al.req Ag argU Al.args Ca Al.unAll Req.val Req.when putT putH Dp ablk Dq CH JK JB Co qzif qzid qzh7 qzh1 qzhy qzko qzhz qzji qzim qzgg qznh qzj2 qzkg qzjx IntKind.bits Gc ARes.ok ARes.val GD cut Al.quiet
attribute [local simp] Kh Ki Kj LW Kf Kg UJ qz1 UY UZ
attribute [local simp] Pm UT UU qzih qzm4 look HD zipA wm wh
attribute [local simp] qzm7 qzpn qzpz qzmg qzpx qzmf Ha LY Po qzqk qzpm w_fn qznc qzjs qzjh Bz Pp Ge Va Aj.ep Aj.plain Aj.owned
attribute [local simp] CP Dr qzeu qzdp qzey qzd2 qze5 qzfk qze7 qzdi qzdk qzd0 qzgy qzcq qzg5 qzc6 qzfa BB lay CR ldv Eg Bq E6 DC JL Cy Aa.kind
attribute [local simp] Aa.one_int Aa.one_bool Aa.one_str Aa.one_nils Aa.one_slc Aa.one_vec Aa.one_ptr Aa.one_eptr Aa.one_cptr Aa.one_nilp Aa.one_fn Aa.one_nilfn Aa.one_mp Aa.one_nilmp
attribute [local simp] qzkh qzkv qzh8 qzh4 qzkt qzjr qzii qzik qzjn qzkm qzjf qzjw qzkl qzje qzh6 qzhx qzin qzig qzh5 qzio qzm9 qzna qzgf qzgr qzmt qzmr qzgn qzgz qzj6 qzj9 qzjv qzka qzju qzki qzkr qzku
attribute [local simp] LZ cI cB cS cL qzc3 qzdh qzdz qzb7 qzg1 qzh0 qzgc qziq fzm fzh fzv fzl fz1 qzjm qzhw qzjp qzjl qzjk List.range_succ qzd5 qze0 qzfg qzco qzdq E8 Ma qzdw qzd4
attribute [local simp] qzj0
attribute [local simp] Ae.cells
attribute [local simp] DK.cells
attribute [local simp] Bd.cells
attribute [local simp] AO.cells
attribute [local simp] AM.cells
attribute [local simp] Ah.cells
attribute [local simp] At.cells
attribute [local simp] Dx.cells
attribute [local simp] Cq.cells
attribute [local simp] DL.cells
attribute [local simp] B8.cells
attribute [local simp] AT.cells
attribute [local simp] Dy.cells
attribute [local simp] Az.cells
attribute [local simp] Cw.cells
attribute [local simp] GE.cells
attribute [local simp] GF.cells
attribute [local simp] BC.cells
attribute [local simp] DM.cells
attribute [local simp] B9.cells
attribute [local simp] DN.cells
attribute [local simp] Bv.cells
attribute [local simp] AU.cells
def v170:Cc:=⟨170,.int .u32,[],[],fun l _=>Gf l⟩
def w173:Wc:=⟨173,.int .u8,[],[],fun l _=>Ig l⟩
theorem hEE:∀i,AF (EE i):=fun _=>.top
theorem jzhc(l r:List Int)(X:Aa)(h:Aw)(s:Nat)(hF:Gf l=some r)(hp:(h s).plain)(hs:X=slcV 1 (cI .u32) l\/∃id ep lo m,id≠s/\X=.vec id ep lo (List.length l)/\h id=.vec ep 1 (List.length m) (A0 (cI .u32) m)/\lo+List.length l<=List.length m/\∀k,k<List.length l->A0 (cI .u32) m (lo+k)=A0 (cI .u32) l k) :
  ATr EE Tryz.prog 170 [X] h fun v h'=>∃ep,v=.vec s ep 0 (List.length r)/\0<List.length r/\h'=hset h s (.vec ep 1 (List.length r) (A0 (cI .u32) r)):=by
 have hh:r=l/\0<List.length l/\List.length l*4<=140737488355328:=by
  unfold Gf at hF;cases hx:(decide (0<List.length l)&&decide (List.length l*4<=140737488355328))
  ·rw[hx]at hF;cases hF
  ·rw[hx]at hF;simp only[AE,Bp]at hx;cases hF;exact⟨rfl,hx⟩
 obtain⟨rfl,hn,eF⟩:=hh;obtain⟨c,hb,hc⟩:=jzwj;refine ATr.sub (R:=fun v h'=>∃ep f',v=.vec s ep 0 (List.length r)/\h'=hset h s (.vec ep 1 (List.length r) f')/\∀k,k<List.length r->f' k=A0 (cI .u32) r k) ?_ ?_;rotate_left
 ·rintro v h' ⟨ep,f',rfl,rfl,hf⟩;refine⟨_,⟨ep,rfl,hn,rfl⟩,fun i=>?_⟩;simp only[hset];split
  ·exact .inr (.inr ⟨_,_,_,_,_,rfl,rfl,fun k hk=>(hf k hk).symm⟩)
  ·exact .refl _
 refine ATr.of (fn:=Tryz.f170) rfl hb jzw0 (hc s) 7 rfl ?_;refine AW.sr (by simp[Vb,List.replicate];rfl) ?_;rcases hs with rfl|⟨id,ep,lo,m,aJ,rfl,hid,bu,hf⟩
 ·rw[LZ];refine .seq ?_;refine AW.sr (by simp[Pq,hn];rfl) ?_;refine AW.if' false (by simp) (fun e=>by cases e) (fun _=>AW.skip ?_);refine AW.sr (by simp[Pr,-Aj.plain,-Aj.ep,hset,hp,Bq,CR,BB,E6,Eg,eF];first|rfl|exact⟨rfl,rfl⟩|exact⟨hp,rfl,rfl⟩) ?_;refine .ret (Post.here (by simp[Km]) rfl ⟨(h s).ep+2,A0 (cI .u32) r,by simp[Km],?_,fun k hk=>rfl⟩);funext j;simp only[hset];by_cases hj:j=s<;>simp[hj]
 ·refine .seq ?_;refine AW.sr (by simp[Pq,hid];rfl) ?_;refine AW.if' false (by simp) (fun e=>by cases e) (fun _=>AW.skip ?_);refine AW.sr (by simp[Pr,-Aj.plain,-Aj.ep,hset,hp,Bq,CR,BB,E6,Eg,eF,hid,aJ,bu];first|rfl|exact⟨rfl,rfl⟩|exact⟨hp,rfl,rfl⟩) ?_;refine .ret (Post.here (by simp[Km]) rfl ⟨(h s).ep+2,fun k=>A0 (cI .u32) m (lo+k),by simp[Km],?_,hf⟩);funext j;simp only[hset];by_cases hj:j=s<;>simp[hj]
theorem jzu1:CcOk v170:=⟨by kernel_rfl,fun l x r X h s a b c=>jzhc l r X h s a b c⟩
theorem jzjd(l r:List Int)(h:Aw)(id ep:Nat)(hF:Ig l=some r)(hid:h id=ownO ep 1 (cI .u8) l) :
  ATr EE Tryz.prog 173 [ownV id ep l] h fun v h'=>v=.tup []/\h'=hset h id (ownO ep 1 (cI .u8) r)/\List.length r=List.length l:=by
 unfold Ig at hF;cases hx:decide (List.length l<=4611686018427387904)
 ·rw[hx]at hF;cases hF
 rw[hx]at hF;obtain rfl:r=l.reverse:=(BJ hF).symm;simp only[Bp]at hx;have main:=wzcu (E:=EE) Tryz.laysE35 (fun n=>.int .u8 n) (Value.int .u8) (fun _=>rfl) (fun g w x v hv=>by cases hv;rfl) (fun g w x=>.int _ _) (H:=h) (id:=id) (ep:=ep) (l:=l) hid (by omega);exact main.mono fun v h' ⟨a,b⟩=>⟨a,b,by simp⟩
theorem jzvq:WcOk w173:=⟨by kernel_rfl,fun l x r h id ep a b=>jzjd l r h id ep a b⟩
def k153:Fc:=⟨153,[.str],[false],[(.slc (.int .u32))],fun x=>HE x⟩
def k152:Fc:=⟨152,[(.slc (.int .u32)),(.slc (.int .u32))],[false,false],[(.slc (.int .u32)),(.slc (.int .u32))],fun x=>Ow x.1 x.2⟩
def k154:Fc:=⟨154,[(.slc (.int .u32))],[false],[.str],fun x=>L0 x⟩
theorem Vc:CD Tryz.prog 151=true:=by kernel_rfl
set_option maxHeartbeats 4000000 in
theorem wzd4(eF:∀x y r,Ow x y=some r->Bf EE Tryz.prog 152 [slcV 1 (cI .u32) x,slcV 1 (cI .u32) y] (.tup [slcV 1 (cI .u32) r.1,slcV 1 (cI .u32) r.2])):∀(n:Nat) (x y r:List Int),lpN Ih n (x,y)=some r->∀h:Aw,h 0=.box 1 [.fn 151 0 [.ptr 0 1 0]] ->
  ATr EE Tryz.prog 151 [slcV 1 (cI .u32) x,slcV 1 (cI .u32) y,.ptr 0 1 0] h (fun v h'=>v=slcV 1 (cI .u32) r/\h'=h):=by
 intro n;induction n with
 |zero=>intro x y r hr;cases hr
 |succ n ih =>
  intro x y r hr h h0;rw[lpN]at hr;obtain⟨c,cf,hc⟩:=jzwe;refine ATr.of (fn:=Tryz.f151) rfl cf jzwg (hc 0) 19 rfl ?_;refine .seq (.reg ?_);simp[Ve];refine .seq (.seq (.reg ?_));simp[Vf];refine .cond (t:=decide ((List.length y:Int)=0)) (by simp) (fun e=>?_) (fun e=>?_)
  ·have e':(Ih (x,y))=some (.inr x):=by simp only[Ih,e,ite']
   rw[e']at hr;cases hr;refine .seq (.reg ?_);simp[Vg];refine .ret ?_;simp only[Dp,ablk];refine .here ?_ rfl ⟨?_,?_⟩
   ·simp[Ko]
   ·simp[Ko]
   ·simp
  ·have e':(Ih (x,y))=bd (Ow x y) fun r=>some (.inl (y,r.2)):=by simp only[Ih,e,ite']
   rw[e']at hr;cases hq:Ow x y with
   |none=>rw[hq]at hr;cases hr
   |some q =>
   rw[hq]at hr;have hr:lpN Ih n (y,q.2)=some r:=hr;refine .skip ?_;refine .seq (.reg ?_);simp[Vh];refine(eF x y q hq).ca (by simp) ?_;simp;refine .seq (.reg ?_);simp[Vi,h0];refine⟨Vc,?_⟩;try simp[fnArgs]
   refine((ih y q.2 r hr h h0).w (by simp)).mono ?_;rintro v h' ⟨rfl,rfl⟩;refine .ret ?_;try simp only[Dp,ablk]
   refine .here ?_ rfl ⟨?_,?_⟩
   ·simp[Ko]
   ·simp[Ko]
   ·simp
set_option maxHeartbeats 4000000 in
theorem qzm1(eF:∀x y r,Ow x y=some r->Bf EE Tryz.prog 152 [slcV 1 (cI .u32) x,slcV 1 (cI .u32) y] (.tup [slcV 1 (cI .u32) r.1,slcV 1 (cI .u32) r.2]))(hY:∀x r,HE x=some r->Bf EE Tryz.prog 153 [.str x] (slcV 1 (cI .u32) r))(oC:∀x r,L0 x=some r->Bf EE Tryz.prog 154 [slcV 1 (cI .u32) x] (.str r))(a0:List UInt8)(b1:List UInt8)  (r:List UInt8)(h:Ii a0 b1=some r):Bf EE Tryz.prog 144 [.str a0,.str b1] (.str r):=by
 refine Pure.still ?_ hEE (by simp) (by simp);obtain⟨c,hb,hc⟩:=wzgn;replace h:=Ok.of h;unfold Ii at h;obtain⟨x,hx,h⟩:=h.ex;obtain⟨y,hy,h⟩:=h.ex;obtain⟨q,hq,h⟩:=h.ex
 have ht:L0 q=some r:=by
  cases hx:L0 q with
  |none=>rw[hx]at h;exact h.no
  |some v=>rw[hx]at h;exact Ef some h.some
 rw[Kp]at hq;refine Pure.ofs (fn:=Tryz.f144) (n:=14) rfl hb wzgy (hc 0) rfl rfl (by simp) ?_;refine AW.rS [(0,.str a0),(1,.str b1)] [] ?_ ?_
 ·simp[Vj];exact .mk (by simp) (by simp) rfl
 refine AW.rS [(0,.str a0),(1,.str b1),(5,.ptr 0 1 0)] [(0,.box 1 [.nilfn])] ?_ ?_
 ·simp[Vk];exact .mk (by simp) (by simp) rfl
 refine AW.rS [(0,.str a0),(1,.str b1),(5,.ptr 0 1 0)] [(0,.box 1 [.fn 151 0 [.ptr 0 1 0]])] ?_ ?_
 ·simp[Vl];exact .mk (by simp) (by simp) rfl
 refine AW.dS [(4,.str r)] [(0,.gone 1)] ?_ ?_
 ·simp[Vm];refine(hY a0 x hx).cd (by simp) ?_
  (try simp)
  refine(hY b1 y hy).cd (by simp) ?_
  (try simp)
  refine⟨Vc,?_⟩;simp[fnArgs];refine⟨slcV 1 (cI .u32) q,[0],fun h' e=>((wzd4 eF _ x y q hq h' ?_).w (by simp)).mono ?_,?_⟩
  ·rw[e 0 (by simp)];simp[hl,HD]
  ·rintro v h' ⟨rfl,rfl⟩;exact⟨rfl,rfl⟩
  simp;refine(oC q r ht).cd (by simp) ?_
  (try simp)
  (repeat' apply And.intro)<;>first|kernel_rfl|exact .mk (by simp) (by simp) rfl
 exact AW.rt (rs:=Mb) [(4,.str r)] [(0,.gone 1)] (by simp) (by simp) rfl rfl (by simp[Mb]) (by simp[Mb])
def k144:Fc:=⟨144,[.str,.str],[false,false],[.str],fun x=>Ii x.1 x.2⟩
theorem jzuy(H1:Ao k152)(H2:Ao k153)(H3:Ao k154):Ao k144 := ⟨by kernel_rfl,fun x y e=>qzm1 (fun a b r h=>H1.ok (a,b) r h) (fun a r h=>H2.ok a r h) (fun a r h=>H3.ok a r h) x.1 x.2 y e⟩
attribute [local simp] hset fzv fzl fzl fz1
theorem ATr.opaqueF{E:Nat->Aa}{P:Program}{f:FuncId}{args:List Aa}{r:Aa}{id:Nat}(hE:∀i,AF (E i))(ha:∀x,x∈args->AQ [id] x)(hr:AQ [id] r)(H:∀e,ATr E P f args (fun i=>if i=id then .gone e else .gone 0) (fun v h'=>v=r/\(h' id).ep=e)):Bf E P f args r:=by
 intro h g w vs hh hv
 let hs:Aw:=fun i=>if i=id then .gone (h id).ep else .gone 0
 let g0:Gh:=⟨fun i=>if i∈[id] then g.blk i else 0,fun i=>if i∈[id] then g.ep i else 0,fun i=>if i∈[id] then g.bo i else 0,fun i=>if i∈[id] then g.st i else 0,fun i=>if i∈[id] then g.cp i else 0,g.fz⟩
 have hA:GAg [id] g g0:=⟨fun _ h=>h,fun i hi=>⟨An hi,An hi,An hi,An hi,An hi⟩⟩
 have no:∀i,(hs i).owned=true->False:=fun i hi=>by
  have:(hs i).owned=false:=by show(if i=id then Aj.gone _ else Aj.gone 0).owned=false;split<;>rfl
  rw[this]at hi;cases hi
 have H0:HR E g0 hs w:=by
  refine⟨fun i=>?_,fun i=>?_,fun i j hi hj e=>(no i hi).elim,fun i hi=>(no i hi).elim,hh.fzb,fun i=>(hh.glob i).ag hA (hE i).refs⟩
  ·show OR g0 w i (if i=id then .gone _ else .gone 0);split<;>trivial
  ·by_cases e:i=id;·subst e;show(if i∈[i] then g.ep i else 0)=(if i=i then Aj.gone (h i).ep else .gone 0).ep;rw[An (by simp),An rfl,hh.ep i];rfl
   ·show(if i∈[id] then g.ep i else 0)=(if i=id then Aj.gone (h id).ep else .gone 0).ep;rw[Ak (by simpa using e),Ak e];rfl
 refine(H _ g0 w vs H0 (hv.ag hA ha)).mono ?_;rintro e w' ⟨g',h',_,v,⟨rfl,hF⟩,rfl,bN,hH,st⟩
 have ez:∀i,i∈[id]->g'.blk i=g.blk i/\g'.ep i=g.ep i/\g'.bo i=g.bo i/\g'.st i=g.st i/\g'.cp i=g.cp i:=fun i hi=>by
  have bh:i=id:=by simpa using hi
  have e1:g'.ep i=g0.ep i:=by rw[hH.ep i,bh,hF];show(h id).ep=(if id∈[id] then g.ep id else 0);rw[An (by simp),hh.ep id]
  obtain⟨a,b,c,d⟩:=st.le.same i e1;obtain⟨a',b',c',d',e'⟩:=hA.pl i hi;exact⟨a.trans a',e1.trans b',b.trans c',c.trans d',d.trans e'⟩
 have bI:∀b,b<w.heap.size->w'.heap[b]?=w.heap[b]?:=fun b hb=>st.keep b hb fun i hi e=>(no i hi).elim
 let g2:Gh:=⟨g.blk,g.ep,g.bo,g.st,g.cp,g'.fz⟩
 have lv:GAg [id] g' g2:=⟨fun _ h=>h,fun i hi=>by obtain⟨a,b,c,d,e⟩:=ez i hi;exact⟨a.symm,b.symm,c.symm,d.symm,e.symm⟩⟩;have aE:GLe g w g2 w':=⟨fun b hb=>st.le.fz b hb,fun _=>AC _,fun _ _=>⟨rfl,rfl,rfl,rfl⟩⟩;refine⟨g2,h,_,v,⟨rfl,rfl⟩,rfl,bN.ag lv hr,?_,⟨aE,st.os,st.tape,st.output,st.size,fun b hb hn=>bI b hb,fun i ho=>.inl ⟨i,ho,rfl⟩,fun b hb=>?_,st.drawn⟩⟩
 ·refine⟨fun i=>(hh.obj i).mono aE rfl fun ho=>bI _ ((hh.obj i).lt ho),hh.ep,hh.inj,fun i hi hf=>?_,hH.fzb,fun i=>(hh.glob i).mono aE⟩;have gN:g'.fz (g.blk i):=hf;rcases st.fzn _ gN with h1|⟨j,hj,ej⟩|h3
  ·exact hh.sep i hi h1
  ·exact no j hj
  ·have:g.blk i<w.heap.size:=(hh.obj i).lt hi;omega
 ·rcases st.fzn b hb with h1|⟨j,hj,ej⟩|h3;·exact .inl h1
  ·exact(no j hj).elim
  ·exact .inr (.inr h3)
theorem jzvu(id ep:Nat):Bf EE Tryz.prog 55 [.mp id ep] (.fn 85 0 [keyC id ep]):=by
 refine ATr.opaqueF (id:=id) hEE (fun x hx=>by simp at hx;subst hx;exact .mp _ _ (by simp)) ?_ fun e=>?_
 ·refine .fn _ _ _ fun x hx=>?_;simp at hx;subst hx;refine .cptr _ _ _ fun j hj=>?_;obtain rfl:j=0:=by omega
  exact .mp _ _ (by simp)
 obtain⟨c,hb,hc⟩:=ck55;refine ATr.of (fn:=Tryz.f55) rfl hb cr55 (hc (id+1)) 3 rfl ?_;refine AW.sr (by simp[Vn,List.replicate];rfl) ?_;refine .fz (id+1) (by simp) (by simp) ?_;refine AW.sr (by simp[Vo];rfl) ?_;refine .ret (Post.here (by simp[rs55]) rfl ⟨?_,?_⟩)
 ·simp[rs55,keyC]
 ·simp
noncomputable def xm55:Mk:=⟨55,85,by kernel_rfl,jzvu⟩
theorem Ps(x:Aa):VSub x .top:=.inl rfl
theorem Pt{k k':IntKind}{a b:Int}:VSub (.int k a) (.int k' b)↔k'=k/\b=a:=by
 constructor
 ·rintro(h|h|⟨_,_,_,_,h,_⟩);·cases h
  ·injection h with h1 h2;exact⟨h1,h2⟩
  ·cases h
 ·rintro⟨rfl,rfl⟩;exact .refl _
theorem OSub.of_eq{o o':Aj}(h:o'=o):OSub o o':=.inr (.inl h)
theorem Post.norm{E:Nat->Aa}{rs:List ARes}{R:Aa->Aw->Prop}{S:Av}(h:Post E rs R .ret S):Post E rs R .normal S:=h
end Go.Am

