/- Part T2: a typed interpreter of abstract code, proved sound over the machine. No condition. -/
import Derived.Test.YtibbibelkkgfpaaGreatDoorT1
set_option linter.unusedSimpArgs false
set_option linter.unusedVariables false
namespace Go.Am
structure HB where
 ep:Nat
 n:Nat
 f:Nat->List Aa
abbrev Con:=Unit
structure Phi where
 o:Nat->Nat->HB
 X:Aq
 ds:List (Nat×Nat)
 c:Con
instance:CoeFun Phi fun _=>Nat->Nat->HB:=⟨Phi.o⟩
structure Ext(nx:Nat)(U U':Phi):Prop where
 s:∀id st,st<nx->U' id st=U id st
 c:U'.c=U.c
theorem Ext.refl(nx:Nat)(U:Phi):Ext nx U U:=⟨fun _ _ _=>rfl,rfl⟩
theorem Ext.trans{nx nx':Nat}{U U' U'':Phi}(h:Ext nx U U')(k:Ext nx' U' U'')(hn:nx<=nx'):Ext nx U U'':=⟨fun id st hs=>(k.s id st (by omega)).trans (h.s id st hs),k.c.trans h.c⟩
def upd(U:Phi)(id nx:Nat)(G:HB):Phi:=⟨fun i s=>if i=id/\s=nx then G else U i s,U.X,U.ds,U.c⟩
theorem RA{U:Phi}{id nx:Nat}{G:HB}:Ext nx U (upd U id nx G):=⟨fun i s h=>by show(if i=id/\s=nx then G else U i s)=U i s;rw[Ag (by omega)],rfl⟩
theorem yzj{U:Phi}{id nx:Nat}{G:HB}:upd U id nx G id nx=G:=by simp[upd]
theorem Hl{i:Nat}:∀{l:List Nat},memN i l=true↔i∈l
 |[]=>by simp[memN]
 |j :: l=>by
  show Ac (Nat.beq j i) true (memN i l)=true↔_;cases h:Nat.beq j i
  ·have:=Ep.1 h;rw[qzqa,Hl,AY];exact⟨.inr,fun h=>h.resolve_left fun e=>this e.symm⟩
  ·have:=AL.1 h;subst this;rw[II];simp
theorem yzi{b i:Nat}(h:inR b i=true):b<=i/\i<b+900:=by
 unfold inR at h;cases h1:Nat.ble b i<;>rw[h1]at h
 ·cases h
 ·exact⟨Ll h1,by simpa [Gt] using(show Nat.blt i (b+900)=true from h)⟩
section
variable [Tab]
def eP(U:Phi):PV->Aa
 |.s v=>A0 v
 |.ptr id st off=>.ptr id (U id st).ep off
 |.eptr id st j off _ _=>.eptr id (U id st).ep j.toNat off
 |.vec id st=>.vec id (U id st).ep 0 (U id st).n
 |.vs id st lo hi=>.vec id (U id st).ep lo.toNat (hi-lo).toNat
 |.mp id st=>.mp id (U id st).ep
 |.own id st=>match (U id st).n with
  |0=>.nils
  |n+1=>.vec id (U id st).ep 0 (n+1)
def eT(U:Phi):TV->Aa
 |.v x=>eP U x
 |.cnd _ _ g x=>.cnd g (eP U x)
def eO(U:Phi)(ep:Nat):TO->Ad
 |.map k v l=>.amap ep (l.map fun p=>(A0 (wT k p.1),A0 (wT v p.2)))
 |.gone=>.gone ep
 |.box cs=>.box ep (Ax cs)
 |.vec c l=>.vec ep c.n l.length (Ai c.cA l)
 |.own c l=>ownO ep c.n c.cA l
def eTm(U:Phi)(t:List (Nat×TV)):List (Nat×Aa):=t.map fun p=>(p.1,eT U p.2)
def hO(U:Phi)(id:Nat):Option (Nat×TO)->Ad
 |some (st,o)=>eO U (U id st).ep o
 |none=>U.X id
def em(U:Phi)(T:Av):As:=⟨tl (eTm U T.t) T.n,fun i=>hO U i (Aw T.h i),U.ds⟩
def OkO(G:HB):TO->Prop
 |.vec c l=>G.n=l.length/\G.f=Ai c.cA l
 |.own c l=>G.n=l.length/\G.f=Ai c.cA l
 |_=>True
def OkP(U:Phi):PV->Prop
 |.eptr id st j off c x=>0<=j/\j.toNat<(U id st).n/\(U id st).f j.toNat=c.cA x
 |.vs id st lo hi=>0<=lo/\lo<=hi/\hi<=(U id st).n
 |_=>True
def StP(nx:Nat):PV->Prop
 |.s _=>True
 |.ptr _ st _ | .eptr _ st _ _ _ _ | .vec _ st | .vs _ st _ _ | .own _ st | .mp _ st=>st<nx
def RfO(U:Phi)(nx:Nat):TO->Prop
 |_=>True
def TOk(U:Phi)(T:Av):TV->Prop
 |.v x=>StP T.nx x/\OkP U x
 |.cnd tg want g x=>StP T.nx x/\(g=true->OkP U x)/\memN tg T.gs=true/\gdT want (Ay T.t tg)=some g
structure Fr(U:Phi)(T:Av):Prop where
 ro:∀id p,Aw T.h id=some p->inR T.b id=true
 rx:∀i,inR T.b i=true->∃e,U.X i=.gone e
 rz:∀i,T.b+900+2*T.rf<=i->i<T.b+1000->∃e,U.X i=.gone e
 dd:∀D∈U.ds,U.X D.1=.dfr D.2/\T.b+900<=D.1/\D.1<T.b+900+2*T.rf
 ry:T.b=0->T.rf<50->∀i,1000<=i->i<2000->∃e,U.X i=.gone e
 cs:True
 yo:True
structure InvT(U:Phi)(T:Av):Prop where
 sl:∀i,TOk U T (Ay T.t i)
 hi:∀i,T.n<=i->Ay T.t i=.v (.s .top)
 ob:∀id st o,Aw T.h id=some (st,o)->st<T.nx/\OkO (U id st) o/\RfO U T.nx o
 fr:Fr U T
theorem Bt{p:Nat×TV}{l:List (Nat×TV)}{i:Nat}:Ay (p :: l) i=if p.1=i then p.2 else Ay l i:=by
 show Ac (Nat.beq p.1 i) _ _=_;cases h:Nat.beq p.1 i
 ·rw[Ag (Ep.1 h)];rfl
 ·rw[Aj (AL.1 h)];rfl
theorem Cm{p:Nat×Nat×TO}{l:List (Nat×Nat×TO)}{i:Nat}:Aw (p :: l) i=if p.1=i then some p.2 else Aw l i:=by
 show Ac (Nat.beq p.1 i) _ _=_;cases h:Nat.beq p.1 i
 ·rw[Ag (Ep.1 h)];rfl
 ·rw[Aj (AL.1 h)];rfl
theorem Lh{U:Phi}:∀(t:List (Nat×TV)) (i:Nat),look (eTm U t) i=eT U (Ay t i)
 |[],i=>rfl
 |p :: l,i=>by
  rw[Bt];show(if p.1=i then eT U p.2 else look (eTm U l) i)=_;split
  ·rfl
  ·exact Lh l i
theorem em_t{U:Phi}{T:Av}(hI:InvT U T)(i:Nat):(em U T).t.getD i .top=eT U (Ay T.t i):=by
 show(tl (eTm U T.t) T.n).getD i .top=_;rw[yzd];split
 ·exact Lh _ _
 ·rename_i h;rw[hI.hi i (by omega)];rfl
theorem em_h{U:Phi}{T:Av}(id:Nat):(em U T).h id=hO U id (Aw T.h id):=rfl
theorem Hm{U:Phi}{T:Av}{id st:Nat}{o:TO}(h:Aw T.h id=some (st,o)):(em U T).h id=eO U (U id st).ep o:=by rw[em_h,h];rfl
theorem Ni{U:Phi}{e:Nat}{o:TO}:(eO U e o).ep=e:=by
 cases o with
 |own c l=>cases l<;>rfl
 |_=>rfl
theorem ZT{U:Phi}{e:Nat}{o:TO}:(eO U e o).plain:=by
 cases o with
 |own c l=>cases l<;>exact trivial
 |_=>exact trivial
theorem wzix{U:Phi}{T:Av}(hI:InvT U T){id:Nat}(h:inR T.b id=true):(hO U id (Aw T.h id)).plain:=by
 cases hx:Aw T.h id with
 |none=>obtain⟨e,he⟩:=hI.fr.rx id h;show(U.X id).plain;rw[he];trivial
 |some p=>exact ZT (U:=U)
theorem Nj{U:Phi}{T:Av}(hI:InvT U T)(id:Nat)(h:inR T.b id=true):((em U T).h id).plain:=wzix hI h
theorem Nk{U:Phi}{T:Av}(hI:InvT U T):∀D∈(em U T).ds,(em U T).h D.1=.dfr D.2:=by
 intro D hD;obtain⟨h1,h2,h3⟩:=hI.fr.dd D hD;rw[em_h];cases hx:Aw T.h D.1 with
 |none=>exact h1
 |some p =>have:=yzi (hI.fr.ro _ _ hx);omega
theorem RB(l:List SV)(off:Nat)(p:List SV):Ax (layS l off p)=lay (Ax l) off (Ax p):=by unfold layS lay;simp only[MR,MS,MT,Gp]
theorem Nl{agg:Bool}{sz:Nat}{l:List SV}{off:Nat}:A0 (ldS agg sz l off)=ldv agg sz (Ax l) off:=by
 cases agg
 ·exact ZB l off
 ·show Aa.agg (Ax _)=_;rw[MS,MT];rfl
theorem Nm{a:Aa}{v:SV}(h:ofA1 a=some v):A0 v=a:=by cases a<;>simp only[ofA1]at h<;>cases h<;>rfl
theorem Hn:∀{l:List Aa} {m:List SV},ofAL l=some m->Ax m=l
 |[],m,h=>by cases h;rfl
 |a :: l,m,h=>by
  simp only[ofAL]at h;cases h1:ofA1 a with
  |none=>rw[h1]at h;cases h
  |some x =>
   cases h2:ofAL l with
   |none=>rw[h1,h2]at h;cases h
   |some y =>rw[h1,h2]at h;cases h;show A0 x :: Ax y=_;rw[Nm h1,Hn h2]
theorem KJ{a:Aa}{v:SV}(h:ofA a=some v):A0 v=a:=by
 unfold ofA at h;split at h
 ·rename_i l;cases hl:ofAL l with
  |none=>rw[hl]at h;cases h
  |some m=>rw[hl]at h;cases h;show Aa.agg (Ax m)=_;rw[Hn hl]
 ·cases h;rfl
 ·cases h;rfl
 ·exact Nm h
theorem KK{U:Phi}(x:PV):unv (eP U x)=eP U x:=by
 cases x with
 |s v=>exact QR v
 |own id st=>show unv (match (U id st).n with | 0=>.nils | n+1=>.vec id (U id st).ep 0 (n+1))=match (U id st).n with | 0=>.nils | n+1=>.vec id (U id st).ep 0 (n+1);cases (U id st).n<;>rfl
 |_=>rfl
theorem KL{U:Phi}(x:PV)(c:Bool):unc c (eP U x):=by
 cases x with
 |s v=>exact QS v c
 |own id st=>show unc c (match (U id st).n with | 0=>.nils | n+1=>.vec id (U id st).ep 0 (n+1));cases (U id st).n<;>exact trivial
 |_=>exact trivial
theorem ZU:∀{l:List SV},oneS l=true->BD (Ax l)=true
 |[],_=>rfl
 |x :: l,h=>by
  show((A0 x).one&&BD (Ax l))=true;cases x with
  |_=>simp only[oneS]at h<;>first|(cases h;done)|(rw[ZU h];rfl)
theorem IX{U U':Phi}{nx:Nat}(h:Ext nx U U'){x:PV}(hx:StP nx x):eP U' x=eP U x:=by cases x<;>simp only[StP]at hx<;>simp only[eP]<;>first|rw[h.s _ _ hx]|rw[h.c]|rfl
theorem IY{U U':Phi}{nx:Nat}(h:Ext nx U U'){x:PV}(hx:StP nx x)(k:OkP U x):OkP U' x:=by
 cases x<;>simp only[StP]at hx<;>simp only[OkP]at k |-
 ·rw[h.s _ _ hx];exact k
 ·rw[h.s _ _ hx];exact k
theorem FQ{n m:Nat}(h:n<=m){x:PV}(hx:StP n x):StP m x:=by cases x<;>simp only[StP]at hx |-<;>omega
end
def act:Gd->Prop
 |none=>True
 |some (_,_,g)=>g=true
theorem Dp{α:Type}{G:Gd}{c:Bool}{X:Option α}{r:α}(h:ckg G c X=some r):X=some r/\(act G->c=true):=by
 cases G with
 |none=>cases c<;>first|(cases h;done)|exact⟨h,fun _=>rfl⟩
 |some q =>
  obtain⟨a,b,g⟩:=q;cases g
  ·cases c<;>exact⟨h,fun e=>by cases e⟩
  ·cases c;·cases h
   ·exact⟨h,fun _=>rfl⟩
theorem KM{α Y:Type}[Inhabited Y]{G:Gd}{x:Option Y}{K:Y->Option α}{r:α}(h:bdg G x K=some r):∃v,K v=some r/\(act G->x=some v):=by
 cases G with
 |none=>cases x with
  |none=>cases h
  |some v=>exact⟨v,h,fun _=>rfl⟩
 |some q =>
  obtain⟨a,b,g⟩:=q;cases g
  ·exact⟨default,h,fun e=>by cases e⟩
  ·cases x with
   |none=>cases h
   |some v=>exact⟨v,h,fun _=>rfl⟩
theorem AG{α:Type}{c:Bool}{X:Option α}{r:α}(h:Ac c X none=some r):c=true/\X=some r:=by
 cases c
 ·cases h
 ·exact⟨rfl,h⟩
theorem Np{α:Type}{G:Gd}{l c:Bool}{X:Option α}{r:α}(h:ckl G l c X=some r):X=some r/\(act G->c=true):=by
 cases l
 ·exact Dp h
 ·have:=AG h;exact⟨this.2,fun _=>this.1⟩
theorem Nq{agg:Bool}{sz:Nat}(h:(Ac agg true (Nat.beq sz 1))=true):agg=false->sz=1:=by intro e;subst e;exact AL.1 h
theorem wziz{ar:Ae->Aa}{hh:Aq}{x:Ae}{l:List Int}(e1:ar x=.slc 1 l.length (Ai (cI .u8) l)):(An.b2s x).req ar hh=⟨True/\1=1,[],.str (BS l),none⟩:=by show Lg (ar x) hh=_;rw[e1];unfold Lg;simp only[Bk,wzq]
theorem wzkh{ar:Ae->Aa}{hh:Aq}{x:Ae}{id e:Nat}{l:List Int}(e1:ar x=.vec id e 0 l.length)(e2:hh id=.vec e 1 l.length (Ai (cI .u8) l)):(An.b2s x).req ar hh=⟨(e=e/\0+l.length<=l.length)/\1=1,[id],.str (BS l),none⟩:=by show Lg (ar x) hh=_;rw[e1];unfold Lg;simp only[Bk,e2,Bq];rw[show(fun k=>Ai (cI .u8) l k)=Ai (cI .u8) l from rfl,wzq]
theorem Nr:∀{l m:List Aa},BD (l++m)=(BD l&&BD m)
 |[],m=>rfl
 |x :: l,m=>by show(x.one&&BD (l++m))=((x.one&&BD l)&&BD m);rw[Nr,Bool.and_assoc]
theorem VEq.of_w{x y:Aa}(h:W x y):VEq x y:=fun _ _ _ hr=>hr.w h
theorem wzj0{l:List Aa}{off sz:Nat}(h:off+sz<=l.length):(List.range sz).map (fun j=>l.getD (off+j) .top)=(l.drop off).take sz:=by
 apply Lj;intro i;by_cases hi:i<sz
 ·have:off+i<l.length:=by omega
  simp[hi,this]
 ·simp[hi];omega
section
variable [Tab]
structure Ar(U:Phi)(T:Av)(G:Gd)(ar:Ae->Aa)(hh:Aq):Prop where
 a:∀a x,argP T G a=some x->ar a=eP U x/\StP T.nx x/\(act G->OkP U x)
 h:∀id st o,Aw T.h id=some (st,o)->hh id=eO U (U id st).ep o/\OkO (U id st) o/\RfO U T.nx o
def VR{α:Type}(U:Phi)(T:Av)(G:Gd)(ar:Ae->Aa)(hh:Aq)(o:An)(K:PV->List Nat->Option α)(r:α):Prop := ∃p rd,K p rd=some r/\StP T.nx p/\o.quiet=true/\(act G->OkP U p/\(o.req ar hh).ok/\VEq (o.req ar hh).v (eP U p)/\(∀j∈(o.req ar hh).rd,j∈rd)/\OutW hh (o.req ar hh).out none)
section
variable {α:Type}{U:Phi}{H:List Fe}{T:Av}{G:Gd}{ar:Ae->Aa}{hh:Aq}{K:PV->List Nat->Option α}{r:α}
theorem VR.mk{o:An}{p:PV}{rd:List Nat}(hq:o.quiet=true)(hs:StP T.nx p)(h:K p rd=some r)(k:act G->OkP U p/\∃q x l,o.req ar hh=⟨q,l,x,none⟩/\q/\VEq x (eP U p)/\∀j∈l,j∈rd):VR U T G ar hh o K r := ⟨p,rd,h,hs,hq,fun ha=>by obtain⟨h1,q,x,l,e,h2,h3,h4⟩:=k ha;rw[e];exact⟨h1,h2,h3,h4,trivial⟩⟩
theorem VR.val{o:An}{v:SV}(hq:o.quiet=true)(h:K (.s v) []=some r)(k:act G->∃q x,o.req ar hh=⟨q,[],x,none⟩/\q/\VEq x (A0 v)):VR U T G ar hh o K r :=
 .mk (p:=.s v) (rd:=[]) hq trivial h fun ha=>by obtain⟨q,x,e,h1,h2⟩:=k ha;exact⟨trivial,q,x,[],e,h1,h2,fun j hj=>by cases hj⟩
theorem VR.valR{o:An}{v:SV}{rd:List Nat}(hq:o.quiet=true)(h:K (.s v) rd=some r)(k:act G->∃q x,o.req ar hh=⟨q,rd,x,none⟩/\q/\VEq x (A0 v)):VR U T G ar hh o K r :=
 .mk (p:=.s v) (rd:=rd) hq trivial h fun ha=>by obtain⟨q,x,e,h1,h2⟩:=k ha;exact⟨trivial,q,x,rd,e,h1,h2,fun j hj=>hj⟩
theorem Ho{k:IntKind}{n:Int}(h:ckS G k n K=some r):K (.s (.int k (cut k n))) []=some r/\(act G->inr k n):=by
 cases k<;>simp only[ckS]at h<;>first
  |(have:=Dp h;exact⟨this.1,fun ha=>wzop (this.2 ha)⟩)
  |exact⟨h,fun _=>trivial⟩
theorem wzwq(hA:Ar U T G ar hh){x:Ae}(h:v_mv H T G x K=some r):VR U T G ar hh (.mv x) K r:=by
 unfold v_mv at h;split at h
 ·rename_i p hp;obtain⟨h1,h2,h3⟩:=hA.a _ _ hp;exact .mk rfl h2 h fun ha=>⟨h3 ha,_,_,_,rfl,trivial,by rw[h1];exact .refl _,fun j hj=>by cases hj⟩
 ·exact .val rfl h fun _=>⟨_,_,rfl,trivial,.of_w (.top _)⟩
 ·cases h
theorem wzqh{op:BinOp}{k:IntKind}{a b:Int}{l bs:Bool}{x y:Ae}(hx:act G->ar x=.int k a)(hy:act G->ar y=.int k b)(hs:Fw op=false)(h:binI G op k a b l K=some r):VR U T G ar hh (.bin op bs x y) K r:=by
 have aD:act G->(An.bin op bs x y).req ar hh=Jq op k a b:=fun ha=>by show Lf op bs (ar x) (ar y)=_;rw[hx ha,hy ha];show(if Fw op=true then Jp op k a b else if k=k then Jq op k a b else Req.fail)=_;rw[Ag (by rw[hs];exact Bool.false_ne_true),Aj rfl]
 cases op<;>simp only[binI]at h<;>(try (cases h;done))
 case add=>have:=Ho h;exact .val rfl this.1 fun ha=>⟨_,_,aD ha,this.2 ha,.refl _⟩
 case sub=>have:=Ho h;exact .val rfl this.1 fun ha=>⟨_,_,aD ha,this.2 ha,.refl _⟩
 case mul=>have:=Ho h;exact .val rfl this.1 fun ha=>⟨_,_,aD ha,this.2 ha,.refl _⟩
 case quo =>have h0:=Np h;have:=Ho h0.1;exact .val rfl this.1 fun ha=>⟨_,_,aD ha,⟨by simpa using h0.2 ha,this.2 ha⟩,.refl _⟩
 case rem =>have h0:=Np h;exact .val rfl h0.1 fun ha=>⟨_,_,aD ha,by simpa using h0.2 ha,.refl _⟩
 all_goals exact .val rfl h fun ha=>⟨_,_,aD ha,trivial,.refl _⟩
theorem wzi1{op:BinOp}{k k':IntKind}{a b:Int}{l bs:Bool}{x y:Ae}(hx:act G->ar x=.int k a)(hy:act G->ar y=.int k' b)(h:Ra G op k a b l K=some r):VR U T G ar hh (.bin op bs x y) K r:=by
 have aD:Fw op=true->act G->(An.bin op bs x y).req ar hh=Jp op k a b:=fun hs ha=>by show Lf op bs (ar x) (ar y)=_;rw[hx ha,hy ha];show(if Fw op=true then Jp op k a b else if k=k' then Jq op k a b else Req.fail)=_;rw[Aj hs]
 cases op<;>simp only[Ra]at h<;>(try (cases h;done))
 case shl =>have h0:=Np h;have:=Ho h0.1;exact .val rfl this.1 fun ha=>⟨_,_,aD rfl ha,⟨by simpa using h0.2 ha,this.2 ha⟩,.refl _⟩
 case shr =>have h0:=Np h;exact .val rfl h0.1 fun ha=>⟨_,_,aD rfl ha,by simpa using h0.2 ha,.refl _⟩
theorem wzqq{op:BinOp}{a b:List UInt8}{bs:Bool}{x y:Ae}(hx:act G->ar x=.str a)(hy:act G->ar y=.str b)(h:binS G op a b K=some r):VR U T G ar hh (.bin op bs x y) K r:=by
 have aD:act G->(An.bin op bs x y).req ar hh=yzk op a b:=fun ha=>by show Lf op bs (ar x) (ar y)=_;rw[hx ha,hy ha];rfl
 cases op<;>simp only[binS]at h<;>(try (cases h;done))
 case add=>have:=Dp h;exact .val rfl this.1 fun ha=>⟨_,_,aD ha,by simpa using this.2 ha,.refl _⟩
 all_goals exact .val rfl h fun ha=>⟨_,_,aD ha,trivial,.refl _⟩
theorem wzs8(hA:Ar U T G ar hh){op:BinOp}{bs:Bool}{x y:Ae}(h:Rc H T G op bs x y K=some r):VR U T G ar hh (.bin op bs x y) K r:=by
 unfold Rc at h;split at h
 ·rename_i k a k' b h1 h2;have e1:=(hA.a _ _ h1).1;have e2:=(hA.a _ _ h2).1;cases hs:Fw op
  ·rw[hs]at h;replace h:=AG h;rw[CN]at h;obtain⟨rfl,h⟩:=h;exact wzqh (fun _=>e1) (fun _=>e2) hs h
  ·rw[hs]at h;exact wzi1 (fun _=>e1) (fun _=>e2) h
 ·rename_i a b h1 h2;exact wzqq (fun _=>(hA.a _ _ h1).1) (fun _=>(hA.a _ _ h2).1) h
 ·rename_i a b h1 h2;have e1:ar x=.bool a:=(hA.a _ _ h1).1;have e2:ar y=.bool b:=(hA.a _ _ h2).1;split at h
  ·exact .val rfl h fun _=>⟨True,.bool (a==b),by show Lf .eql true (ar x) (ar y)=_;rw[e1,e2];rfl,trivial,.refl _⟩
  ·exact .val rfl h fun _=>⟨True,.bool (!(a==b)),by show Lf .neq true (ar x) (ar y)=_;rw[e1,e2];rfl,trivial,.refl _⟩
  ·cases h
 ·cases h
theorem wztq(hA:Ar U T G ar hh){x:Ae}(h:Rd H T G x K=some r):VR U T G ar hh (.not x) K r:=by
 unfold Rd at h;split at h
 ·rename_i b h1;have e1:ar x=.bool b:=(hA.a _ _ h1).1;exact .val rfl h fun _=>⟨True,.bool (!b),by simp only[An.req,e1];rfl,trivial,.refl _⟩
 ·cases h
theorem wzs7(hA:Ar U T G ar hh){x:Ae}(h:Re H T G x K=some r):VR U T G ar hh (.neg x) K r:=by
 unfold Re at h;split at h
 ·rename_i k n h1;have e1:ar x=.int k n:=(hA.a _ _ h1).1;have:=Ho h;exact .val rfl this.1 fun ha=>⟨inr k (0-n),.int k (cut k (0-n)),by simp only[An.req,e1];rfl,by rw[Int.zero_sub];exact this.2 ha,by rw[Int.zero_sub];exact .refl _⟩
 ·cases h
theorem wzra(hA:Ar U T G ar hh){k:IntKind}{x:Ae}(h:Rg H T G k x K=some r):VR U T G ar hh (.conv k x) K r:=by
 unfold Rg at h;split at h
 ·rename_i k' n h1;have e1:ar x=.int k' n:=(hA.a _ _ h1).1;have:=Ho h;exact .val rfl this.1 fun ha=>⟨inr k n,.int k (cut k n),by simp only[An.req,e1];rfl,this.2 ha,.refl _⟩
 ·cases h
theorem wzsz(hA:Ar U T G ar hh){x y:Ae}(h:Rq H T G x y K=some r):VR U T G ar hh (.max x y) K r:=by
 unfold Rq at h;split at h
 ·rename_i k a k' b h1 h2;have e1:ar x=.int k a:=(hA.a _ _ h1).1;have e2:ar y=.int k' b:=(hA.a _ _ h2).1;replace h:=AG h;rw[CN]at h;obtain⟨rfl,h⟩:=h;exact .val rfl h fun _=>⟨True,.int k (Max.max a b),by simp[An.req,e1,e2,Req.val],trivial,.refl _⟩
 ·cases h
theorem wzt2(hA:Ar U T G ar hh){x y:Ae}(h:Rr H T G x y K=some r):VR U T G ar hh (.min x y) K r:=by
 unfold Rr at h;split at h
 ·rename_i k a k' b h1 h2;have e1:ar x=.int k a:=(hA.a _ _ h1).1;have e2:ar y=.int k' b:=(hA.a _ _ h2).1;replace h:=AG h;rw[CN]at h;obtain⟨rfl,h⟩:=h;exact .val rfl h fun _=>⟨True,.int k (Min.min a b),by simp[An.req,e1,e2,Req.val],trivial,.refl _⟩
 ·cases h
theorem Ar.own(hA:Ar U T G ar hh){id st:Nat}{c:CT}{l:List c.T}(h:Aw T.h id=some (st,.own c l)):hh id=ownO (U id st).ep c.n c.cA l/\(U id st).n=l.length/\(U id st).f=Ai c.cA l:=⟨(hA.h _ _ _ h).1,(hA.h _ _ _ h).2.1.1,(hA.h _ _ _ h).2.1.2⟩
theorem Ar.ep(hA:Ar U T G ar hh){id st:Nat}{o:TO}(h:Aw T.h id=some (st,o)):(hh id).ep=(U id st).ep:=by rw[(hA.h _ _ _ h).1,Ni]
theorem wztg(hA:Ar U T G ar hh){s:Bool}{x:Ae}(h:Ro H T G s x K=some r):VR U T G ar hh (.len s x) K r:=by
 unfold Ro at h;split at h
 ·rename_i c l h1;have e1:ar x=slcV c.n c.cA l:=(hA.a _ _ h1).1;exact .val rfl h fun _=>⟨True,.int .i64 l.length,by simp only[An.req,e1,slcV];rfl,trivial,.refl _⟩
 ·rename_i h1;have e1:ar x=.nils:=(hA.a _ _ h1).1;exact .val rfl h fun _=>⟨True,.int .i64 0,by simp only[An.req,e1];rfl,trivial,.refl _⟩
 ·rename_i id vst h1;have e1:=(hA.a _ _ h1).1;simp only[eP]at e1;split at h
  ·rename_i st' c l ho;replace h:=AG h;obtain⟨hb,h⟩:=h;obtain rfl:=AL.1 hb;obtain⟨oL,oM⟩:=hA.h _ _ _ ho;exact .valR rfl h fun _=>⟨_,_,by simp only[An.req,e1];rfl,by rw[oL,Ni],by rw[oM.1.1];exact .refl _⟩
  ·cases h
 ·rename_i s h1;have e1:ar x=.str s:=(hA.a _ _ h1).1;exact .val rfl h fun _=>⟨True,.int .i64 s.length,by simp only[An.req,e1];rfl,trivial,.refl _⟩
 ·cases h
theorem wzpj(hA:Ar U T G ar hh){x i:Ae}(h:Rm H T G x i K=some r):VR U T G ar hh (.sidx x i) K r:=by
 unfold Rm at h;split at h
 ·rename_i s k j h1 h2;have e1:ar x=.str s:=(hA.a _ _ h1).1;have e2:ar i=.int k j:=(hA.a _ _ h2).1;have:=Dp h;exact .val rfl this.1 fun ha=>⟨0<=j/\j<s.length,.int .u8 (Cu s j),by simp only[An.req,e1,e2];rfl,wzo6 (this.2 ha),.refl _⟩
 ·cases h
theorem wzch(hA:Ar U T G ar hh){i:Nat}{x:Ae}(h:Rl H T G i x K=some r):VR U T G ar hh (.extract i x) K r:=by
 unfold Rl at h;split at h
 ·rename_i l h1;have e1:ar x=.tup (Ax l):=(hA.a _ _ h1).1;replace h:=AG h;obtain⟨hb,h⟩:=h;exact .val rfl h fun _=>⟨i<(Ax l).length,(Ax l).getD i .top,by simp only[An.req,e1];rfl,by rw[Gp];simpa [Gt] using hb,by rw[ZB];exact .refl _⟩
 ·cases h
theorem Ar.box(hA:Ar U T G ar hh){id st:Nat}{cs:List SV}(h:Aw T.h id=some (st,.box cs)):hh id=.box (U id st).ep (Ax cs):=(hA.h _ _ _ h).1
theorem Ar.vec(hA:Ar U T G ar hh){id st:Nat}{c:CT}{l:List c.T}(h:Aw T.h id=some (st,.vec c l)):hh id=.vec (U id st).ep c.n l.length (Ai c.cA l)/\(U id st).n=l.length/\(U id st).f=Ai c.cA l:=⟨(hA.h _ _ _ h).1,(hA.h _ _ _ h).2.1.1,(hA.h _ _ _ h).2.1.2⟩
theorem ZV{c:CT}{l:List c.T}{j:Int}{v:c.T}(h:at? l j=some v):0<=j/\j<l.length/\j.toNat<l.length/\Ai c.cA l j.toNat=c.cA v:=by obtain⟨h1,h2,h3⟩:=JQ h;exact⟨h1,h2,by omega,Bc h3⟩
theorem ZW[TabOk]{c c':CT}{l:List c'.T}{i:Nat}{x:c.T}(hi:i<l.length)(h:Ai c'.cA l i=c.cA x):c.n=c'.n:=by have e:Ai c'.cA l i=c'.cA l[i]:=Bc (AC hi);rw[e]at h;have:=Gk List.length h;rw[KB,KB]at this;exact this.symm
theorem wzsi[TabOk](hA:Ar U T G ar hh){agg:Bool}{sz:Nat}{x:Ae}(h:Rf H T G agg sz x K=some r):VR U T G ar hh (.load agg sz x) K r:=by
 unfold Rf at h;split at h
 ·rename_i id st off h1;have e1:ar x=.ptr id (U id st).ep off:=(hA.a _ _ h1).1;split at h
  ·rename_i st' cs ho;replace h:=AG h;obtain⟨hb,h⟩:=h;replace h:=AG h;obtain⟨hc,h⟩:=h;replace h:=AG h;obtain⟨hd,h⟩:=h;obtain rfl:=AL.1 hb;have e2:=hA.box ho;exact .valR rfl h fun _=>⟨(U id st).ep=(U id st).ep/\off+sz<=(Ax cs).length/\(agg=false->sz=1),ldv agg sz (Ax cs) off,by simp only[An.req,D0,e1,e2],⟨rfl,by rw[Gp];exact Ll hc,Nq hd⟩,by rw[Nl];exact .refl _⟩
  ·cases h
 ·rename_i id st j off c y h1;have e1:ar x=.eptr id (U id st).ep j.toNat off:=(hA.a _ _ h1).1;split at h
  ·rename_i st' c' l ho;replace h:=AG h;obtain⟨hb,h⟩:=h;replace h:=AG h;obtain⟨hc,h⟩:=h;replace h:=AG h;obtain⟨hd,h⟩:=h;obtain rfl:=AL.1 hb;obtain⟨e2,e3,e4⟩:=hA.vec ho;refine .valR rfl h fun ha=>?_;obtain⟨k1,k2,k3⟩:=(hA.a _ _ h1).2.2 ha;rw[e4]at k3;rw[e3]at k2;have hn:=ZW k2 k3;refine⟨(U id st).ep=(U id st).ep/\j.toNat<l.length/\off+sz<=c'.n/\(agg=false->sz=1),ldv agg sz (Ai c'.cA l j.toNat) off,by simp only[An.req,D0,e1,e2],⟨rfl,k2,by rw[<-hn];exact Ll hc,Nq hd⟩,?_⟩;rw[k3,Nl,IQ];exact .refl _
  ·cases h
 ·rename_i l off h1;have e1:ar x=.cptr (fun k=>(Ax l).getD k .top) l.length off:=(hA.a _ _ h1).1;replace h:=AG h;obtain⟨hc,h⟩:=h;replace h:=AG h;obtain⟨hd,h⟩:=h;have hc:=Ll hc;refine .val rfl h fun _=>⟨off+sz<=l.length/\(agg=false->sz=1),if agg then .agg ((List.range sz).map fun j=>(Ax l).getD (off+j) .top) else(Ax l).getD off .top,by simp only[An.req,D0,e1];rfl,⟨hc,Nq hd⟩,?_⟩;rw[wzj0 (by rw[Gp];exact hc),Nl];exact .refl _
 ·cases h
theorem ZX{i m:Nat}(h:kkd (.us i)=some m):∃l,Tab.kk i=some l/\lt3 l=true/\m=4+encK l:=by
 unfold kkd at h;simp only at h;split at h
 ·rename_i l hl;obtain⟨h1,h2⟩:=AG h;exact⟨l,hl,h1,(AJ h2).symm⟩
 ·cases h
theorem RC[TabOk]{c:CT}{n:Nat}(h:isK c n=true)(a b:c.T):DO (A0 (wT c a)) (A0 (wT c b))=some (keq c a b)/\(A0 (wT c a)).kkind=n:=by
 unfold isK at h;split at h
 ·rename_i m hm;have h:=AL.1 h;subst h;cases c with
  |int k=>cases hm;exact⟨Aj rfl,rfl⟩
  |bool=>cases hm;exact⟨rfl,rfl⟩
  |str=>cases hm;exact⟨rfl,rfl⟩
  |us i =>obtain⟨l,h1,h2,rfl⟩:=ZX hm;obtain⟨k1,k2⟩:=TabOk.kq i a b l h1;have ea:A0 (wT (.us i) a)=.agg (Tab.cA i a):=MY i a;have eb:A0 (wT (.us i) b)=.agg (Tab.cA i b):=MY i b;rw[ea,eb];refine⟨k2,?_⟩;show 4+encK ((Tab.cA i a).map Aa.kind)=_;rw[k1]
  |_=>cases hm
 ·cases h
theorem ZY[TabOk]{c:CT}{n:Nat}{v:SV}{a:c.T}(hk:isK c n=true)(h:ofW c v=some a):A0 v=A0 (wT c a):=by
 unfold isK at hk;split at hk
 ·rename_i m hm;cases c with
  |int k=>rw[IK h];rfl
  |bool=>rw[IL h];rfl
  |str=>rw[IM h];rfl
  |us i =>obtain⟨l,h1,h2,rfl⟩:=ZX hm;obtain⟨k1,_⟩:=TabOk.kq i a a l h1;obtain⟨r,rfl,h⟩:=QU h;have e:A0 (wT (.us i) a)=.agg (Tab.cA i a):=MY i a;have hw:Ws (Ax r) (Tab.cA i a):=(QV h).1;rw[e,show A0 (.agg r)=.agg (Ax r) from rfl,hw.scalar fun y hy=>Z9 h2 _ (k1▸SK hy)]
  |_=>cases hm
 ·cases hk
theorem RD[TabOk]{k v:CT}{n:Nat}(hk:isK k n=true)(a:k.T):∀(l:List (k.T×v.T)) (i:Nat),∃r,Cb (A0 (wT k a)) (mEs k v l) i=some r /\ ((r=none/\mget (keq k) l a=none/\∀b,mEs k v (mput (keq k) l a b)=mEs k v l++[(A0 (wT k a),A0 (wT v b))]) \/ ∃j x,r=some (i+j,A0 (wT v x))/\mget (keq k) l a=some x/\∀b,mEs k v (mput (keq k) l a b)=(mEs k v l).set j (A0 (wT k a),A0 (wT v b)))
 |[],i=>⟨none,rfl,.inl ⟨rfl,rfl,fun _=>rfl⟩⟩
 |p :: l,i=>by
  have e:Cb (A0 (wT k a)) (mEs k v (p :: l)) i=(match DO (A0 (wT k a)) (A0 (wT k p.1)) with | some true=>some (some (i,A0 (wT v p.2))) | some false=>Cb (A0 (wT k a)) (mEs k v l) (i+1) | none=>none):=rfl;rw[e,(RC hk a p.1).1];cases hq:keq k a p.1 with
  |true =>
   refine⟨_,rfl,.inr ⟨0,p.2,rfl,?_,fun b=>?_⟩⟩
   ·show(match keq k a p.1 with | true=>some p.2 | false=>mget (keq k) l a)=_;rw[hq]
   ·show mEs k v (match keq k a p.1 with | true=>(a,b) :: l | false=>p :: mput (keq k) l a b)=_;rw[hq];rfl
  |false =>
   obtain⟨r,h1,h2⟩:=RD (v:=v) hk a l (i+1);have g:mget (keq k) (p :: l) a=mget (keq k) l a:=by show(match keq k a p.1 with | true=>some p.2 | false=>mget (keq k) l a)=_;rw[hq]
   have q:∀b,mput (keq k) (p :: l) a b=p :: mput (keq k) l a b:=fun b=>by show(match keq k a p.1 with | true=>(a,b) :: l | false=>p :: mput (keq k) l a b)=_;rw[hq]
   refine⟨r,h1,?_⟩;rcases h2 with ⟨h3,h4,h5⟩|⟨j,x,h3,h4,h5⟩
   ·exact .inl ⟨h3,g.trans h4,fun b=>by rw[q];show _ :: mEs k v _=_;rw[h5];rfl⟩
   ·exact .inr ⟨j+1,x,by rw[h3];simp only[Ba,BC,and_true];omega,g.trans h4,fun b=>by rw[q];show _ :: mEs k v _=_;rw[h5];rfl⟩
theorem wzk5[TabOk](hA:Ar U T G ar hh){kd:Nat}{cok:Bool}{zero:Aa}{x k:Ae}(h:Rn H T G kd cok zero x k K=some r):VR U T G ar hh (.mlook kd cok zero x k) K r:=by
 unfold Rn at h;split at h
 ·rename_i id mst key z h1 h2 h3;have e1:ar x=.mp id (U id mst).ep:=(hA.a _ _ h1).1;have e2:ar k=A0 key:=(hA.a _ _ h2).1;have e3:=KJ h3;split at h
  ·rename_i st' ck cv l ho;split at h
   ·rename_i a d ha hd;replace h:=AG h;obtain⟨q1,h⟩:=h;replace h:=AG h;obtain⟨q2,h⟩:=h;obtain rfl:=AL.1 q1;have e4:hh id=.amap (U id mst).ep (mEs ck cv l):=(hA.h _ _ _ ho).1;have e5:BN (ar x) hh=⟨(U id mst).ep=(U id mst).ep,[id],mEs ck cv l⟩:=by unfold BN;simp only[e1,e4]
    have e6:ar k=A0 (wT ck a):=e2.trans (ZY q2 ha);have hz:W zero (A0 (wT cv d)):=e3▸Dn hd;obtain⟨rr,f1,f2⟩:=RD (v:=cv) q2 a l 0;have b7:=(RC q2 a a).2
    obtain⟨xv,xb,g1,g2,g3⟩:∃(xv:Aa) (xb:Bool),(An.mlook kd cok zero x k).req ar hh=⟨(U id mst).ep=(U id mst).ep/\(ar k).kkind=kd,[id],if cok then .tup [xv,.bool xb] else xv,none⟩/\W xv (A0 (wT cv (Option.getD (mget (keq ck) l a) d)))/\xb=Option.isSome (mget (keq ck) l a):=by
     rcases f2 with ⟨rfl,g,_⟩|⟨j,y,rfl,g,_⟩
     ·refine⟨zero,false,?_,by rw[g];exact hz,by rw[g];rfl⟩;show E8 kd cok zero (ar x) (ar k) hh=_;unfold E8;rw[e5,e6];simp only[f1]
     ·refine⟨A0 (wT cv y),true,?_,by rw[g];exact .refl _,by rw[g];rfl⟩;show E8 kd cok zero (ar x) (ar k) hh=_;unfold E8;rw[e5,e6];simp only[f1]
    subst g3;cases cok with
    |true=>exact .valR rfl h fun _=>⟨_,_,g1,⟨rfl,by rw[e6];exact b7⟩,.of_w (show W (.tup [xv,.bool (Option.isSome (mget (keq ck) l a))]) (.tup [A0 (wT cv (Option.getD (mget (keq ck) l a) d)),.bool (Option.isSome (mget (keq ck) l a))]) from OK.2 ⟨g2,.refl _,trivial⟩)⟩
    |false=>exact .valR rfl h fun _=>⟨_,_,g1,⟨rfl,by rw[e6];exact b7⟩,.of_w g2⟩
   ·cases h
  ·cases h
 ·cases h
theorem Hq(hA:Ar U T G ar hh):∀{l:List Ae} {m:List SV},FO T G l=some m->l.map ar=Ax m
 |[],m,h=>by cases h;rfl
 |x :: l,m,h=>by
  simp only[FO]at h;split at h
  ·rename_i v r h1 h2;cases h;show ar x :: l.map ar=A0 v :: Ax r;rw[(hA.a _ _ h1).1,Hq hA h2];rfl
  ·cases h
theorem wzov(hA:Ar U T G ar hh){f:FuncId}{nb:Nat}{caps:List Ae}(h:Rh H T G f nb caps K=some r):VR U T G ar hh (.mkfn f nb caps) K r:=by
 unfold Rh at h;split at h
 ·rename_i l h1;exact .val rfl h fun _=>⟨True,.fn f nb (caps.map ar),rfl,trivial,by rw[Hq hA h1];exact .refl _⟩
 ·cases h
theorem Ns(hA:Ar U T G ar hh){d n:Int}{a:Option Ae}(h:bndS T G d a=some n):CO ar d a=some n:=by
 unfold bndS at h;split at h
 ·cases h;rfl
 ·rename_i a;split at h
  ·rename_i k n' h1;cases h;show yzh (ar a)=_;rw[(hA.a _ _ h1).1];rfl
  ·cases h
theorem wzji(hA:Ar U T G ar hh){isStr:Bool}{st:Nat}{x:Ae}{lo hi:Option Ae}(h:Ri H T G isStr st x lo hi K=some r):VR U T G ar hh (.slice isStr st x lo hi) K r:=by
 unfold Ri at h;split at h
 ·cases h
 ·rename_i l hl;have hl:=Ns hA hl;split at h
  ·rename_i c m h1;have e1:ar x=.slc c.n m.length (Ai c.cA m):=(hA.a _ _ h1).1;split at h
   ·rename_i q hq;have hq:=Ns hA hq;replace h:=AG h;obtain⟨hb,h⟩:=h;obtain rfl:=AL.1 hb;have:=Dp h;refine .val rfl this.1 fun ha=>⟨c.n=c.n/\0<=l/\l<=q/\q<=m.length,.slc c.n (q-l).toNat (fun k=>Ai c.cA m (l.toNat+k)),by simp only[An.req,hl,e1,hq];rfl,⟨rfl,FS (this.2 ha)⟩,.of_w (wzux (this.2 ha))⟩
   ·cases h
  ·rename_i id vst h1;have e1:ar x=.vec id (U id vst).ep 0 (U id vst).n:=(hA.a _ _ h1).1;split at h
   ·rename_i st' c m ho;split at h
    ·rename_i q hq;have hq:=Ns hA hq;replace h:=AG h;obtain⟨hb,h⟩:=h;replace h:=AG h;obtain⟨dy,h⟩:=h;obtain rfl:=AL.1 hb;obtain rfl:=AL.1 dy;obtain⟨e2,e3,e4⟩:=hA.vec ho;have:=Dp h;rw[e3]at e1;refine .mk (p:=.vs id vst l q) (rd:=[id]) rfl (hA.a _ _ h1).2.1 this.1 fun ha=>⟨(show 0<=l/\l<=q/\q<=(U id vst).n from e3▸FS (this.2 ha)),(U id vst).ep=(U id vst).ep/\c.n=c.n/\0<=l/\l<=q/\q<=m.length,.vec id (U id vst).ep (0+l.toNat) (q-l).toNat,[id],by simp only[An.req,hl,e1,hq,e2],⟨rfl,rfl,FS (this.2 ha)⟩,by rw[Bq];exact .refl _,fun j hj=>hj⟩
    ·cases h
   ·cases h
  ·rename_i s h1;have e1:ar x=.str s:=(hA.a _ _ h1).1;split at h
   ·rename_i q hq;have hq:=Ns hA hq;have:=Dp h;exact .val rfl this.1 fun ha=>⟨0<=l/\l<=q/\q<=s.length,.str ((s.drop l.toNat).take (q-l).toNat),by simp only[An.req,hl,e1,hq];rfl,FS (this.2 ha),.refl _⟩
   ·cases h
  ·cases h
theorem wziy(hA:Ar U T G ar hh){off:Nat}{x:Ae}(h:Rj H T G off x K=some r):VR U T G ar hh (.faddr off x) K r:=by
 unfold Rj at h;split at h
 ·rename_i id st o h1;have e1:ar x=.ptr id (U id st).ep o:=(hA.a _ _ h1).1;split at h
  ·rename_i st' ob ho;replace h:=AG h;obtain⟨hb,h⟩:=h;obtain rfl:=AL.1 hb;exact .mk (p:=.ptr id st (o+off)) (rd:=[id]) rfl (hA.a _ _ h1).2.1 h fun ha=>⟨trivial,(U id st).ep=(hh id).ep,_,[id],by simp only[An.req,e1];rfl,by rw[hA.ep ho],.refl _,fun j hj=>hj⟩
  ·cases h
 ·rename_i id st j o c y h1;have e1:ar x=.eptr id (U id st).ep j.toNat o:=(hA.a _ _ h1).1;split at h
  ·rename_i st' ob ho;replace h:=AG h;obtain⟨hb,h⟩:=h;obtain rfl:=AL.1 hb;exact .mk (p:=.eptr id st j (o+off) c y) (rd:=[id]) rfl (hA.a _ _ h1).2.1 h fun ha=>⟨(hA.a _ _ h1).2.2 ha,(U id st).ep=(hh id).ep,_,[id],by simp only[An.req,e1];rfl,by rw[hA.ep ho],.refl _,fun j hj=>hj⟩
  ·cases h
 ·rename_i l o h1;have e1:ar x=.cptr (fun k=>(Ax l).getD k .top) l.length o:=(hA.a _ _ h1).1;exact .val rfl h fun _=>⟨True,.cptr (fun k=>(Ax l).getD k .top) l.length (o+off),by simp only[An.req,e1];rfl,trivial,.refl _⟩
 ·cases h
theorem wzdd[TabOk](hA:Ar U T G ar hh){st:Nat}{x i:Ae}(h:Rk H T G st x i K=some r):VR U T G ar hh (.iaddrS st x i) K r:=by
 unfold Rk at h;split at h
 ·rename_i c l k j h1 h2;have e1:ar x=.slc c.n l.length (Ai c.cA l):=(hA.a _ _ h1).1;have e2:ar i=.int k j:=(hA.a _ _ h2).1;replace h:=AG h;obtain⟨hb,h⟩:=h;obtain rfl:=AL.1 hb;replace h:=@KM _ _ c.inh _ _ _ _ h;obtain⟨v,h,hv⟩:=h;refine .val rfl h fun ha=>?_;obtain⟨q1,q2,q3,q4⟩:=ZV (hv ha);refine⟨c.n=c.n/\0<=j/\j<l.length,.cptr (fun k=>(Ai c.cA l j.toNat).getD k .top) c.n 0,by simp only[An.req,e1,e2];rfl,⟨rfl,q1,q2⟩,?_⟩;rw[q4,<-IQ];show VEq _ (.cptr (fun k=>(Ax (Dm c v)).getD k .top) (Dm c v).length 0);rw[QT];exact .refl _
 ·rename_i id vst k j h1 h2;have e1:ar x=.vec id (U id vst).ep 0 (U id vst).n:=(hA.a _ _ h1).1;have e2:ar i=.int k j:=(hA.a _ _ h2).1;split at h
  ·rename_i st' c l ho;replace h:=AG h;obtain⟨hb,h⟩:=h;replace h:=AG h;obtain⟨dy,h⟩:=h;obtain rfl:=AL.1 hb;obtain rfl:=AL.1 dy;replace h:=@KM _ _ c.inh _ _ _ _ h;obtain⟨v,h,hv⟩:=h;obtain⟨e3,e4,e5⟩:=hA.vec ho;refine .mk (p:=.eptr id vst j 0 c v) (rd:=[id]) rfl (hA.a _ _ h1).2.1 h fun ha=>?_;obtain⟨q1,q2,q3,q4⟩:=ZV (hv ha);refine⟨⟨q1,by rw[e4];exact q3,by rw[e5];exact q4⟩,(U id vst).ep=(U id vst).ep/\c.n=c.n/\0<=j/\j<(U id vst).n,.eptr id (U id vst).ep (0+j.toNat) 0,[id],by simp only[An.req,e1,e2,e3],⟨rfl,rfl,q1,by rw[e4];exact q2⟩,by rw[Bq];exact .refl _,fun j hj=>hj⟩
  ·cases h
 ·cases h
theorem Nt:∀{l m:List SV} {e:Bool},eqS l m=some e->BL (Ax l) (Ax m)=some e
 |[],[],e,h=>h
 |x :: l,y :: m,e,h=>by
  simp only[eqS]at h
  show(match A0 x,A0 y,BL (Ax l) (Ax m) with
   |.int k a,.int k' b,some e=>if k=k' then some (decide (a=b)&&e) else none
   |.bool a,.bool b,some e=>some ((a==b)&&e)
   |.str a,.str b,some e=>some (decide (a=b)&&e)
   | _,_,_=>none)=some e
  split at h
  ·rename_i h1;rw[Nt h1];exact h
  ·rename_i h1;rw[Nt h1];exact h
  ·rename_i h1;rw[Nt h1];exact h
  ·cases h
 |[],_ :: _,e,h=>by cases h
 |_ :: _,[],e,h=>by cases h
theorem wzjh(v:SV):Nc v=(A0 v).kind:=by
 cases v with
 |_=>rfl
theorem ZZ:∀{l:List SV} {sh:List Nat},Nd l sh=true->(Ax l).map Aa.kind=sh
 |[],[],_=>rfl
 |x :: l,n :: m,h=>by
  have h:Ac (Nat.beq (Nc x) n) (Nd l m) false=true:=h;cases hb:Nat.beq (Nc x) n
  ·rw[hb]at h;cases h
  ·rw[hb]at h;show(A0 x).kind :: (Ax l).map Aa.kind=_;rw[ZZ h,<-wzjh,AL.1 hb]
 |[],_ :: _,h=>by cases h
 |_ :: _,[],h=>by cases h
theorem wzjj(hA:Ar U T G ar hh){sh:List Nat}{ng:Bool}{x y:Ae}(h:Rp H T G sh ng x y K=some r):VR U T G ar hh (.eqagg sh ng x y) K r:=by
 unfold Rp at h;split at h
 ·rename_i l m h1 h2;have e1:ar x=.agg (Ax l):=(hA.a _ _ h1).1;have e2:ar y=.agg (Ax m):=(hA.a _ _ h2).1;split at h
  ·rename_i e he;replace h:=AG h;obtain⟨hk,h⟩:=h;refine .val rfl h fun _=>⟨(Ax l).map Aa.kind=sh,.bool (if ng then !e else e),by simp only[An.req,e1,e2,Nt he];rfl,ZZ hk,?_⟩;cases ng<;>exact .refl _
  ·cases h
 ·cases h
theorem Nu(hA:Ar U T G ar hh):∀{ps:List (Nat×Nat×Ae)} {l m:List SV},IU T G l ps=some m->Ds ar (Ax l) ps=some (Ax m)
 |[],l,m,h=>by cases h;rfl
 |(off,sz,x) :: ps,l,m,h=>by
  simp only[IU]at h;split at h
  ·rename_i v hv;split at h
   ·rename_i p hp;replace h:=AG h;obtain⟨h1,h⟩:=h;replace h:=AG h;obtain⟨h2,h⟩:=h;have h1:=AL.1 h1;have h2:=Ll h2;have e:ar x=A0 v:=(hA.a _ _ hv).1;simp only[Ds,e,MU hp,Gp];rw[Aj ⟨h1,h2⟩,<-RB];exact Nu hA h
   ·cases h
  ·cases h
theorem wzjv(hA:Ar U T G ar hh){zero:List Aa}{ps:List (Nat×Nat×Ae)}(h:Rs H T G zero ps K=some r):VR U T G ar hh (.build zero ps) K r:=by
 unfold Rs at h;split at h
 ·rename_i z hz;split at h
  ·rename_i l hl;have:=Nu hA hl;rw[Hn hz]at this;exact .val rfl h fun _=>⟨True,.agg (Ax l),by simp only[An.req,this];rfl,trivial,.refl _⟩
  ·cases h
 ·cases h
theorem wzsj(hA:Ar U T G ar hh){x:Ae}(h:Rt H T G x K=some r):VR U T G ar hh (.b2s x) K r:=by
 unfold Rt at h;split at h
 ·rename_i l h1;have e1:ar x=.slc 1 l.length (Ai (cI .u8) l):=(hA.a _ _ h1).1;exact .val rfl h fun _=>⟨True/\1=1,.str (BS l),wziz (l:=l) e1,⟨trivial,rfl⟩,.refl _⟩
 ·rename_i id vst h1;have e1:ar x=.vec id (U id vst).ep 0 (U id vst).n:=(hA.a _ _ h1).1;split at h
  ·rename_i st' l ho;replace h:=AG h;obtain⟨hb,h⟩:=h;obtain rfl:=AL.1 hb;obtain⟨e2,e3,e4⟩:=hA.vec ho;have e2:hh id=.vec (U id vst).ep 1 l.length (Ai (cI .u8) l):=e2;rw[e3]at e1;exact .valR rfl h fun _=>⟨((U id vst).ep=(U id vst).ep/\0+l.length<=l.length)/\1=1,.str (BS l),wzkh (l:=l) e1 e2,⟨⟨rfl,by omega⟩,rfl⟩,.refl _⟩
  ·cases h
 ·cases h
def Pk(U:Phi)(T:Av)(ar:Ae->Aa):Prop:=∀a n w b x,argP T (some (n,w,w)) a=some x->ar (.t n)=.bool b->unv (ar a)=eP U x/\unc (Ac w b (!b)) (ar a)
theorem qz48(hA:Ar U T G ar hh)(hP:Pk U T ar){n:Nat}{w b:Bool}{a:Ae}{x:PV}(h:IV T G n w a=some x)(hb:ar (.t n)=.bool b):unv (ar a)=eP U x/\unc (Ac w b (!b)) (ar a):=by
 cases G with
 |none=>exact hP a n w b x h hb
 |some g =>
  have h:(match argP T (some g) a with | some p=>some p | none=>argP T (some (n,w,w)) a)=some x:=h;split at h
  ·rename_i p hp;cases h;have h1:=(hA.a _ _ hp).1;rw[h1];exact⟨KK _,KL _ _⟩
  ·exact hP a n w b x h hb
theorem wzpl(hA:Ar U T G ar hh)(hP:Pk U T ar){c x y:Ae}(h:KD H T G c x y K=some r):VR U T G ar hh (.pick c x y) K r:=by
 unfold KD at h;split at h
 ·rename_i n;split at h
  ·rename_i b hb;have e0:ar (.t n)=.bool b:=(hA.a _ _ hb).1;have key:∀p q,IV T G n true x=some (.s p)->IV T G n false y=some (.s q)->(unv (ar x)=A0 p/\unc b (ar x))/\(unv (ar y)=A0 q/\unc (!b) (ar y)):=fun p q hp hq=>⟨qz48 hA hP hp e0,qz48 hA hP hq e0⟩;split at h
   ·rename_i p q hp hq;obtain⟨⟨a1,a2⟩,a3,a4⟩:=key _ _ hp hq;refine .val rfl h fun _=>⟨unc b (ar x)/\unc (!b) (ar y),.bool (bif b then p else q),?_,⟨a2,a4⟩,.refl _⟩;simp only[An.req,e0,Dz,a1,a3,A0];rfl
   ·rename_i k p k' q hp hq;replace h:=AG h;rw[CN]at h;obtain⟨rfl,h⟩:=h;obtain⟨⟨a1,a2⟩,a3,a4⟩:=key _ _ hp hq;refine .val rfl h fun _=>⟨unc b (ar x)/\unc (!b) (ar y),.int k (bif b then p else q),?_,⟨a2,a4⟩,.refl _⟩;simp only[An.req,e0,Dz,a1,a3,A0];simp[Req.when]
   ·cases h
  ·cases h
 ·cases h
theorem RE[TabOk]{c:CT}{st:Nat}:∀{n:Nat} {l:List SV} {m:List c.T},KE c st n l=some m->l.length=n*st->m.length=n/\BD (Ax l)=true/\∀k,k<n->Ws ((Gl st n (Ax l)).getD k []) (Ai c.cA m k)
 |0,l,m,h,hl=>by cases h;have:l=[]:=Gbt.1 (by omega);subst this;exact⟨rfl,rfl,fun k hk=>by omega⟩
 |n+1,l,m,h,hl=>by
  simp only[KE]at h;split at h
  ·rename_i x q h1 h2;cases h;have iv:(l.drop st).length=n*st:=by rw[H5,hl,BY];omega
   obtain⟨a,b,d⟩:=RE h2 iv;obtain⟨p1,p2⟩:=IR h1;refine⟨by rw[Bl,a],?_,fun k hk=>?_⟩
   ·rw[<-SL st l,MR,Nr,p2,b];rfl
   ·cases k with
    |zero=>show Ws ((Ax l).take st) (c.cA x);rw[<-MS];exact p1
    |succ k =>show Ws ((Gl st n ((Ax l).drop st)).getD k []) (Ai c.cA q k);rw[<-MT];exact d k (by omega)
  ·cases h
theorem wzf9[TabOk](hA:Ar U T G ar hh)(bZ:∀i,inR T.b i=true->(hh i).plain){ty:List (Nat×CT)}{s st nn:Nat}{zero:List Aa}{ps:List (Nat×Nat×Ae)}(h:Ru ty T G s st nn zero ps K=some r):VR U T G ar hh (.fslice s st nn zero ps) K r:=by
 unfold Ru at h;split at h
 ·rename_i z hz;split at h
  ·rename_i l hl;have hf:=Nu hA hl;rw[Hn hz]at hf;replace h:=AG h;obtain⟨h1,h⟩:=h;replace h:=AG h;obtain⟨h2,h⟩:=h;replace h:=AG h;obtain⟨h3,h⟩:=h;have h1:=AL.1 h1;have h2:=AL.1 h2;have h3:0<st:=by simpa [Gt] using h3
   replace h:=AG h;obtain⟨h4,h⟩:=h;split at h
   ·rename_i m hm;obtain⟨c1,c2,c3⟩:=RE hm h1;have aD:(An.fslice s st nn zero ps).req ar hh=⟨(hh s).plain/\(Ax l).length=nn*st/\0<st/\BD (Ax l)=true,[s],.slc st nn (fun i=>(Gl st nn (Ax l)).getD i []),some (s,hh s)⟩:=by simp only[An.req,hf]
    refine⟨_,_,h,trivial,rfl,fun _=>⟨trivial,by rw[aD];exact⟨bZ s h4,by rw[Gp,h1],h3,c2⟩,?_,by rw[aD];exact fun j hj=>hj,by rw[aD];exact rfl⟩⟩;rw[aD];refine .of_w ?_;show W _ (.slc (Bf s ty).n m.length (Ai (Bf s ty).cA m));exact JK.2 ⟨h2.symm,c1.symm,c3⟩
   ·cases h
  ·cases h
 ·cases h
theorem wzh3[TabOk](hA:Ar U T G ar hh)(hP:Pk U T ar)(bZ:∀i,inR T.b i=true->(hh i).plain){ty:List (Nat×CT)}{o:An}(hc:o.isCall=false)(h:opV H ty T G o K=some r):VR U T G ar hh o K r:=by
 cases o<;>simp only[opV]at h<;>first
  |(cases h;done) | (cases hc;done)
  |exact wzwq hA h | exact wzpl hA hP h | exact wzs8 hA h | exact wztq hA h | exact wzs7 hA h | exact wzsi hA h | exact wzra hA h | exact wzov hA h | exact wzji hA h
  |exact wziy hA h | exact wzdd hA h   | exact wzch hA h | exact wzpj hA h | exact wztg hA h | exact wzjj hA h | exact wzsz hA h | exact wzt2 hA h  | exact wzjv hA h | exact wzsj hA h | exact wzf9 hA bZ h   | exact wzk5 hA h
end
end
theorem OEq.of_wo{o' o:Ad}(h:WO o' o)(hn:∀e,o≠.gone e):OEq o' o:=by
 refine⟨h.ep,fun ho=>h.owned ho,fun e he=>?_,fun g w i hO=>h.or hO,fun e es he=>?_⟩;rotate_left
 ·subst he;cases o with
  |gone e=>exact absurd rfl (hn e)
  |box e l=>obtain⟨l0,h,_⟩:=h;cases h
  |vec e st n f=>obtain⟨f0,h,_⟩:=h;cases h
  |_=>first|exact h.symm|exact h
 subst he;cases o with
 |gone e=>exact absurd rfl (hn e)
 |box e l=>obtain⟨l0,h,_⟩:=h;cases h
 |vec e st n f=>obtain⟨f0,h,_⟩:=h;cases h
 |_=>exact h
theorem OEq.vec{e st n n':Nat}{f f':Nat->List Aa}(hn:n=n')(h:∀k,k<n->Ws (f k) (f' k)):OEq (.vec e st n f) (.vec e st n' f'):=by subst hn;exact .of_wo (UA.2 ⟨rfl,rfl,rfl,h⟩) (fun e h=>by cases h)
theorem qz3h{α:Type}:∀{n:Nat} {l:List α},Rb n l=true->l.length<=n
 |_,[],_=>B3 _
 |0,_ :: _,h=>by cases h
 |n+1,_ :: l,h=>by have:=qz3h (n:=n) (l:=l) h;simp only[Bl];omega
theorem qzxd{l p:List Aa}{off:Nat}(h:BD (lay l off p)=true):BD p=true:=by unfold lay at h;rw[Nr,Nr]at h;simp only[AH]at h;exact h.1.2
theorem qz0k{α:Type}{c:α->List Aa}{m l:List α}(k:Nat):Ws (if k<m.length then Ai c m (0+k) else Ai c l (k-m.length)) (Ai c (m++l) k):=by rw[LL,Bq];exact .refl _
theorem wzh4{α:Type}{c:α->List Aa}{m new:List α}{i n:Nat}{src:Nat->List Aa}(hi:i+n<=m.length)(hl:new.length=n)(h:∀k,k<n->Ws (src k) (Ai c new k))(k:Nat):Ws (if i<=k/\k<i+n then src (k-i) else Ai c m k) (Ai c (Bx m i new) k):=by
 rw[qz7p (by omega),hl];by_cases hk:i<=k/\k<i+n
 ·rw[Aj hk,Aj hk];exact h _ (by omega)
 ·rw[Ag hk,Ag hk];exact .refl _
section
variable [Tab]
def ghoR(G:HB)(ep:Nat):TO->HB
 |.vec c l=>⟨ep,l.length,Ai c.cA l⟩
 |.own c l=>⟨ep,l.length,Ai c.cA l⟩
 |_=>⟨ep,G.n,G.f⟩
theorem RF{G:HB}{e:Nat}{o:TO}:(ghoR G e o).ep=e:=by cases o<;>rfl
theorem qzyq{G:HB}{e:Nat}{o:TO}:OkO (ghoR G e o) o:=by cases o<;>simp[ghoR,OkO]
structure Hp(U:Phi)(T:Av)(ar:Ae->Aa)(hh:Aq):Prop extends Ar U T none ar hh where
 pl:∀i,inR T.b i=true->(hh i).plain
 ro:∀id p,Aw T.h id=some p->inR T.b id=true
structure VO'(U:Phi)(T:Av)(ar:Ae->Aa)(hh:Aq)(o:An)(p:PV)(id:Nat)(ob:TO)(re:Bool)(rd:List Nat)(ep:Nat)(G:HB):Prop where
 st:StP (T.nx+1) p
 ok:(o.req ar hh).ok
 v:VEq (o.req ar hh).v (eP (upd U id T.nx (ghoR G ep ob)) p)
 okp:OkP (upd U id T.nx (ghoR G ep ob)) p
 hrd:∀j∈(o.req ar hh).rd,j∈rd
 hout:OutW hh (o.req ar hh).out (some (id,eO (upd U id T.nx (ghoR G ep ob)) ep ob))
 hid:id∈rd
 idr:inR T.b id=true
 re:re=true->∃st o0,Aw T.h id=some (st,o0)/\(U id st).ep=ep/\(U id st).n=(ghoR G ep ob).n
 rfo:RfO (upd U id T.nx (ghoR G ep ob)) (T.nx+1) ob
def VO{α:Type}(U:Phi)(T:Av)(ar:Ae->Aa)(hh:Aq)(o:An)(K:PV->Nat->TO->Bool->List Nat->Option α)(r:α):Prop := ∃p id ob re rd ep G,K p id ob re rd=some r/\VO' U T ar hh o p id ob re rd ep G
section
variable {α:Type}{U:Phi}{ty:List (Nat×CT)}{T:Av}{ar:Ae->Aa}{hh:Aq}{K:PV->Nat->TO->Bool->List Nat->Option α}{r:α}
theorem qz91:∀(l:List Aa),Ws l (Ax (ofAT l))
 |[]=>trivial
 |x :: l=>by
  refine⟨?_,qz91 l⟩;cases h:ofA1 x with
  |none=>exact .top _
  |some v=>exact(Nm h)▸.refl _
theorem wzj3[TabOk](hA:Hp U T ar hh){s:Nat}{zero:List Aa}(hs:inR T.b s=true)(h:ZR ty T s zero K=some r):VO U T ar hh (.alloc s zero) K r:=by
 refine⟨_,_,_,_,_,(hh s).ep+1,⟨0,0,fun _=>[]⟩,h,⟨CU _,hA.pl s hs,?_,trivial,fun j hj=>hj,⟨rfl,?_⟩,BX.2 rfl,hs,(fun e=>by cases e),trivial⟩⟩
 ·show VEq (.ptr s ((hh s).ep+1) 0) (.ptr s (upd U s T.nx _ s T.nx).ep 0);rw[yzj];exact .refl _
 ·show OEq (.box ((hh s).ep+1) zero) (.box ((hh s).ep+1) (Ax (ofAT zero)));exact .of_wo (vze.2 ⟨rfl,qz91 zero⟩) (fun e h=>by cases h)
theorem wzso[TabOk](hA:Hp U T ar hh){s:Nat}{x:Ae}(hs:inR T.b s=true)(h:Rw ty T s x K=some r):VO U T ar hh (.box s x) K r:=by
 unfold Rw at h;split at h
 ·rename_i v h1;have e1:ar x=A0 v:=(hA.a _ _ h1).1;split at h
  ·rename_i l hl;have aD:(An.box s x).req ar hh=⟨(hh s).plain,[s],.ptr s ((hh s).ep+1) 0,some (s,.box ((hh s).ep+1) (Ax l))⟩:=by simp only[An.req,e1,MU hl]
   refine⟨_,_,_,_,_,(hh s).ep+1,⟨0,0,fun _=>[]⟩,h,⟨CU _,by rw[aD];exact hA.pl s hs,?_,trivial,by rw[aD];exact fun j hj=>hj,by rw[aD];exact⟨rfl,.refl _⟩,BX.2 rfl,hs,(fun e=>by cases e),trivial⟩⟩;rw[aD];show VEq (.ptr s ((hh s).ep+1) 0) (.ptr s (upd U s T.nx _ s T.nx).ep 0);rw[yzj];exact .refl _
  ·cases h
 ·cases h
theorem wzfd[TabOk](hA:Hp U T ar hh){s st nn:Nat}{zero:List Aa}{ps:List (Nat×Nat×Ae)}(hs:inR T.b s=true)(h:Ry ty T s st nn zero ps K=some r):VO U T ar hh (.bslice s st nn zero ps) K r:=by
 unfold Ry at h;split at h
 ·rename_i z hz;split at h
  ·rename_i l hl;have hf:=Nu hA.toAr hl;rw[Hn hz]at hf;replace h:=AG h;obtain⟨h1,h⟩:=h;replace h:=AG h;obtain⟨h2,h⟩:=h;replace h:=AG h;obtain⟨h3,h⟩:=h;have h1:=AL.1 h1;have h2:=AL.1 h2;have h3:0<st:=by simpa [Gt] using h3
   split at h
   ·rename_i m hm;obtain⟨c1,c2,c3⟩:=RE hm h1;have aD:(An.bslice s st nn zero ps).req ar hh=⟨(hh s).plain/\(Ax l).length=nn*st/\0<st/\BD (Ax l)=true,[s],.vec s ((hh s).ep+1) 0 nn,some (s,.vec ((hh s).ep+1) st nn (fun i=>(Gl st nn (Ax l)).getD i []))⟩:=by simp only[An.req,hf]
    refine⟨_,_,_,_,_,(hh s).ep+1,⟨0,0,fun _=>[]⟩,h,⟨CU _,by rw[aD];exact⟨hA.pl s hs,by rw[Gp,h1],h3,c2⟩,?_,trivial,by rw[aD];exact fun j hj=>hj,?_,BX.2 rfl,hs,(fun e=>by cases e),trivial⟩⟩
    ·rw[aD];show VEq (.vec s ((hh s).ep+1) 0 nn) (.vec s (upd U s T.nx _ s T.nx).ep 0 (upd U s T.nx _ s T.nx).n);rw[yzj];show VEq _ (.vec s ((hh s).ep+1) 0 m.length);rw[c1];exact .refl _
    ·rw[aD];refine⟨rfl,?_⟩;show OEq _ (.vec ((hh s).ep+1) (Bf s ty).n m.length (Ai (Bf s ty).cA m));rw[h2];exact .vec c1.symm c3
   ·cases h
  ·cases h
 ·cases h
theorem wztz[TabOk](hA:Hp U T ar hh){s st bytes:Nat}{zero:List Aa}{x:Ae}(hs:inR T.b s=true)(h:Rz ty T s st bytes zero x K=some r):VO U T ar hh (.mks s st bytes zero x) K r:=by
 unfold Rz at h;split at h
 ·rename_i z k n hz h1;have e1:ar x=.int k n:=(hA.a _ _ h1).1;replace h:=AG h;obtain⟨h2,h⟩:=h;replace h:=AG h;obtain⟨h3,h⟩:=h;have h2:=AL.1 h2;have h3:0<st:=by simpa [Gt] using h3
  split at h
  ·rename_i e he;have hk:=Dp (G:=none) h;obtain⟨k1,k2⟩:=wztw (hk.2 trivial);obtain⟨p1,p2⟩:=IR he;rw[Hn hz]at p1 p2;have aE:zero.length=st:=by rw[p1.at.1,KB,h2]
   have aD:(An.mks s st bytes zero x).req ar hh=⟨(hh s).plain/\0<=n/\n*bytes<=140737488355328/\0<st/\zero.length=st/\BD zero=true,[s],.vec s ((hh s).ep+1) 0 n.toNat,some (s,.vec ((hh s).ep+1) st n.toNat (fun _=>zero))⟩:=by simp only[An.req,e1]
   refine⟨_,_,_,_,_,(hh s).ep+1,⟨0,0,fun _=>[]⟩,hk.1,⟨CU _,by rw[aD];exact⟨hA.pl s hs,k1,k2,h3,aE,p2⟩,?_,trivial,by rw[aD];exact fun j hj=>hj,?_,BX.2 rfl,hs,(fun e=>by cases e),trivial⟩⟩
   ·rw[aD];show VEq (.vec s ((hh s).ep+1) 0 n.toNat) (.vec s (upd U s T.nx _ s T.nx).ep 0 (upd U s T.nx _ s T.nx).n);rw[yzj];show VEq _ (.vec s ((hh s).ep+1) 0 (List.replicate n.toNat e).length);rw[Ob];exact .refl _
   ·rw[aD];refine⟨rfl,?_⟩;show OEq _ (.vec ((hh s).ep+1) (Bf s ty).n (List.replicate n.toNat e).length (Ai (Bf s ty).cA (List.replicate n.toNat e)));rw[h2];exact .vec (by rw[Ob]) fun k hk=>by rw[qzul hk];exact p1
  ·cases h
 ·cases h
theorem wzth[TabOk](hA:Hp U T ar hh){s:Nat}{x:Ae}(hs:inR T.b s=true)(h:R0 ty T s x K=some r):VO U T ar hh (.s2b s x) K r:=by
 unfold R0 at h;split at h
 ·rename_i b h1;have e1:ar x=.str b:=(hA.a _ _ h1).1;have aD:(An.s2b s x).req ar hh=⟨(hh s).plain,[s],.slc 1 b.length (fun k=>[.int .u8 (Cu b k)]),some (s,.gone ((hh s).ep+1))⟩:=by simp only[An.req,e1]
  refine⟨_,_,_,_,_,(hh s).ep+1,⟨0,0,fun _=>[]⟩,h,⟨trivial,by rw[aD];exact hA.pl s hs,?_,trivial,by rw[aD];exact fun j hj=>hj,by rw[aD];exact⟨rfl,.refl _⟩,BX.2 rfl,hs,(fun e=>by cases e),trivial⟩⟩;rw[aD];refine .of_w (JK.2 ⟨rfl,(qz6c b).symm,wzod rfl fun k _=>rfl⟩)
 ·cases h
theorem wzfs[TabOk]{c:CT}{l:List c.T}{i:Nat}{e:c.T}{row:List Aa}(hi:i<l.length)(h:Ws row (c.cA e))(k:Nat):Ws (if k=i then row else Ai c.cA l k) (Ai c.cA (l.set i e) k):=by
 rw[qz7r hi];split
 ·exact h
 ·exact .refl _
theorem wzkm[TabOk](hA:Hp U T ar hh){sz:Nat}{x y:Ae}(h:R3 ty T sz x y K=some r):VO U T ar hh (.store sz x y) K r:=by
 unfold R3 at h;split at h
 ·rename_i id st off v h1 h2;have e1:ar x=.ptr id (U id st).ep off:=(hA.a _ _ h1).1;have e2:ar y=A0 v:=(hA.a _ _ h2).1;split at h
  ·rename_i st' cs p ho hp;replace h:=AG h;obtain⟨q1,h⟩:=h;replace h:=AG h;obtain⟨q2,h⟩:=h;replace h:=AG h;obtain⟨q3,h⟩:=h;replace h:=AG h;obtain⟨q4,h⟩:=h;obtain rfl:=AL.1 q1;have q2:=AL.1 q2;have q3:=Ll q3;have e3:=hA.toAr.box ho;have aD:(An.store sz x y).req ar hh=⟨(U id st).ep=(U id st).ep/\(Ax p).length=sz/\BD (Ax p)=true/\off+sz<=(Ax cs).length,[id],.top,some (id,.box (U id st).ep (lay (Ax cs) off (Ax p)))⟩:=by simp only[An.req,Og,e1,e2,MU hp,e3]
   refine⟨_,_,_,_,_,(U id st).ep,U id st,h,⟨trivial,by rw[aD];exact⟨rfl,by rw[Gp,q2],ZU q4,by rw[Gp];exact q3⟩,by rw[aD];exact .refl _,trivial,by rw[aD];exact fun j hj=>hj,?_,BX.2 rfl,hA.ro _ _ ho,(fun _=>⟨st,_,ho,rfl,rfl⟩),trivial⟩⟩;rw[aD];refine⟨rfl,?_⟩;show OEq _ (.box (U id st).ep (Ax (layS cs off p)));rw[RB];exact .refl _
  ·cases h
 ·rename_i id st j off c y0 v h1 h2;have e1:ar x=.eptr id (U id st).ep j.toNat off:=(hA.a _ _ h1).1;have e2:ar y=A0 v:=(hA.a _ _ h2).1;split at h
  ·rename_i st' c' l p ho hp;replace h:=AG h;obtain⟨q1,h⟩:=h;replace h:=AG h;obtain⟨q2,h⟩:=h;replace h:=AG h;obtain⟨q3,h⟩:=h;obtain rfl:=AL.1 q1;have q2:=AL.1 q2;have q3:=Ll q3;obtain⟨e3,e4,e5⟩:=hA.toAr.vec ho;obtain⟨k1,k2,k3⟩:=(hA.a _ _ h1).2.2 trivial;rw[e4]at k2;rw[e5]at k3;have hn:=ZW k2 k3;split at h
   ·rename_i e he;obtain⟨p1,p2⟩:=IR he;rw[RB,IQ]at p1 p2;have aD:(An.store sz x y).req ar hh=⟨(U id st).ep=(U id st).ep/\j.toNat<l.length/\(Ax p).length=sz/\BD (Ax p)=true/\off+sz<=c'.n,[id],.top,some (id,.vec (U id st).ep c'.n l.length (fun k=>if k=j.toNat then lay (Ai c'.cA l j.toNat) off (Ax p) else Ai c'.cA l k))⟩:=by simp only[An.req,Og,e1,e2,MU hp,e3]
    refine⟨_,_,_,_,_,(U id st).ep,U id st,h,⟨trivial,by rw[aD];exact⟨rfl,k2,by rw[Gp,q2],qzxd p2,by rw[<-hn];exact q3⟩,by rw[aD];exact .refl _,trivial,by rw[aD];exact fun j hj=>hj,?_,BX.2 rfl,hA.ro _ _ ho,(fun _=>⟨st,_,ho,rfl,?_⟩),trivial⟩⟩
    ·rw[aD];refine⟨rfl,?_⟩;show OEq _ (.vec (U id st).ep c'.n (l.set j.toNat e).length (Ai c'.cA (l.set j.toNat e)));rw[k3];exact .vec (by rw[J0]) fun k hk=>wzfs k2 p1 k
    ·show(U id st).n=(l.set j.toNat e).length;rw[e4,J0]
   ·cases h
  ·cases h
 ·cases h
theorem Nv(hA:Hp U T ar hh){y:Ae}{q:PV}{c:CT}{l:List c.T}{rd:List Nat}(hq:argP T none y=some q)(h:srcS T c q=some (l,rd))(st:Nat):∃ok:Prop,ok/\Bk st (ar y) hh=⟨ok,rd,c.n,l.length,Ai c.cA l⟩:=by
 have e:=(hA.a _ _ hq).1;unfold srcS at h;split at h
 ·rename_i c' l';split at h
  ·rename_i l2 h2;cases h;obtain⟨a,b,d,rfl⟩:=EY h2;have e:ar y=.slc c'.n l'.length (Ai c'.cA l'):=e;refine⟨True,trivial,?_⟩;rw[e,<-b,<-d];rfl
  ·cases h
 ·rename_i id vst;have e:ar y=.vec id (U id vst).ep 0 (U id vst).n:=e;split at h
  ·rename_i st' c' l' ho;replace h:=AG h;obtain⟨hb,h⟩:=h;obtain rfl:=AL.1 hb;split at h
   ·rename_i l2 h2;cases h;obtain⟨a,b,d,rfl⟩:=EY h2;obtain⟨e3,e4,e5⟩:=hA.toAr.vec ho;refine⟨(U id vst).ep=(U id vst).ep/\0+(U id vst).n<=l'.length,⟨rfl,by rw[e4];omega⟩,?_⟩;rw[e];simp only[Bk,e3,e4,Bq,<-b,<-d]
   ·cases h
  ·cases h
 ·cases h
theorem wzik[TabOk](hA:Hp U T ar hh){s st bytes:Nat}{x y:Ae}(hs:inR T.b s=true)(h:R4 ty T s st bytes x y K=some r):VO U T ar hh (.append s st bytes x y) K r:=by
 unfold R4 at h;split at h
 ·rename_i q h1 h2;have e1:ar x=.nils:=(hA.a _ _ h1).1;split at h
  ·rename_i a l rd cJ;replace h:=AG h;obtain⟨q1,h⟩:=h;replace h:=AG h;obtain⟨q2,h⟩:=h;replace h:=AG h;obtain⟨q3,h⟩:=h;replace h:=AG h;obtain⟨q4,h⟩:=h;have q1:=AL.1 q1;have q2:0<st:=by simpa [Gt] using q2
   have q3:=qz3h q3;have q4:=Ll q4;obtain⟨ok,aB,bX⟩:=Nv hA h2 cJ st;have aD:(An.append s st bytes x y).req ar hh=⟨(hh s).plain/\ok/\(Bf s ty).n=st/\0<st/\0<(a :: l).length/\(a :: l).length*bytes<=140737488355328,s :: rd,.vec s ((hh s).ep+1) 0 (a :: l).length,some (s,.vec ((hh s).ep+1) st (a :: l).length (Ai (Bf s ty).cA (a :: l)))⟩:=by simp only[An.req,Fp,e1,bX];rw[Ag (by simp)]
   have hb:(a :: l).length*bytes<=140737488355328:=by have:(a :: l).length*bytes<=65*1000000:=Nat.mul_le_mul (by simp only[Bl];omega) q4;omega
   refine⟨_,_,_,_,_,(hh s).ep+1,⟨0,0,fun _=>[]⟩,h,⟨CU _,by rw[aD];exact⟨hA.pl s hs,aB,q1,q2,by simp,hb⟩,?_,trivial,by rw[aD];exact fun j hj=>hj,?_,AP ..,hs,(fun e=>by cases e),trivial⟩⟩
   ·rw[aD];show VEq _ (match (upd U s T.nx _ s T.nx).n with | 0=>.nils | n+1=>.vec s (upd U s T.nx _ s T.nx).ep 0 (n+1));rw[yzj];exact .refl _
   ·rw[aD];refine⟨rfl,?_⟩;show OEq _ (.vec ((hh s).ep+1) (Bf s ty).n (l.length+1) (Ai (Bf s ty).cA (a :: l)));rw[q1];exact .refl _
  ·cases h
 ·rename_i id vst q h1 h2;have e1:=(hA.a _ _ h1).1;split at h
  ·rename_i st' c m ho;have e2:=(hA.h _ _ _ ho).1;have e3:=(hA.h _ _ _ ho).2;split at h
   ·rename_i l rd cJ;replace h:=AG h;obtain⟨q1,h⟩:=h;replace h:=AG h;obtain⟨q2,h⟩:=h;replace h:=AG h;obtain⟨q3,h⟩:=h;replace h:=AG h;obtain⟨q4,h⟩:=h;obtain rfl:=AL.1 q1;obtain rfl:=AL.1 q2;have q3:=AL.1 q3;have q4:0<st:=by simpa [Gt] using q4
    have h:Ac (memN id rd) none (ck (decide (List.length (m++l)*bytes<=140737488355328)) (K (.own id T.nx) id (.own c (m++l)) false (id :: rd)))=some r:=h
    have eY:memN id rd=false:=by
     cases hm:memN id rd
     ·rfl
     ·rw[hm]at h;cases h
    rw[eY]at h;have hk:=Dp (G:=none) h;have hb:(m++l).length*bytes<=140737488355328:=by simpa using hk.2 trivial
    obtain⟨ok,aB,bX⟩:=Nv hA h2 cJ st;have e1:ar x=match (U id vst).n with | 0=>.nils | n+1=>.vec id (U id vst).ep 0 (n+1):=e1
    rw[e3.1.1]at e1;have bJ:=hA.toAr.ep ho;cases m with
    |nil =>
     have e1:ar x=.nils:=e1;have e2:hh id=.gone (U id vst).ep:=e2;cases l with
     |nil =>
      have aD:(An.append id st bytes x y).req ar hh=⟨ok/\c.n=st,rd,.nils,none⟩:=(by simp only[An.req,Fp,e1,bX];rfl);refine⟨_,_,_,_,_,(U id vst).ep,⟨0,0,fun _=>[]⟩,hk.1,⟨CU _,by rw[aD];exact⟨aB,q3⟩,?_,trivial,by rw[aD];exact fun j hj=>AQ _ hj,?_,AP ..,hA.ro _ _ ho,(fun e=>by cases e),trivial⟩⟩
      ·rw[aD];show VEq _ (match (upd U id T.nx _ id T.nx).n with | 0=>.nils | n+1=>.vec id (upd U id T.nx _ id T.nx).ep 0 (n+1));rw[yzj];exact .refl _
      ·rw[aD];show OEq (hh id) (.gone (U id vst).ep);rw[e2];exact .refl _
     |cons a l =>
      have aD:(An.append id st bytes x y).req ar hh=⟨(hh id).plain/\ok/\c.n=st/\0<st/\0<(a :: l).length/\(a :: l).length*bytes<=140737488355328,id :: rd,.vec id ((hh id).ep+1) 0 (a :: l).length,some (id,.vec ((hh id).ep+1) st (a :: l).length (Ai c.cA (a :: l)))⟩:=(by simp only[An.req,Fp,e1,bX];rw[Ag (by simp)]);refine⟨_,_,_,_,_,(hh id).ep+1,⟨0,0,fun _=>[]⟩,hk.1,⟨CU _,by rw[aD];exact⟨hA.pl id (hA.ro _ _ ho),aB,q3,q4,by simp,hb⟩,?_,trivial,by rw[aD];exact fun j hj=>hj,?_,AP ..,hA.ro _ _ ho,(fun e=>by cases e),trivial⟩⟩
      ·rw[aD];show VEq _ (match (upd U id T.nx _ id T.nx).n with | 0=>.nils | n+1=>.vec id (upd U id T.nx _ id T.nx).ep 0 (n+1));rw[yzj];exact .refl _
      ·rw[aD];refine⟨rfl,?_⟩;show OEq _ (.vec ((hh id).ep+1) c.n (l.length+1) (Ai c.cA (a :: l)));rw[q3];exact .refl _
    |cons z m =>
     have e1:ar x=.vec id (U id vst).ep 0 (m.length+1):=e1;have e2:hh id=.vec (U id vst).ep c.n (m.length+1) (Ai c.cA (z :: m)):=e2;have aD:(An.append id st bytes x y).req ar hh=⟨ok/\c.n=st/\(U id vst).ep=(U id vst).ep/\c.n=st/\0+(m.length+1)<=m.length+1/\((m.length+1)+l.length)*bytes<=140737488355328,id :: rd,.vec id ((U id vst).ep+1) 0 ((m.length+1)+l.length),some (id,.vec ((U id vst).ep+1) st ((m.length+1)+l.length) (fun k=>if k<m.length+1 then Ai c.cA (z :: m) (0+k) else Ai c.cA l (k-(m.length+1))))⟩:=(by simp only[An.req,Fp,e1,bX,e2]);have aE:(m.length+1)+l.length=(m++l).length+1:=(by simp only[Dv];omega);refine⟨_,_,_,_,_,(U id vst).ep+1,⟨0,0,fun _=>[]⟩,hk.1,⟨CU _,by rw[aD];exact⟨aB,q3,rfl,q3,by omega,by rw[aE];simpa using hb⟩,?_,trivial,by rw[aD];exact fun j hj=>hj,?_,AP ..,hA.ro _ _ ho,(fun e=>by cases e),trivial⟩⟩
     ·rw[aD];show VEq _ (match (upd U id T.nx _ id T.nx).n with | 0=>.nils | n+1=>.vec id (upd U id T.nx _ id T.nx).ep 0 (n+1));rw[yzj];show VEq (.vec id ((U id vst).ep+1) 0 ((m.length+1)+l.length)) (.vec id ((U id vst).ep+1) 0 ((m++l).length+1));rw[aE];exact .refl _
     ·rw[aD];refine⟨rfl,?_⟩;show OEq _ (.vec ((U id vst).ep+1) c.n ((m++l).length+1) (Ai c.cA (z :: m++l)));rw[q3];exact .vec aE fun k _=>qz0k (m:=z :: m) k
   ·cases h
  ·cases h
 ·rename_i id vst q h1 h2;have e1:ar x=.vec id (U id vst).ep 0 (U id vst).n:=(hA.a _ _ h1).1;split at h
  ·rename_i st' c m ho;split at h
   ·rename_i l rd cJ;replace h:=AG h;obtain⟨q1,h⟩:=h;replace h:=AG h;obtain⟨q3,h⟩:=h;replace h:=AG h;obtain⟨q4,h⟩:=h;obtain rfl:=AL.1 q1;have q3:=AL.1 q3;have q4:0<st:=by simpa [Gt] using q4
    have hk:=Dp (G:=none) h;have hb:(m++l).length*bytes<=140737488355328:=(by simpa using hk.2 trivial);obtain⟨ok,aB,bX⟩:=Nv hA h2 cJ st;obtain⟨e2,e3,e4⟩:=hA.toAr.vec ho;rw[e3]at e1;have aD:(An.append s st bytes x y).req ar hh=⟨ok/\c.n=st/\(U id vst).ep=(U id vst).ep/\c.n=st/\0+m.length<=m.length/\(m.length+l.length)*bytes<=140737488355328,id :: rd,.vec id ((U id vst).ep+1) 0 (m.length+l.length),some (id,.vec ((U id vst).ep+1) st (m.length+l.length) (fun k=>if k<m.length then Ai c.cA m (0+k) else Ai c.cA l (k-m.length)))⟩:=(by simp only[An.req,Fp,e1,bX,e2]);have aE:m.length+l.length=(m++l).length:=(by simp only[Dv]);refine⟨_,_,_,_,_,(U id vst).ep+1,⟨0,0,fun _=>[]⟩,hk.1,⟨CU _,by rw[aD];exact⟨aB,q3,rfl,q3,by omega,by rw[aE];exact hb⟩,?_,trivial,by rw[aD];exact fun j hj=>hj,?_,AP ..,hA.ro _ _ ho,(fun e=>by cases e),trivial⟩⟩
    ·rw[aD];show VEq _ (.vec id (upd U id T.nx _ id T.nx).ep 0 (upd U id T.nx _ id T.nx).n);rw[yzj];show VEq (.vec id ((U id vst).ep+1) 0 (m.length+l.length)) (.vec id ((U id vst).ep+1) 0 (m++l).length);rw[aE];exact .refl _
    ·rw[aD];refine⟨rfl,?_⟩;show OEq _ (.vec ((U id vst).ep+1) c.n (m++l).length (Ai c.cA (m++l)));rw[q3];exact .vec aE fun k _=>qz0k k
   ·cases h
  ·cases h
 ·cases h
theorem wzqs[TabOk](hA:Hp U T ar hh){st0:Nat}{x y:Ae}(h:R5 ty T st0 x y K=some r):VO U T ar hh (.copy st0 x y) K r:=by
 unfold R5 at h;split at h
 ·rename_i id vst lo hi q h1 h2;have e1:ar x=.vec id (U id vst).ep lo.toNat (hi-lo).toNat:=(hA.a _ _ h1).1;split at h
  ·rename_i st' c m ho;split at h
   ·rename_i l rd hs;replace h:=AG h;obtain⟨q1,h⟩:=h;replace h:=AG h;obtain⟨q2,h⟩:=h;obtain rfl:=AL.1 q1;have q2:=AL.1 q2;have h:Ac (memN id rd) none (ck (C3 m lo hi) (K (.s (.int .i64 (min (List.length l) (Int.toNat (hi-lo)):Int))) id (.vec c (Bx m (Int.toNat lo) (List.take (Int.toNat (hi-lo)) l))) true (id :: rd)))=some r:=h
    have eY:memN id rd=false:=by
     cases hm:memN id rd
     ·rfl
     ·rw[hm]at h;cases h
    rw[eY]at h;have hk:=Dp (G:=none) h;obtain⟨k1,k2,k3⟩:=FS (hk.2 trivial);obtain⟨ok,aB,bX⟩:=Nv hA h2 hs c.n;obtain⟨e2,e3,e4⟩:=hA.toAr.vec ho;have aD:(An.copy st0 x y).req ar hh=⟨ok/\c.n=c.n/\(U id vst).ep=(U id vst).ep/\lo.toNat+(hi-lo).toNat<=m.length/\st0=c.n,id :: rd,.int .i64 (min l.length (hi-lo).toNat:Nat),some (id,.vec (U id vst).ep c.n m.length (fun k=>if lo.toNat<=k/\k<lo.toNat+min l.length (hi-lo).toNat then Ai c.cA l (k-lo.toNat) else Ai c.cA m k))⟩:=by simp only[An.req,J2,e1,e2,bX]
    have hl:(List.take (hi-lo).toNat l).length=min l.length (hi-lo).toNat:=(by rw[Gs,Nat.min_comm]);have hp:(Bx m lo.toNat (List.take (hi-lo).toNat l)).length=m.length:=Kx (by rw[hl];omega);refine⟨_,_,_,_,_,(U id vst).ep,U id vst,hk.1,⟨trivial,by rw[aD];exact⟨aB,rfl,rfl,by omega,q2.symm⟩,?_,trivial,by rw[aD];exact fun j hj=>hj,?_,AP ..,hA.ro _ _ ho,(fun _=>⟨vst,_,ho,rfl,?_⟩),trivial⟩⟩
    ·rw[aD];show VEq (.int .i64 ((min l.length (hi-lo).toNat:Nat):Int)) (.int .i64 (min (l.length:Int) ((hi-lo).toNat:Int)));rw[show((min l.length (hi-lo).toNat:Nat):Int)=min (l.length:Int) ((hi-lo).toNat:Int) by omega];exact .refl _
    ·rw[aD];refine⟨rfl,?_⟩;show OEq _ (.vec (U id vst).ep c.n (Bx m lo.toNat (List.take (hi-lo).toNat l)).length (Ai c.cA (Bx m lo.toNat (List.take (hi-lo).toNat l))));refine .vec hp.symm fun k _=>wzh4 (n:=min l.length (hi-lo).toNat) (by omega) hl (fun k hk=>?_) k;rw[qz6f (by omega)];exact .refl _
    ·show(U id vst).n=(Bx m lo.toNat (List.take (hi-lo).toNat l)).length;rw[hp,e3]
   ·cases h
  ·cases h
 ·cases h
theorem wzj8[TabOk](hA:Hp U T ar hh){zero:List Aa}{x:Ae}(h:R6 ty T zero x K=some r):VO U T ar hh (.clear zero x) K r:=by
 unfold R6 at h;split at h
 ·rename_i z id vst lo hi hz h1;have e1:ar x=.vec id (U id vst).ep lo.toNat (hi-lo).toNat:=(hA.a _ _ h1).1;split at h
  ·rename_i st' c m ho;split at h
   ·rename_i e he;obtain⟨p1,p2⟩:=IR he;rw[Hn hz]at p1 p2;replace h:=AG h;obtain⟨q1,h⟩:=h;obtain rfl:=AL.1 q1;have hk:=Dp (G:=none) h;obtain⟨k1,k2,k3⟩:=FS (hk.2 trivial);obtain⟨e2,e3,e4⟩:=hA.toAr.vec ho;have aD:(An.clear zero x).req ar hh=⟨(U id vst).ep=(U id vst).ep/\lo.toNat+(hi-lo).toNat<=m.length/\zero.length=c.n/\BD zero=true,[id],.tup [],some (id,.vec (U id vst).ep c.n m.length (fun k=>if lo.toNat<=k/\k<lo.toNat+(hi-lo).toNat then zero else Ai c.cA m k))⟩:=by simp only[An.req,HF,e1,e2]
    have hl:(List.replicate (hi-lo).toNat e).length=(hi-lo).toNat:=Ob;have hp:(Bx m lo.toNat (List.replicate (hi-lo).toNat e)).length=m.length:=Kx (by rw[hl];omega);refine⟨_,_,_,_,_,(U id vst).ep,U id vst,hk.1,⟨trivial,by rw[aD];exact⟨rfl,by omega,by rw[p1.at.1,KB],p2⟩,by rw[aD];exact .refl _,trivial,by rw[aD];exact fun j hj=>hj,?_,BX.2 rfl,hA.ro _ _ ho,(fun _=>⟨vst,_,ho,rfl,?_⟩),trivial⟩⟩
    ·rw[aD];refine⟨rfl,?_⟩;show OEq _ (.vec (U id vst).ep c.n (Bx m lo.toNat (List.replicate (hi-lo).toNat e)).length (Ai c.cA (Bx m lo.toNat (List.replicate (hi-lo).toNat e))));refine .vec hp.symm fun k _=>wzh4 (n:=(hi-lo).toNat) (src:=fun _=>zero) (by omega) hl (fun k hk=>?_) k;rw[qzul hk];exact p1
    ·show(U id vst).n=(Bx m lo.toNat (List.replicate (hi-lo).toNat e)).length;rw[hp,e3]
   ·cases h
  ·cases h
 ·cases h
theorem wzk0[TabOk](hA:Hp U T ar hh){s:Nat}(hs:inR T.b s=true)(h:ZS ty T s K=some r):VO U T ar hh (.mkmap s) K r:=by refine⟨_,_,_,_,_,(hh s).ep+1,⟨0,0,fun _=>[]⟩,h,⟨CU _,hA.pl s hs,?_,trivial,fun j hj=>hj,⟨rfl,.refl _⟩,BX.2 rfl,hs,(fun e=>by cases e),trivial⟩⟩;show VEq (.mp s ((hh s).ep+1)) (.mp s (upd U s T.nx _ s T.nx).ep);rw[yzj];exact .refl _
theorem wzoq[TabOk](hA:Hp U T ar hh){kd:Nat}{x k v:Ae}(h:R7 ty T kd x k v K=some r):VO U T ar hh (.mupd kd x k v) K r:=by
 unfold R7 at h;split at h
 ·rename_i id mst key val h1 h2 h3;have e1:ar x=.mp id (U id mst).ep:=(hA.a _ _ h1).1;have e2:ar k=A0 key:=(hA.a _ _ h2).1;have e3:ar v=A0 val:=(hA.a _ _ h3).1;split at h
  ·rename_i st' ck cv l ho;split at h
   ·rename_i a b ha hb;replace h:=AG h;obtain⟨q1,h⟩:=h;replace h:=AG h;obtain⟨q2,h⟩:=h;replace h:=AG h;obtain⟨q3,h⟩:=h;obtain rfl:=AL.1 q1;have e4:hh id=.amap (U id mst).ep (mEs ck cv l):=(hA.h _ _ _ ho).1;have e6:ar k=A0 (wT ck a):=e2.trans (ZY q2 ha);have hv:ar v=A0 (wT cv b):=e3.trans (qz6w hb q3);have b7:=(RC q2 a a).2;obtain⟨rr,f1,f2⟩:=RD (v:=cv) q2 a l 0
    have g1:(An.mupd kd x k v).req ar hh=⟨(U id mst).ep=(U id mst).ep/\(ar k).kkind=kd,[id],.top,some (id,.amap (U id mst).ep (mEs ck cv (mput (keq ck) l a b)))⟩:=by
     show Ct kd (ar x) (ar k) (ar v) hh=_;unfold Ct;rcases f2 with ⟨rfl,_,g⟩|⟨j,y,rfl,_,g⟩
     ·simp only[e1,e4,e6,f1,hv,g]
     ·simp only[e1,e4,e6,f1,hv,g,Bq]
    refine⟨.s .top,id,.map ck cv (mput (keq ck) l a b),true,[id],(U id mst).ep,U id mst,h,⟨trivial,by rw[g1];exact⟨rfl,by rw[e6];exact b7⟩,by rw[g1];exact .refl .top,trivial,by rw[g1];exact fun j hj=>hj,by rw[g1];exact⟨rfl,.refl _⟩,BX.2 rfl,hA.ro id (mst,.map ck cv l) ho,(fun _=>⟨mst,.map ck cv l,ho,rfl,rfl⟩),trivial⟩⟩
   ·cases h
  ·cases h
 ·cases h
theorem wzdr[TabOk](hA:Hp U T ar hh){o:An}(hs:QZ T.b o=true)(h:opO ty T o K=some r):VO U T ar hh o K r:=by
 cases o<;>simp only[opO]at h<;>first
  |(cases h;done)
  |exact wzj3 hA hs h | exact wzso hA hs h | exact wzfd hA hs h | exact wztz hA hs h | exact wzth hA hs h | exact wzkm hA h | exact wzik hA hs h | exact wzqs hA h | exact wzj8 hA h | exact wzk0 hA hs h | exact wzoq hA h
end
end
end Go.Am

