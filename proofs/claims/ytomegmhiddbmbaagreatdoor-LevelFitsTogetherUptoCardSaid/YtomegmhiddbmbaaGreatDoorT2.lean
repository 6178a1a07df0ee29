/- Part T2: a typed interpreter of abstract code, proved sound over the machine. No condition. -/
import Derived.Test.YtomegmhiddbmbaaGreatDoorT1
set_option linter.unusedSimpArgs false
set_option linter.unusedVariables false
namespace Go.Am
theorem Fi{i j:Nat}{s:SH}{sl:List (Nat×SH)}(h:j≠i):hasW i ((j,s) :: sl)=hasW i sl:=by
 have e:Nat.beq j i=false:=by
  cases h':Nat.beq j i
  ·rfl
  ·exact absurd (Nat.eq_of_beq_eq_true h') h
 cases s<;>(show Ab (Nat.beq j i) _ (hasW i sl)=hasW i sl;rw[e];rfl)
theorem ZW{l:List Aa}{k:Nat}{v:Aa}(h:k<l.length):(l.set k v).getD k .top=v:=by simp[List.getD,h]
theorem ZX{l:List Aa}{k j:Nat}{v:Aa}(h:j≠k):(l.set k v).getD j .top=l.getD j .top:=by simp[List.getD,JW,Ne.symm h]
theorem jz4s{l:List Aa}{k:Nat}{v:Aa}(h:k+1<=l.length):lay l k [v]=l.set k v:=by unfold lay;rw[List.set_eq_take_append_cons_drop,Aq (by omega)];simp
theorem jz4w{U:Type}{c:Bool}{X:Option U}{r:U}(h:Ab c none X=some r):c=false/\X=some r:=by cases c<;>first|exact⟨rfl,h⟩|cases h
theorem TX{id:Nat}{o:Ai}{x y:Aa}(h:FV id o x y):∀{l:List Aa} {k:Nat},FVl id o (l.set k x) (l.set k y)
 |[],_=>trivial
 |z :: l,0=>⟨h,.refl l⟩
 |z :: l,k+1=>⟨.refl z,TX h⟩
theorem ZY{x y:Aa}(h:W x y):∀{l m:List Aa} {k:Nat},Ws l m->Ws (l.set k x) (m.set k y)
 |[],[],_,_=>trivial
 |_ :: _,[],_,q=>q.elim
 |[],_ :: _,_,q=>q.elim
 |_ :: _,_ :: _,0,q=>⟨h,q.2⟩
 |_ :: _,_ :: _,_+1,q=>⟨q.1,ZY h q.2⟩
structure HS where
 ep:Nat
 n:Nat
 f:Nat->List Aa
structure Con[TabT] where
 L:Nat
 e:Nat
 st:(i:Nat)->List (TabT.FA i)->Option Bool
 HC:(i:Nat)->List (TabT.FA i)->Ax->Prop
 HX:(i:Nat)->List (TabT.FA i)->Ax->Prop
def CsOk[TabT](c:Con):Prop:=∀i,Csm TabT.E TabT.P (TabT.aA i) (c.st i) c.L c.e (c.HC i) (c.HX i)
section
variable [TabT]
structure Phi where
 o:Nat->Nat->HS
 X:Ax
 ds:List (Nat×Nat)
 c:Con
instance:CoeFun Phi fun _=>Nat->Nat->HS:=⟨Phi.o⟩
structure Ext(nx:Nat)(B B':Phi):Prop where
 s:∀id st,st<nx->B' id st=B id st
 c:B'.c=B.c
theorem Ext.refl(nx:Nat)(B:Phi):Ext nx B B:=⟨fun _ _ _=>rfl,rfl⟩
theorem Ext.trans{nx nx':Nat}{B B' B'':Phi}(h:Ext nx B B')(k:Ext nx' B' B'')(hn:nx<=nx'):Ext nx B B'':=⟨fun id st hs=>(k.s id st (by omega)).trans (h.s id st hs),k.c.trans h.c⟩
def upd(B:Phi)(id nx:Nat)(G:HS):Phi:=⟨fun i s=>if i=id/\s=nx then G else B i s,B.X,B.ds,B.c⟩
theorem GG{B:Phi}{id nx:Nat}{G:HS}:Ext nx B (upd B id nx G):=⟨fun i s h=>by show(if i=id/\s=nx then G else B i s)=B i s;rw[Ak (by omega)],rfl⟩
theorem B8{B:Phi}{id nx:Nat}{G:HS}:upd B id nx G id nx=G:=by simp[upd]
end
theorem Fj{i:Nat}:∀{l:List Nat},memN i l=true↔i∈l
 |[]=>by simp[memN]
 |j :: l=>by
  show Ab (Nat.beq j i) true (memN i l)=true↔_;cases h:Nat.beq j i
  ·have:=BS.1 h;rw[SW,Fj,AM];exact⟨.inr,fun h=>h.resolve_left fun e=>this e.symm⟩
  ·have:=Ao.1 h;subst this;rw[GC];simp
theorem Bm{b i:Nat}(h:inR b i=true):b<=i/\i<b+900:=by
 unfold inR at h;cases h1:Nat.ble b i<;>rw[h1]at h
 ·cases h
 ·exact⟨FY h1,by simpa [Hb] using(show Nat.blt i (b+900)=true from h)⟩
section
variable [Tab]
def eP(B:Phi):PV->Aa
 |.s v=>A7 v
 |.ptr id st off=>.ptr id (B id st).ep off
 |.eptr id st j off _ _=>.eptr id (B id st).ep j.toNat off
 |.vec id st=>.vec id (B id st).ep 0 (B id st).n
 |.vs id st lo hi=>.vec id (B id st).ep lo.toNat (hi-lo).toNat
 |.mp id st=>.mp id (B id st).ep
 |.yl _ _=>.yld B.c.L B.c.e
 |.kys id st g=>.fn g 0 [keyC id (B id st).ep]
 |.own id st=>match (B id st).n with
  |0=>.nils
  |n+1=>.vec id (B id st).ep 0 (n+1)
 |.ag cs k id st=>.agg ((At cs).set k (.vec id (B id st).ep 0 (B id st).n))
def eT(B:Phi):TV->Aa
 |.v x=>eP B x
 |.cnd _ _ g x=>.cnd g (eP B x)
def eO(B:Phi)(ep:Nat):TO->Ai
 |.ref p=>.box ep [eP B p]
 |.rag cs k id st=>.box ep ((At cs).set k (eP B (.vec id st)))
 |.map k v l=>.amap ep (l.map fun p=>(A7 (wT k p.1),A7 (wT v p.2)))
 |.gone=>.gone ep
 |.out _ _ _=>.gone ep
 |.box cs=>.box ep (At cs)
 |.vec c l=>.vec ep c.n l.length (Az c.cA l)
 |.own c l=>ownO ep c.n c.cA l
def eTm(B:Phi)(t:List (Nat×TV)):List (Nat×Aa):=t.map fun p=>(p.1,eT B p.2)
def hO(B:Phi)(id:Nat):Option (Nat×TO)->Ai
 |some (st,o)=>eO B (B id st).ep o
 |none=>B.X id
def em(B:Phi)(T:Ap):Ay:=⟨tl (eTm B T.t) T.n,fun i=>hO B i (Ad T.h i),B.ds⟩
def OkO(G:HS):TO->Prop
 |.vec c l=>G.n=l.length/\G.f=Az c.cA l
 |.own c l=>G.n=l.length/\G.f=Az c.cA l
 |_=>True
def OkP(B:Phi):PV->Prop
 |.eptr id st j off c x=>0<=j/\j.toNat<(B id st).n/\(B id st).f j.toNat=c.cA x
 |.yl i st=>B.c.st i=st
 |.vs id st lo hi=>0<=lo/\lo<=hi/\hi<=(B id st).n
 |_=>True
def StP(nx:Nat):PV->Prop
 |.s _ | .yl _ _=>True
 |.kys _ st _ | .ptr _ st _ | .eptr _ st _ _ _ _ | .vec _ st | .vs _ st _ _ | .own _ st | .mp _ st | .ag _ _ _ st=>st<nx
def RfO(B:Phi)(nx:Nat):TO->Prop
 |.ref p=>StP nx p/\OkP B p/\Fd p=true
 |.rag _ _ _ st=>st<nx
 |_=>True
def TOk(B:Phi)(T:Ap):TV->Prop
 |.v x=>StP T.nx x/\OkP B x
 |.cnd tg want g x=>StP T.nx x/\(g=true->OkP B x)/\memN tg T.gs=true/\gdT want (Ah T.t tg)=some g
structure Fr(B:Phi)(T:Ap):Prop where
 ro:∀id p,Ad T.h id=some p->inR T.b id=true
 rx:∀i,inR T.b i=true->∃e,B.X i=.gone e
 rz:∀i,T.b+900+2*T.rf<=i->i<T.b+1000->∃e,B.X i=.gone e
 dd:∀D∈B.ds,B.X D.1=.dfr D.2/\T.b+900<=D.1/\D.1<T.b+900+2*T.rf
 ry:T.b=0->T.rf<50->∀i,1000<=i->i<2000->∃e,B.X i=.gone e
 cs:CsOk B.c
 yo:∀st i l b,Ad T.h 1899=some (st,.out i l b)->T.b=1000/\T.rf=0/\(b=false->B.c.HC i l B.X)/\(b=true->B.c.HC i l B.X\/B.c.HX i l B.X)
structure InvT(B:Phi)(T:Ap):Prop where
 sl:∀i,TOk B T (Ah T.t i)
 hi:∀i,T.n<=i->Ah T.t i=.v (.s .top)
 ob:∀id st o,Ad T.h id=some (st,o)->st<T.nx/\OkO (B id st) o/\RfO B T.nx o
 fr:Fr B T
theorem AB{p:Nat×TV}{l:List (Nat×TV)}{i:Nat}:Ah (p :: l) i=if p.1=i then p.2 else Ah l i:=by
 show Ab (Nat.beq p.1 i) _ _=_;cases h:Nat.beq p.1 i
 ·rw[Ak (BS.1 h)];rfl
 ·rw[Aq (Ao.1 h)];rfl
theorem AJ{p:Nat×Nat×TO}{l:List (Nat×Nat×TO)}{i:Nat}:Ad (p :: l) i=if p.1=i then some p.2 else Ad l i:=by
 show Ab (Nat.beq p.1 i) _ _=_;cases h:Nat.beq p.1 i
 ·rw[Ak (BS.1 h)];rfl
 ·rw[Aq (Ao.1 h)];rfl
theorem BT{B:Phi}:∀(t:List (Nat×TV)) (i:Nat),look (eTm B t) i=eT B (Ah t i)
 |[],i=>rfl
 |p :: l,i=>by
  rw[AB];show(if p.1=i then eT B p.2 else look (eTm B l) i)=_;split
  ·rfl
  ·exact BT l i
theorem em_t{B:Phi}{T:Ap}(hI:InvT B T)(i:Nat):(em B T).t.getD i .top=eT B (Ah T.t i):=by
 show(tl (eTm B T.t) T.n).getD i .top=_;rw[IN];split
 ·exact BT _ _
 ·rename_i h;rw[hI.hi i (by omega)];rfl
theorem em_h{B:Phi}{T:Ap}(id:Nat):(em B T).h id=hO B id (Ad T.h id):=rfl
theorem FO{B:Phi}{T:Ap}{id st:Nat}{o:TO}(h:Ad T.h id=some (st,o)):(em B T).h id=eO B (B id st).ep o:=by rw[em_h,h];rfl
theorem MY{B:Phi}{e:Nat}{o:TO}:(eO B e o).ep=e:=by
 cases o with
 |own c l=>cases l<;>rfl
 |_=>rfl
theorem P2{B:Phi}{e:Nat}{o:TO}:(eO B e o).plain:=by
 cases o with
 |own c l=>cases l<;>exact trivial
 |_=>exact trivial
theorem wzte{B:Phi}{T:Ap}(hI:InvT B T){id:Nat}(h:inR T.b id=true):(hO B id (Ad T.h id)).plain:=by
 cases hx:Ad T.h id with
 |none=>obtain⟨e,he⟩:=hI.fr.rx id h;show(B.X id).plain;rw[he];trivial
 |some p=>exact P2
theorem JG{B:Phi}{T:Ap}(hI:InvT B T)(id:Nat)(h:inR T.b id=true):((em B T).h id).plain:=wzte hI h
theorem HU{B:Phi}{T:Ap}(hI:InvT B T):∀D∈(em B T).ds,(em B T).h D.1=.dfr D.2:=by
 intro D hD;obtain⟨h1,h2,h3⟩:=hI.fr.dd D hD;rw[em_h];cases hx:Ad T.h D.1 with
 |none=>exact h1
 |some p =>have:=Bm (hI.fr.ro _ _ hx);omega
theorem MZ(l:List SV)(off:Nat)(p:List SV):At (layS l off p)=lay (At l) off (At p):=by unfold layS lay;simp only[Pi,Pj,Pl,AT]
theorem GH{agg:Bool}{sz:Nat}{l:List SV}{off:Nat}:A7 (ldS agg sz l off)=ldv agg sz (At l) off:=by
 cases agg
 ·exact SX l off
 ·show Aa.agg (At _)=_;rw[Pj,Pl];rfl
theorem P3{a:Aa}{v:SV}(h:ofA1 a=some v):A7 v=a:=by cases a<;>simp only[ofA1]at h<;>cases h<;>rfl
theorem GI:∀{l:List Aa} {m:List SV},ofAL l=some m->At m=l
 |[],m,h=>by cases h;rfl
 |a :: l,m,h=>by
  simp only[ofAL]at h;cases h1:ofA1 a with
  |none=>rw[h1]at h;cases h
  |some x =>
   cases h2:ofAL l with
   |none=>rw[h1,h2]at h;cases h
   |some y =>rw[h1,h2]at h;cases h;show A7 x :: At y=_;rw[P3 h1,GI h2]
theorem HW{a:Aa}{v:SV}(h:ofA a=some v):A7 v=a:=by
 unfold ofA at h;split at h
 ·rename_i l;cases hl:ofAL l with
  |none=>rw[hl]at h;cases h
  |some m=>rw[hl]at h;cases h;show Aa.agg (At m)=_;rw[GI hl]
 ·cases h;rfl
 ·cases h;rfl
 ·exact P3 h
theorem GJ{B:Phi}(x:PV):unv (eP B x)=eP B x:=by
 cases x with
 |s v=>exact SY v
 |own id st=>show unv (match (B id st).n with | 0=>.nils | n+1=>.vec id (B id st).ep 0 (n+1))=match (B id st).n with | 0=>.nils | n+1=>.vec id (B id st).ep 0 (n+1);cases (B id st).n<;>rfl
 |_=>rfl
theorem GL{B:Phi}(x:PV)(c:Bool):unc c (eP B x):=by
 cases x with
 |s v=>exact SZ v c
 |own id st=>show unc c (match (B id st).n with | 0=>.nils | n+1=>.vec id (B id st).ep 0 (n+1));cases (B id st).n<;>exact trivial
 |_=>exact trivial
theorem Na:∀{l:List SV},oneS l=true->Bl (At l)=true
 |[],_=>rfl
 |x :: l,h=>by
  show((A7 x).one&&Bl (At l))=true;cases x with
  |optr c y=>simp only[oneS]at h;rw[Na h];cases y<;>rfl
  |_=>simp only[oneS]at h<;>first|(cases h;done)|(rw[Na h];rfl)
theorem Ez{B B':Phi}{nx:Nat}(h:Ext nx B B'){x:PV}(hx:StP nx x):eP B' x=eP B x:=by cases x<;>simp only[StP]at hx<;>simp only[eP]<;>first|rw[h.s _ _ hx]|rw[h.c]|rfl
theorem E0{B B':Phi}{nx:Nat}(h:Ext nx B B'){x:PV}(hx:StP nx x)(k:OkP B x):OkP B' x:=by
 cases x<;>simp only[StP]at hx<;>simp only[OkP]at k ⊢
 ·rw[h.s _ _ hx];exact k
 ·rw[h.s _ _ hx];exact k
 ·rw[h.c];exact k
theorem E1{n m:Nat}(h:n<=m){x:PV}(hx:StP n x):StP m x:=by cases x<;>simp only[StP]at hx ⊢<;>omega
end
def act:Gd->Prop
 |none=>True
 |some (_,_,g)=>g=true
theorem Ea{U:Type}{G:Gd}{c:Bool}{X:Option U}{r:U}(h:ckg G c X=some r):X=some r/\(act G->c=true):=by
 cases G with
 |none=>cases c<;>first|(cases h;done)|exact⟨h,fun _=>rfl⟩
 |some q =>
  obtain⟨a,b,g⟩:=q;cases g
  ·cases c<;>exact⟨h,fun e=>by cases e⟩
  ·cases c;·cases h
   ·exact⟨h,fun _=>rfl⟩
theorem Fl{U β:Type}[Inhabited β]{G:Gd}{x:Option β}{K:β->Option U}{r:U}(h:bdg G x K=some r):∃v,K v=some r/\(act G->x=some v):=by
 cases G with
 |none=>cases x with
  |none=>cases h
  |some v=>exact⟨v,h,fun _=>rfl⟩
 |some q =>
  obtain⟨a,b,g⟩:=q;cases g
  ·exact⟨default,h,fun e=>by cases e⟩
  ·cases x with
   |none=>cases h
   |some v=>exact⟨v,h,fun _=>rfl⟩
theorem An{U:Type}{c:Bool}{X:Option U}{r:U}(h:Ab c X none=some r):c=true/\X=some r:=by
 cases c
 ·cases h
 ·exact⟨rfl,h⟩
theorem P4{U:Type}{G:Gd}{l c:Bool}{X:Option U}{r:U}(h:ckl G l c X=some r):X=some r/\(act G->c=true):=by
 cases l
 ·exact Ea h
 ·have:=An h;exact⟨this.2,fun _=>this.1⟩
theorem JH{agg:Bool}{sz:Nat}(h:(Ab agg true (Nat.beq sz 1))=true):agg=false->sz=1:=by intro e;subst e;exact Ao.1 h
theorem wztm{ar:Ac->Aa}{hh:Ax}{x:Ac}{l:List Int}(e1:ar x=.slc 1 l.length (Az (cI .u8) l)):(Al.b2s x).req ar hh=⟨True/\1=1,[],.str (CF l),none⟩:=by show Dl (ar x) hh=_;rw[e1];unfold Dl;simp only[Bq,Gv]
theorem wztw{ar:Ac->Aa}{hh:Ax}{x:Ac}{id e:Nat}{l:List Int}(e1:ar x=.vec id e 0 l.length)(e2:hh id=.vec e 1 l.length (Az (cI .u8) l)):(Al.b2s x).req ar hh=⟨(e=e/\0+l.length<=l.length)/\1=1,[id],.str (CF l),none⟩:=by show Dl (ar x) hh=_;rw[e1];unfold Dl;simp only[Bq,e2,Dj];rw[show(fun k=>Az (cI .u8) l k)=Az (cI .u8) l from rfl,Gv]
theorem P5:∀{l m:List Aa},Bl (l++m)=(Bl l&&Bl m)
 |[],m=>rfl
 |x :: l,m=>by show(x.one&&Bl (l++m))=((x.one&&Bl l)&&Bl m);rw[P5,Bool.and_assoc]
theorem VEq.of_w{x y:Aa}(h:W x y):VEq x y:=fun _ _ _ hr=>hr.w h
theorem wztd{l:List Aa}{off sz:Nat}(h:off+sz<=l.length):(List.range sz).map (fun j=>l.getD (off+j) .top)=(l.drop off).take sz:=by
 apply Qo;intro i;by_cases hi:i<sz
 ·have:off+i<l.length:=by omega
  simp[hi,this]
 ·simp[hi];omega
theorem ZZ{j:Int}{n:Nat}(h:litN j=some n):j=n:=by
 unfold litN at h;split at h
 ·cases h;rfl
 ·cases h
section
variable [Tab]
structure Ar(B:Phi)(T:Ap)(G:Gd)(ar:Ac->Aa)(hh:Ax):Prop where
 a:∀a x,argP T G a=some x->ar a=eP B x/\StP T.nx x/\(act G->OkP B x)
 h:∀id st o,Ad T.h id=some (st,o)->hh id=eO B (B id st).ep o/\OkO (B id st) o/\RfO B T.nx o
def VR{U:Type}(B:Phi)(T:Ap)(G:Gd)(ar:Ac->Aa)(hh:Ax)(o:Al)(K:PV->List Nat->Option U)(r:U):Prop := ∃p rd,K p rd=some r/\StP T.nx p/\o.quiet=true/\(act G->OkP B p/\(o.req ar hh).ok/\VEq (o.req ar hh).v (eP B p)/\(∀j∈(o.req ar hh).rd,j∈rd)/\OutW hh (o.req ar hh).out none)
section
variable {U:Type}{B:Phi}{H:List Fe}{T:Ap}{G:Gd}{ar:Ac->Aa}{hh:Ax}{K:PV->List Nat->Option U}{r:U}
theorem VR.mk{o:Al}{p:PV}{rd:List Nat}(hq:o.quiet=true)(hs:StP T.nx p)(h:K p rd=some r)(k:act G->OkP B p/\∃q x l,o.req ar hh=⟨q,l,x,none⟩/\q/\VEq x (eP B p)/\∀j∈l,j∈rd):VR B T G ar hh o K r := ⟨p,rd,h,hs,hq,fun ha=>by obtain⟨h1,q,x,l,e,h2,h3,h4⟩:=k ha;rw[e];exact⟨h1,h2,h3,h4,trivial⟩⟩
theorem VR.val{o:Al}{v:SV}(hq:o.quiet=true)(h:K (.s v) []=some r)(k:act G->∃q x,o.req ar hh=⟨q,[],x,none⟩/\q/\VEq x (A7 v)):VR B T G ar hh o K r :=
 .mk (p:=.s v) (rd:=[]) hq trivial h fun ha=>by obtain⟨q,x,e,h1,h2⟩:=k ha;exact⟨trivial,q,x,[],e,h1,h2,fun j hj=>by cases hj⟩
theorem VR.valR{o:Al}{v:SV}{rd:List Nat}(hq:o.quiet=true)(h:K (.s v) rd=some r)(k:act G->∃q x,o.req ar hh=⟨q,rd,x,none⟩/\q/\VEq x (A7 v)):VR B T G ar hh o K r :=
 .mk (p:=.s v) (rd:=rd) hq trivial h fun ha=>by obtain⟨q,x,e,h1,h2⟩:=k ha;exact⟨trivial,q,x,rd,e,h1,h2,fun j hj=>hj⟩
theorem HY{k:IntKind}{n:Int}(h:ckS G k n K=some r):K (.s (.int k (cut k n))) []=some r/\(act G->inr k n):=by
 cases k<;>simp only[ckS]at h<;>first
  |(have:=Ea h;exact⟨this.1,fun ha=>qzr (this.2 ha)⟩)
  |exact⟨h,fun _=>trivial⟩
theorem wzwt(hA:Ar B T G ar hh){x:Ac}(h:v_mv H T G x K=some r):VR B T G ar hh (.mv x) K r:=by
 unfold v_mv at h;split at h
 ·rename_i p hp;obtain⟨h1,h2,h3⟩:=hA.a _ _ hp;exact .mk rfl h2 h fun ha=>⟨h3 ha,_,_,_,rfl,trivial,by rw[h1];exact .refl _,fun j hj=>by cases hj⟩
 ·exact .val rfl h fun _=>⟨_,_,rfl,trivial,.of_w (.top _)⟩
 ·cases h
theorem wzvv{op:BinOp}{k:IntKind}{a b:Int}{l bs:Bool}{x y:Ac}(hx:act G->ar x=.int k a)(hy:act G->ar y=.int k b)(hs:Gi op=false)(h:binI G op k a b l K=some r):VR B T G ar hh (.bin op bs x y) K r:=by
 have aC:act G->(Al.bin op bs x y).req ar hh=Cp op k a b:=fun ha=>by show CS op bs (ar x) (ar y)=_;rw[hx ha,hy ha];show(if Gi op=true then GY op k a b else if k=k then Cp op k a b else Req.fail)=_;rw[Ak (by rw[hs];exact Bool.false_ne_true),Aq rfl]
 cases op<;>simp only[binI]at h<;>(try (cases h;done))
 case add=>have:=HY h;exact .val rfl this.1 fun ha=>⟨_,_,aC ha,this.2 ha,.refl _⟩
 case sub=>have:=HY h;exact .val rfl this.1 fun ha=>⟨_,_,aC ha,this.2 ha,.refl _⟩
 case mul=>have:=HY h;exact .val rfl this.1 fun ha=>⟨_,_,aC ha,this.2 ha,.refl _⟩
 case quo =>have h0:=P4 h;have:=HY h0.1;exact .val rfl this.1 fun ha=>⟨_,_,aC ha,⟨by simpa using h0.2 ha,this.2 ha⟩,.refl _⟩
 case rem =>have h0:=P4 h;exact .val rfl h0.1 fun ha=>⟨_,_,aC ha,by simpa using h0.2 ha,.refl _⟩
 all_goals exact .val rfl h fun ha=>⟨_,_,aC ha,trivial,.refl _⟩
theorem wzt5{op:BinOp}{k k':IntKind}{a b:Int}{l bs:Bool}{x y:Ac}(hx:act G->ar x=.int k a)(hy:act G->ar y=.int k' b)(h:Tk G op k a b l K=some r):VR B T G ar hh (.bin op bs x y) K r:=by
 have aC:Gi op=true->act G->(Al.bin op bs x y).req ar hh=GY op k a b:=fun hs ha=>by show CS op bs (ar x) (ar y)=_;rw[hx ha,hy ha];show(if Gi op=true then GY op k a b else if k=k' then Cp op k a b else Req.fail)=_;rw[Aq hs]
 cases op<;>simp only[Tk]at h<;>(try (cases h;done))
 case shl =>have h0:=P4 h;have:=HY h0.1;exact .val rfl this.1 fun ha=>⟨_,_,aC rfl ha,⟨by simpa using h0.2 ha,this.2 ha⟩,.refl _⟩
 case shr =>have h0:=P4 h;exact .val rfl h0.1 fun ha=>⟨_,_,aC rfl ha,by simpa using h0.2 ha,.refl _⟩
theorem wzu4{op:BinOp}{a b:List UInt8}{bs:Bool}{x y:Ac}(hx:act G->ar x=.str a)(hy:act G->ar y=.str b)(h:binS G op a b K=some r):VR B T G ar hh (.bin op bs x y) K r:=by
 have aC:act G->(Al.bin op bs x y).req ar hh=F4 op a b:=fun ha=>by show CS op bs (ar x) (ar y)=_;rw[hx ha,hy ha];rfl
 cases op<;>simp only[binS]at h<;>(try (cases h;done))
 case add=>have:=Ea h;exact .val rfl this.1 fun ha=>⟨_,_,aC ha,by simpa using this.2 ha,.refl _⟩
 all_goals exact .val rfl h fun ha=>⟨_,_,aC ha,trivial,.refl _⟩
theorem wzwd(hA:Ar B T G ar hh){op:BinOp}{bs:Bool}{x y:Ac}(h:Tm H T G op bs x y K=some r):VR B T G ar hh (.bin op bs x y) K r:=by
 unfold Tm at h;split at h
 ·rename_i k a k' b h1 h2;have e1:=(hA.a _ _ h1).1;have e2:=(hA.a _ _ h2).1;cases hs:Gi op
  ·rw[hs]at h;replace h:=An h;rw[CO]at h;obtain⟨rfl,h⟩:=h;exact wzvv (fun _=>e1) (fun _=>e2) hs h
  ·rw[hs]at h;exact wzt5 (fun _=>e1) (fun _=>e2) h
 ·rename_i a b h1 h2;exact wzu4 (fun _=>(hA.a _ _ h1).1) (fun _=>(hA.a _ _ h2).1) h
 ·rename_i a b h1 h2;have e1:ar x=.bool a:=(hA.a _ _ h1).1;have e2:ar y=.bool b:=(hA.a _ _ h2).1;split at h
  ·exact .val rfl h fun _=>⟨True,.bool (a==b),by show CS .eql true (ar x) (ar y)=_;rw[e1,e2];rfl,trivial,.refl _⟩
  ·exact .val rfl h fun _=>⟨True,.bool (!(a==b)),by show CS .neq true (ar x) (ar y)=_;rw[e1,e2];rfl,trivial,.refl _⟩
  ·cases h
 ·cases h
theorem wzv9(hA:Ar B T G ar hh){x:Ac}(h:Tn H T G x K=some r):VR B T G ar hh (.not x) K r:=by
 unfold Tn at h;split at h
 ·rename_i b h1;have e1:ar x=.bool b:=(hA.a _ _ h1).1;exact .val rfl h fun _=>⟨True,.bool (!b),by simp only[Al.req,e1];rfl,trivial,.refl _⟩
 ·cases h
theorem wzwb(hA:Ar B T G ar hh){x:Ac}(h:Tp H T G x K=some r):VR B T G ar hh (.neg x) K r:=by
 unfold Tp at h;split at h
 ·rename_i k n h1;have e1:ar x=.int k n:=(hA.a _ _ h1).1;have:=HY h;exact .val rfl this.1 fun ha=>⟨inr k (0-n),.int k (cut k (0-n)),by simp only[Al.req,e1];rfl,by rw[Int.zero_sub];exact this.2 ha,by rw[Int.zero_sub];exact .refl _⟩
 ·cases h
theorem wzu5(hA:Ar B T G ar hh){k:IntKind}{x:Ac}(h:Ts H T G k x K=some r):VR B T G ar hh (.conv k x) K r:=by
 unfold Ts at h;split at h
 ·rename_i k' n h1;have e1:ar x=.int k' n:=(hA.a _ _ h1).1;have:=HY h;exact .val rfl this.1 fun ha=>⟨inr k n,.int k (cut k n),by simp only[Al.req,e1];rfl,this.2 ha,.refl _⟩
 ·cases h
theorem wzv4(hA:Ar B T G ar hh){x y:Ac}(h:TC H T G x y K=some r):VR B T G ar hh (.max x y) K r:=by
 unfold TC at h;split at h
 ·rename_i k a k' b h1 h2;have e1:ar x=.int k a:=(hA.a _ _ h1).1;have e2:ar y=.int k' b:=(hA.a _ _ h2).1;replace h:=An h;rw[CO]at h;obtain⟨rfl,h⟩:=h;exact .val rfl h fun _=>⟨True,.int k (Max.max a b),by simp[Al.req,e1,e2,Req.val],trivial,.refl _⟩
 ·cases h
theorem wzwn(hA:Ar B T G ar hh){x y:Ac}(h:TD H T G x y K=some r):VR B T G ar hh (.min x y) K r:=by
 unfold TD at h;split at h
 ·rename_i k a k' b h1 h2;have e1:ar x=.int k a:=(hA.a _ _ h1).1;have e2:ar y=.int k' b:=(hA.a _ _ h2).1;replace h:=An h;rw[CO]at h;obtain⟨rfl,h⟩:=h;exact .val rfl h fun _=>⟨True,.int k (Min.min a b),by simp[Al.req,e1,e2,Req.val],trivial,.refl _⟩
 ·cases h
theorem kzay(hA:Ar B T G ar hh){x y z:Ac}(h:TE H T G x y z K=some r):VR B T G ar hh (.min3 x y z) K r:=by
 unfold TE at h;split at h
 ·rename_i k a k' b k2 c h1 h2 h3;have e1:ar x=.int k a:=(hA.a _ _ h1).1;have e2:ar y=.int k' b:=(hA.a _ _ h2).1;have e3:ar z=.int k2 c:=(hA.a _ _ h3).1;replace h:=An h;rw[CO]at h;obtain⟨⟨rfl,rfl⟩,h⟩:=h;exact .val rfl h fun _=>⟨True,.int k (Min.min (Min.min a b) c),by simp[Al.req,e1,e2,e3,Req.val],trivial,.refl _⟩
 ·cases h
theorem Ar.own(hA:Ar B T G ar hh){id st:Nat}{c:CT}{l:List c.T}(h:Ad T.h id=some (st,.own c l)):hh id=ownO (B id st).ep c.n c.cA l/\(B id st).n=l.length/\(B id st).f=Az c.cA l:=⟨(hA.h _ _ _ h).1,(hA.h _ _ _ h).2.1.1,(hA.h _ _ _ h).2.1.2⟩
theorem Ar.ownv(hA:Ar B T G ar hh){id st:Nat}{c:CT}{l:List c.T}(h:Ad T.h id=some (st,.own c l))(hl:0<l.length):hh id=.vec (B id st).ep c.n l.length (Az c.cA l)/\eP B (.own id st)=.vec id (B id st).ep 0 l.length:=by
 obtain⟨h1,h2,_⟩:=hA.own h;cases l with
 |nil=>cases hl
 |cons y l =>refine⟨h1,?_⟩;show(match (B id st).n with | 0=>Aa.nils | n+1=>.vec id (B id st).ep 0 (n+1))=_;rw[h2];rfl
theorem Ar.own0(hA:Ar B T G ar hh){id st:Nat}{c:CT}(h:Ad T.h id=some (st,.own c [])):eP B (.own id st)=.nils:=by obtain⟨h1,h2,_⟩:=hA.own h;show(match (B id st).n with | 0=>Aa.nils | n+1=>.vec id (B id st).ep 0 (n+1))=_;rw[h2];rfl
theorem Ar.ep(hA:Ar B T G ar hh){id st:Nat}{o:TO}(h:Ad T.h id=some (st,o)):(hh id).ep=(B id st).ep:=by rw[(hA.h _ _ _ h).1,MY]
theorem wzv5(hA:Ar B T G ar hh){s:Bool}{x:Ac}(h:TA H T G s x K=some r):VR B T G ar hh (.len s x) K r:=by
 unfold TA at h;split at h
 ·rename_i c l h1;have e1:ar x=slcV c.n c.cA l:=(hA.a _ _ h1).1;exact .val rfl h fun _=>⟨True,.int .i64 l.length,by simp only[Al.req,e1,slcV];rfl,trivial,.refl _⟩
 ·rename_i h1;have e1:ar x=.nils:=(hA.a _ _ h1).1;exact .val rfl h fun _=>⟨True,.int .i64 0,by simp only[Al.req,e1];rfl,trivial,.refl _⟩
 ·rename_i id vst h1;have e1:=(hA.a _ _ h1).1;simp only[eP]at e1;split at h
  ·rename_i st' c l ho;replace h:=An h;obtain⟨hb,h⟩:=h;obtain rfl:=Ao.1 hb;obtain⟨nL,nM⟩:=hA.h _ _ _ ho;exact .valR rfl h fun _=>⟨_,_,by simp only[Al.req,e1];rfl,by rw[nL,MY],by rw[nM.1.1];exact .refl _⟩
  ·cases h
 ·rename_i id vst h1;have e1:=(hA.a _ _ h1).1;split at h
  ·rename_i st' c l ho;replace h:=An h;obtain⟨hb,h⟩:=h;obtain rfl:=Ao.1 hb;cases l with
   |nil =>rw[hA.own0 ho]at e1;exact .mk (p:=.s (.int .i64 0)) (rd:=[id]) rfl trivial h fun _=>⟨trivial,True,.int .i64 0,[],by simp only[Al.req,e1];rfl,trivial,.refl _,fun j hj=>by cases hj⟩
   |cons y l =>rw[(hA.ownv ho (Nat.succ_pos _)).2]at e1;exact .valR rfl h fun _=>⟨_,_,by simp only[Al.req,e1];rfl,by rw[hA.ep ho],.refl _⟩
  ·cases h
 ·rename_i s h1;have e1:ar x=.str s:=(hA.a _ _ h1).1;exact .val rfl h fun _=>⟨True,.int .i64 s.length,by simp only[Al.req,e1];rfl,trivial,.refl _⟩
 ·cases h
theorem wzu8(hA:Ar B T G ar hh){x i:Ac}(h:T5 H T G x i K=some r):VR B T G ar hh (.sidx x i) K r:=by
 unfold T5 at h;split at h
 ·rename_i s k j h1 h2;have e1:ar x=.str s:=(hA.a _ _ h1).1;have e2:ar i=.int k j:=(hA.a _ _ h2).1;have:=Ea h;exact .val rfl this.1 fun ha=>⟨0<=j/\j<s.length,.int .u8 (BM s j),by simp only[Al.req,e1,e2];rfl,qznu (this.2 ha),.refl _⟩
 ·cases h
theorem wzr5(hA:Ar B T G ar hh){i:Nat}{x:Ac}(h:Tz H T G i x K=some r):VR B T G ar hh (.extract i x) K r:=by
 unfold Tz at h;split at h
 ·rename_i l h1;have e1:ar x=.tup (At l):=(hA.a _ _ h1).1;replace h:=An h;obtain⟨hb,h⟩:=h;exact .val rfl h fun _=>⟨i<(At l).length,(At l).getD i .top,by simp only[Al.req,e1];rfl,by rw[AT];simpa [Hb] using hb,by rw[SX];exact .refl _⟩
 ·cases h
theorem jz4t{B:Phi}{cs:List SV}{k id st:Nat}:eP B (.ag cs k id st)=.agg ((At cs).set k (eP B (.vec id st))):=rfl
theorem wzt7(hA:Ar B T G ar hh){agg:Bool}{off sz:Nat}{x:Ac}(h:Ty H T G agg off sz x K=some r):VR B T G ar hh (.field agg off sz x) K r:=by
 unfold Ty at h;split at h
 ·rename_i cs k id st h1;obtain⟨e1,e2,_⟩:=hA.a _ _ h1;rw[jz4t]at e1;replace h:=An h;obtain⟨hb,h⟩:=h;have hb:=FY hb;cases agg with
  |true=>cases h
  |false =>
   have q:Ab (Nat.beq sz 1) (Ab (Nat.beq off k) (K (.vec id st) []) (K (.s (ldS false sz cs off)) [])) none=some r:=h;replace q:=An q;obtain⟨hc,q⟩:=q;obtain rfl:=Ao.1 hc;have hr:(Al.field false off 1 x).req ar hh=⟨off+1<=((At cs).set k (eP B (.vec id st))).length/\(false=false->1=1),[],((At cs).set k (eP B (.vec id st))).getD off .top,none⟩:=by simp only[Al.req,e1];rfl
   have hl:off+1<=((At cs).set k (eP B (.vec id st))).length:=by rw[It,AT];exact hb
   cases hk:Nat.beq off k with
   |true =>rw[hk]at q;obtain rfl:=Ao.1 hk;exact .mk (p:=.vec id st) (rd:=[]) rfl e2 q fun _=>⟨trivial,_,_,_,hr,⟨hl,fun _=>rfl⟩,by rw[ZW (by rw[AT];omega)];exact .refl _,fun j hj=>by cases hj⟩
   |false =>rw[hk]at q;exact .val rfl q fun _=>⟨_,_,hr,⟨hl,fun _=>rfl⟩,by rw[ZX (BS.1 hk),GH];exact .refl _⟩
 ·rename_i l h1;have e1:ar x=.agg (At l):=(hA.a _ _ h1).1;replace h:=An h;obtain⟨hb,h⟩:=h;replace h:=An h;obtain⟨hc,h⟩:=h;exact .val rfl h fun _=>⟨off+sz<=(At l).length/\(agg=false->sz=1),ldv agg sz (At l) off,by simp only[Al.req,e1];rfl,⟨by rw[AT];exact FY hb,JH hc⟩,by rw[GH];exact .refl _⟩
 ·cases h
theorem Ar.box(hA:Ar B T G ar hh){id st:Nat}{cs:List SV}(h:Ad T.h id=some (st,.box cs)):hh id=.box (B id st).ep (At cs):=(hA.h _ _ _ h).1
theorem Ar.vec(hA:Ar B T G ar hh){id st:Nat}{c:CT}{l:List c.T}(h:Ad T.h id=some (st,.vec c l)):hh id=.vec (B id st).ep c.n l.length (Az c.cA l)/\(B id st).n=l.length/\(B id st).f=Az c.cA l:=⟨(hA.h _ _ _ h).1,(hA.h _ _ _ h).2.1.1,(hA.h _ _ _ h).2.1.2⟩
theorem TY{c:CT}{l:List c.T}{j:Int}{v:c.T}(h:at? l j=some v):0<=j/\j<l.length/\j.toNat<l.length/\Az c.cA l j.toNat=c.cA v:=by obtain⟨h1,h2,h3⟩:=qzlv h;exact⟨h1,h2,by omega,FH h3⟩
theorem P6[TabOk]{c c':CT}{l:List c'.T}{i:Nat}{x:c.T}(hi:i<l.length)(h:Az c'.cA l i=c.cA x):c.n=c'.n:=by have e:Az c'.cA l i=c'.cA l[i]:=FH (AG hi);rw[e]at h;have:=E9 List.length h;rw[J7,J7]at this;exact this.symm
theorem wzv3[TabOk](hA:Ar B T G ar hh){agg:Bool}{sz:Nat}{x:Ac}(h:Tq H T G agg sz x K=some r):VR B T G ar hh (.load agg sz x) K r:=by
 unfold Tq at h;split at h
 ·rename_i id st off h1;have e1:ar x=.ptr id (B id st).ep off:=(hA.a _ _ h1).1;split at h
  ·rename_i st' cs ho;replace h:=An h;obtain⟨hb,h⟩:=h;replace h:=An h;obtain⟨hc,h⟩:=h;replace h:=An h;obtain⟨hd,h⟩:=h;obtain rfl:=Ao.1 hb;have e2:=hA.box ho;exact .valR rfl h fun _=>⟨(B id st).ep=(B id st).ep/\off+sz<=(At cs).length/\(agg=false->sz=1),ldv agg sz (At cs) off,by simp only[Al.req,CU,e1,e2],⟨rfl,by rw[AT];exact FY hc,JH hd⟩,by rw[GH];exact .refl _⟩
  ·rename_i st' p ho;replace h:=An h;obtain⟨hb,h⟩:=h;replace h:=An h;obtain⟨hc,h⟩:=h;replace h:=An h;obtain⟨hd,h⟩:=h;obtain rfl:=Ao.1 hb;obtain rfl:=Ao.1 hc;obtain rfl:=Ao.1 hd;obtain⟨p1,_,p2,p3,_⟩:=hA.h _ _ _ ho;have p1:hh id=.box (B id st).ep [eP B p]:=p1;cases agg with
   |true=>cases h
   |false=>exact .mk (p:=p) (rd:=[id]) rfl p2 h fun _=>⟨p3,(B id st).ep=(B id st).ep/\0+1<=[eP B p].length/\(false=false->1=1),ldv false 1 [eP B p] 0,[id],by simp only[Al.req,CU,e1,p1],⟨rfl,AD _,fun _=>rfl⟩,.refl _,fun j hj=>hj⟩
  ·rename_i st' cs k i s ho;replace h:=An h;obtain⟨hb,h⟩:=h;obtain rfl:=Ao.1 hb;obtain⟨p1,_,p2⟩:=hA.h _ _ _ ho;have p1:hh id=.box (B id st).ep ((At cs).set k (eP B (.vec i s))):=p1;have p2:s<T.nx:=p2;have hL:((At cs).set k (eP B (.vec i s))).length=cs.length:=by rw[It,AT]
   have hr:(Al.load agg sz x).req ar hh=⟨(B id st).ep=(B id st).ep/\off+sz<=((At cs).set k (eP B (.vec i s))).length/\(agg=false->sz=1),[id],ldv agg sz ((At cs).set k (eP B (.vec i s))) off,none⟩:=by simp only[Al.req,CU,e1,p1]
   cases agg with
   |true =>have q:Ab (Nat.beq off 0) (Ab (Nat.beq sz cs.length) (K (.ag cs k i s) [id]) none) none=some r:=h;replace q:=An q;obtain⟨hc,q⟩:=q;replace q:=An q;obtain⟨hd,q⟩:=q;obtain rfl:=Ao.1 hc;obtain rfl:=Ao.1 hd;refine .mk (p:=.ag cs k i s) (rd:=[id]) rfl p2 q fun _=>⟨trivial,_,_,_,hr,⟨rfl,by rw[hL];omega,fun e=>by cases e⟩,?_,fun j hj=>hj⟩;show VEq (.agg ((((At cs).set k (eP B (.vec i s))).drop 0).take cs.length)) (.agg ((At cs).set k (eP B (.vec i s))));rw[List.drop_zero,Iw (by rw[hL];exact AD _)];exact .refl _
   |false =>
    have q:Ab (Nat.beq sz 1) (Ab (Nat.ble (off+sz) cs.length) (Ab (Nat.beq off k) (K (.vec i s) [id]) (K (.s (ldS false sz cs off)) [id])) none) none=some r:=h;replace q:=An q;obtain⟨hc,q⟩:=q;replace q:=An q;obtain⟨hd,q⟩:=q;obtain rfl:=Ao.1 hc;have hd:=FY hd;cases hk:Nat.beq off k with
    |true =>rw[hk]at q;obtain rfl:=Ao.1 hk;refine .mk (p:=.vec i s) (rd:=[id]) rfl p2 q fun _=>⟨trivial,_,_,_,hr,⟨rfl,by rw[hL];exact hd,fun _=>rfl⟩,?_,fun j hj=>hj⟩;show VEq (((At cs).set off (eP B (.vec i s))).getD off .top) _;rw[ZW (by rw[AT];omega)];exact .refl _
    |false =>rw[hk]at q;refine .valR rfl q fun _=>⟨_,_,hr,⟨rfl,by rw[hL];exact hd,fun _=>rfl⟩,?_⟩;show VEq (((At cs).set k (eP B (.vec i s))).getD off .top) _;rw[ZX (BS.1 hk),GH];exact .refl _
  ·cases h
 ·rename_i id st j off c y h1;have e1:ar x=.eptr id (B id st).ep j.toNat off:=(hA.a _ _ h1).1;split at h
  ·rename_i st' c' l ho;replace h:=An h;obtain⟨hb,h⟩:=h;replace h:=An h;obtain⟨hc,h⟩:=h;replace h:=An h;obtain⟨hd,h⟩:=h;obtain rfl:=Ao.1 hb;obtain⟨e2,e3,e4⟩:=hA.vec ho;refine .valR rfl h fun ha=>?_;obtain⟨k1,k2,k3⟩:=(hA.a _ _ h1).2.2 ha;rw[e4]at k3;rw[e3]at k2;have hn:=P6 k2 k3;refine⟨(B id st).ep=(B id st).ep/\j.toNat<l.length/\off+sz<=c'.n/\(agg=false->sz=1),ldv agg sz (Az c'.cA l j.toNat) off,by simp only[Al.req,CU,e1,e2],⟨rfl,k2,by rw[<-hn];exact FY hc,JH hd⟩,?_⟩;rw[k3,GH,ES];exact .refl _
  ·rename_i st' c' l ho;replace h:=An h;obtain⟨hb,h⟩:=h;replace h:=An h;obtain⟨hc,h⟩:=h;replace h:=An h;obtain⟨hd,h⟩:=h;obtain rfl:=Ao.1 hb;obtain⟨_,e3,e4⟩:=hA.own ho;refine .valR rfl h fun ha=>?_;obtain⟨k1,k2,k3⟩:=(hA.a _ _ h1).2.2 ha;rw[e4]at k3;rw[e3]at k2;have e2:=(hA.ownv ho (by omega)).1;have hn:=P6 k2 k3;refine⟨(B id st).ep=(B id st).ep/\j.toNat<l.length/\off+sz<=c'.n/\(agg=false->sz=1),ldv agg sz (Az c'.cA l j.toNat) off,by simp only[Al.req,CU,e1,e2],⟨rfl,k2,by rw[<-hn];exact FY hc,JH hd⟩,?_⟩;rw[k3,GH,ES];exact .refl _
  ·cases h
 ·rename_i l off h1;have e1:ar x=.cptr (fun k=>(At l).getD k .top) l.length off:=(hA.a _ _ h1).1;replace h:=An h;obtain⟨hc,h⟩:=h;replace h:=An h;obtain⟨hd,h⟩:=h;have hc:=FY hc;refine .val rfl h fun _=>⟨off+sz<=l.length/\(agg=false->sz=1),if agg then .agg ((List.range sz).map fun j=>(At l).getD (off+j) .top) else(At l).getD off .top,by simp only[Al.req,CU,e1];rfl,⟨hc,JH hd⟩,?_⟩;rw[wztd (by rw[AT];exact hc),GH];exact .refl _
 ·cases h
theorem wzt0[TabOk](hA:Ar B T G ar hh){x:Ac}(h:Tr H T G x K=some r):VR B T G ar hh (.nilck x) K r:=by
 unfold Tr at h;split at h
 ·rename_i l off h1;have e1:ar x=.cptr (fun k=>(At l).getD k .top) l.length off:=(hA.a _ _ h1).1;exact .val rfl h fun _=>⟨_,_,by simp only[Al.req,e1];rfl,trivial,.refl _⟩
 ·rename_i f nb l h1;have e1:ar x=.fn f nb (At l):=(hA.a _ _ h1).1;exact .val rfl h fun _=>⟨_,_,by simp only[Al.req,e1];rfl,trivial,.refl _⟩
 ·rename_i i z h1;have e1:ar x=.fn z.f z.nb z.caps:=(hA.a _ _ h1).1;exact .val rfl h fun _=>⟨_,_,by simp only[Al.req,e1];rfl,trivial,.refl _⟩
 ·rename_i c z h1;have e1:ar x=ptA c.n c.cA z:=(hA.a _ _ h1).1;replace h:=@Fl _ _ c.inh _ _ _ _ h;obtain⟨v,h,hv⟩:=h;refine .val rfl h fun ha=>?_;rw[hv ha]at e1;have e1:ar x=.cptr (fun k=>(c.cA v).getD k .top) c.n 0:=e1;refine⟨True,.cptr (fun k=>(c.cA v).getD k .top) c.n 0,by simp only[Al.req,e1];rfl,trivial,?_⟩;show VEq _ (.cptr (fun k=>(At (Cv c v)).getD k .top) (Cv c v).length 0);rw[Pm,ES];exact .refl _
 ·rename_i id st off h1;have e1:ar x=.ptr id (B id st).ep off:=(hA.a _ _ h1).1;split at h
  ·rename_i st' o ho;replace h:=An h;obtain⟨hb,h⟩:=h;obtain rfl:=Ao.1 hb;exact .mk (p:=.ptr id st off) (rd:=[id]) rfl (hA.a _ _ h1).2.1 h fun ha=>⟨trivial,(B id st).ep=(hh id).ep,_,[id],by simp only[Al.req,e1];rfl,by rw[hA.ep ho],.refl _,fun j hj=>hj⟩
  ·cases h
 ·cases h
theorem jzdi{i m:Nat}(h:kkd (.us i)=some m):∃l,Tab.kk i=some l/\lt3 l=true/\m=4+encK l:=by
 unfold kkd at h;simp only at h;split at h
 ·rename_i l hl;obtain⟨h1,h2⟩:=An h;exact⟨l,hl,h1,(BI h2).symm⟩
 ·cases h
theorem GM[TabOk]{c:CT}{n:Nat}(h:isK c n=true)(a b:c.T):BU (A7 (wT c a)) (A7 (wT c b))=some (keq c a b)/\(A7 (wT c a)).kkind=n:=by
 unfold isK at h;split at h
 ·rename_i m hm;have h:=Ao.1 h;subst h;cases c with
  |int k=>cases hm;exact⟨Aq rfl,rfl⟩
  |bool=>cases hm;exact⟨rfl,rfl⟩
  |str=>cases hm;exact⟨rfl,rfl⟩
  |us i =>obtain⟨l,h1,h2,rfl⟩:=jzdi hm;obtain⟨k1,k2⟩:=TabOk.kq i a b l h1;have ea:A7 (wT (.us i) a)=.agg (Tab.cA i a):=Po i a;have eb:A7 (wT (.us i) b)=.agg (Tab.cA i b):=Po i b;rw[ea,eb];refine⟨k2,?_⟩;show 4+encK ((Tab.cA i a).map Aa.kind)=_;rw[k1]
  |_=>cases hm
 ·cases h
theorem TZ[TabOk]{c:CT}{n:Nat}{v:SV}{a:c.T}(hk:isK c n=true)(h:ofW c v=some a):A7 v=A7 (wT c a):=by
 unfold isK at hk;split at hk
 ·rename_i m hm;cases c with
  |int k=>rw[J1 h];rfl
  |bool=>rw[J2 h];rfl
  |str=>rw[J3 h];rfl
  |us i =>obtain⟨l,h1,h2,rfl⟩:=jzdi hm;obtain⟨k1,_⟩:=TabOk.kq i a a l h1;obtain⟨r,rfl,h⟩:=Tc h;have e:A7 (wT (.us i) a)=.agg (Tab.cA i a):=Po i a;have hw:Ws (At r) (Tab.cA i a):=(Td h).1;rw[e,show A7 (.agg r)=.agg (At r) from rfl,hw.scalar fun y hy=>Z7 h2 _ (k1▸UJ hy)]
  |_=>cases hm
 ·cases hk
theorem P7[TabOk]{k v:CT}{n:Nat}(hk:isK k n=true)(a:k.T):∀(l:List (k.T×v.T)) (i:Nat),∃r,AH (A7 (wT k a)) (mEs k v l) i=some r /\ ((r=none/\mget (keq k) l a=none/\∀b,mEs k v (mput (keq k) l a b)=mEs k v l++[(A7 (wT k a),A7 (wT v b))]) \/ ∃j x,r=some (i+j,A7 (wT v x))/\mget (keq k) l a=some x/\∀b,mEs k v (mput (keq k) l a b)=(mEs k v l).set j (A7 (wT k a),A7 (wT v b)))
 |[],i=>⟨none,rfl,.inl ⟨rfl,rfl,fun _=>rfl⟩⟩
 |p :: l,i=>by
  have e:AH (A7 (wT k a)) (mEs k v (p :: l)) i=(match BU (A7 (wT k a)) (A7 (wT k p.1)) with | some true=>some (some (i,A7 (wT v p.2))) | some false=>AH (A7 (wT k a)) (mEs k v l) (i+1) | none=>none):=rfl;rw[e,(GM hk a p.1).1];cases hq:keq k a p.1 with
  |true =>
   refine⟨_,rfl,.inr ⟨0,p.2,rfl,?_,fun b=>?_⟩⟩
   ·show(match keq k a p.1 with | true=>some p.2 | false=>mget (keq k) l a)=_;rw[hq]
   ·show mEs k v (match keq k a p.1 with | true=>(a,b) :: l | false=>p :: mput (keq k) l a b)=_;rw[hq];rfl
  |false =>
   obtain⟨r,h1,h2⟩:=P7 (v:=v) hk a l (i+1);have g:mget (keq k) (p :: l) a=mget (keq k) l a:=by show(match keq k a p.1 with | true=>some p.2 | false=>mget (keq k) l a)=_;rw[hq]
   have q:∀b,mput (keq k) (p :: l) a b=p :: mput (keq k) l a b:=fun b=>by show(match keq k a p.1 with | true=>(a,b) :: l | false=>p :: mput (keq k) l a b)=_;rw[hq]
   refine⟨r,h1,?_⟩;rcases h2 with ⟨h3,h4,h5⟩|⟨j,x,h3,h4,h5⟩
   ·exact .inl ⟨h3,g.trans h4,fun b=>by rw[q];show _ :: mEs k v _=_;rw[h5];rfl⟩
   ·exact .inr ⟨j+1,x,by rw[h3];simp only[AZ,De,and_true];omega,g.trans h4,fun b=>by rw[q];show _ :: mEs k v _=_;rw[h5];rfl⟩
theorem jzf8(hA:Ar B T G ar hh){x:Ac}(h:T9 H T G x K=some r):VR B T G ar hh (.mlen x) K r:=by
 unfold T9 at h;split at h
 ·rename_i id mst h1;have e1:ar x=.mp id (B id mst).ep:=(hA.a _ _ h1).1;split at h
  ·rename_i st' ck cv l ho;replace h:=An h;obtain⟨q1,h⟩:=h;obtain rfl:=Ao.1 q1;have e2:hh id=.amap (B id mst).ep (mEs ck cv l):=(hA.h _ _ _ ho).1;have e3:Cn (ar x) hh=⟨(B id mst).ep=(B id mst).ep,[id],mEs ck cv l⟩:=by unfold Cn;simp only[e1,e2]
   refine .valR rfl h fun _=>⟨(B id mst).ep=(B id mst).ep,.int .i64 (mEs ck cv l).length,by simp only[Al.req,e3],rfl,?_⟩;rw[show(mEs ck cv l).length=l.length from Fy ..];exact .refl _
  ·cases h
 ·cases h
theorem jzey[TabOk](hA:Ar B T G ar hh){kd:Nat}{cok:Bool}{zero:Aa}{x k:Ac}(h:T8 H T G kd cok zero x k K=some r):VR B T G ar hh (.mlook kd cok zero x k) K r:=by
 unfold T8 at h;split at h
 ·rename_i id mst key z h1 h2 h3;have e1:ar x=.mp id (B id mst).ep:=(hA.a _ _ h1).1;have e2:ar k=A7 key:=(hA.a _ _ h2).1;have e3:=HW h3;split at h
  ·rename_i st' ck cv l ho;split at h
   ·rename_i a d ha hd;replace h:=An h;obtain⟨q1,h⟩:=h;replace h:=An h;obtain⟨q2,h⟩:=h;obtain rfl:=Ao.1 q1;have e4:hh id=.amap (B id mst).ep (mEs ck cv l):=(hA.h _ _ _ ho).1;have e5:Cn (ar x) hh=⟨(B id mst).ep=(B id mst).ep,[id],mEs ck cv l⟩:=by unfold Cn;simp only[e1,e4]
    have e6:ar k=A7 (wT ck a):=e2.trans (TZ q2 ha);have hz:W zero (A7 (wT cv d)):=e3▸Dr hd;obtain⟨rr,f1,f2⟩:=P7 (v:=cv) q2 a l 0;have bw:=(GM q2 a a).2
    obtain⟨xv,xb,g1,g2,g3⟩:∃(xv:Aa) (xb:Bool),(Al.mlook kd cok zero x k).req ar hh=⟨(B id mst).ep=(B id mst).ep/\(ar k).kkind=kd,[id],if cok then .tup [xv,.bool xb] else xv,none⟩/\W xv (A7 (wT cv (Option.getD (mget (keq ck) l a) d)))/\xb=Option.isSome (mget (keq ck) l a):=by
     rcases f2 with ⟨rfl,g,_⟩|⟨j,y,rfl,g,_⟩
     ·refine⟨zero,false,?_,by rw[g];exact hz,by rw[g];rfl⟩;show Bu kd cok zero (ar x) (ar k) hh=_;unfold Bu;rw[e5,e6];simp only[f1]
     ·refine⟨A7 (wT cv y),true,?_,by rw[g];exact .refl _,by rw[g];rfl⟩;show Bu kd cok zero (ar x) (ar k) hh=_;unfold Bu;rw[e5,e6];simp only[f1]
    subst g3;cases cok with
    |true=>exact .valR rfl h fun _=>⟨_,_,g1,⟨rfl,by rw[e6];exact bw⟩,.of_w (show W (.tup [xv,.bool (Option.isSome (mget (keq ck) l a))]) (.tup [A7 (wT cv (Option.getD (mget (keq ck) l a) d)),.bool (Option.isSome (mget (keq ck) l a))]) from Ht.2 ⟨g2,.refl _,trivial⟩)⟩
    |false=>exact .valR rfl h fun _=>⟨_,_,g1,⟨rfl,by rw[e6];exact bw⟩,.of_w g2⟩
   ·cases h
  ·cases h
 ·cases h
theorem jzdq(hA:Ar B T G ar hh){ng:Bool}{x:Ac}(h:T7 H T G ng x K=some r):VR B T G ar hh (.isnilp ng x) K r:=by
 unfold T7 at h;split at h
 ·rename_i c z h1;have e1:ar x=ptA c.n c.cA z:=(hA.a _ _ h1).1;refine .val rfl h fun _=>?_;cases z with
  |none =>have e1:ar x=.nilp:=e1;exact⟨True,.bool (!ng),by simp only[Al.req,e1];rfl,trivial,by cases ng<;>exact .refl _⟩
  |some v =>have e1:ar x=.cptr (fun k=>(c.cA v).getD k .top) c.n 0:=e1;exact⟨True,.bool ng,by simp only[Al.req,e1];rfl,trivial,by cases ng<;>exact .refl _⟩
 ·rename_i h1;have e1:ar x=.nilp:=(hA.a _ _ h1).1;exact .val rfl h fun _=>⟨True,.bool (!ng),by simp only[Al.req,e1];rfl,trivial,.refl _⟩
 ·rename_i l off h1;have e1:ar x=.cptr (fun k=>(At l).getD k .top) l.length off:=(hA.a _ _ h1).1;exact .val rfl h fun _=>⟨True,.bool ng,by simp only[Al.req,e1];rfl,trivial,.refl _⟩
 ·cases h
theorem jzb9{c:CT}:∀{l:List SV} {m:List c.T},ofCs c l=some m->m.length=l.length/\∀(i:Nat) (v:SV) (x:c.T),l[i]?=some v->m[i]?=some x->W (A7 v) (A7 (lfT c x))
 |[],m,h=>by cases h;exact⟨rfl,fun i v x hv=>by simp at hv⟩
 |v :: l,m,h=>by
  simp only[ofCs]at h;split at h
  ·rename_i x r h1 h2;cases h;obtain⟨k1,k2⟩:=jzb9 h2;refine⟨by simp[k1],fun i u y hu hy=>?_⟩;cases i with
   |zero=>simp at hu hy;subst hu;subst hy;exact(Tb h1).1
   |succ i=>exact k2 i u y (by simpa using hu) (by simpa using hy)
  ·cases h
theorem jzhd(hA:Ar B T G ar hh){agg:Bool}{n sz:Nat}{x i:Ac}(h:T6 H T G agg n sz x i K=some r):VR B T G ar hh (.aidx agg n sz x i) K r:=by
 unfold T6 at h;split at h
 ·rename_i v l k j h1 h2;have e1:ar x=.agg (At (v :: l)):=(hA.a _ _ h1).1;have e2:ar i=.int k j:=(hA.a _ _ h2).1;split at h
  ·rename_i m hm;cases agg with
   |true=>cases h
   |false =>
    obtain⟨q1,h'⟩:=An (show Ab (Nat.beq sz 1) (Ab (Nat.beq n m.length) (@bdg U (ctOf v).T (ctOf v).inh G (at? m j) fun y=>K (.s (lfT (ctOf v) y)) []) none) none=some r from h);obtain⟨q2,h'⟩:=An h';clear h;obtain rfl:=Ao.1 q1;have q2:=Ao.1 q2;obtain⟨y,h,hy⟩:=@Fl _ _ (ctOf v).inh _ _ _ _ h';obtain⟨k1,k2⟩:=jzb9 hm;refine .val rfl h fun ha=>?_;obtain⟨p1,p2,p3⟩:=qzlv (hy ha);have hlt:j.toNat<(v :: l).length:=by rw[<-k1];omega
    have fx:(v :: l)[j.toNat]?=some (v :: l)[j.toNat]:=AG hlt;refine⟨0<=j/\j<n/\j.toNat*1+1<=(At (v :: l)).length/\(false=false->1=1),ldv false 1 (At (v :: l)) (j.toNat*1),by simp only[Al.req,e1,e2];rfl,⟨p1,by omega,by rw[AT];omega,fun _=>rfl⟩,.of_w ?_⟩;show W ((At (v :: l)).getD (j.toNat*1) .top) _;rw[Nat.mul_one,<-SX,Nu,fx];exact k2 _ _ _ fx p3
  ·cases h
 ·cases h
theorem DF(hA:Ar B T G ar hh):∀{l:List Ac} {m:List SV},Ds T G l=some m->l.map ar=At m
 |[],m,h=>by cases h;rfl
 |x :: l,m,h=>by
  simp only[Ds]at h;split at h
  ·rename_i v r h1 h2;cases h;show ar x :: l.map ar=A7 v :: At r;rw[(hA.a _ _ h1).1,DF hA h2];rfl
  ·cases h
theorem wzv0(hA:Ar B T G ar hh){f:FuncId}{nb:Nat}{caps:List Ac}(h:Tt H T G f nb caps K=some r):VR B T G ar hh (.mkfn f nb caps) K r:=by
 unfold Tt at h;split at h
 ·rename_i l h1;exact .val rfl h fun _=>⟨True,.fn f nb (caps.map ar),rfl,trivial,by rw[DF hA h1];exact .refl _⟩
 ·cases h
theorem P8(hA:Ar B T G ar hh){d n:Int}{a:Option Ac}(h:bndS T G d a=some n):Dh ar d a=some n:=by
 unfold bndS at h;split at h
 ·cases h;rfl
 ·rename_i a;split at h
  ·rename_i k n' h1;cases h;show F5 (ar a)=_;rw[(hA.a _ _ h1).1];rfl
  ·cases h
theorem wztb(hA:Ar B T G ar hh){isStr:Bool}{st:Nat}{x:Ac}{lo hi:Option Ac}(h:Tu H T G isStr st x lo hi K=some r):VR B T G ar hh (.slice isStr st x lo hi) K r:=by
 unfold Tu at h;split at h
 ·cases h
 ·rename_i l hl;have hl:=P8 hA hl;split at h
  ·rename_i c m h1;have e1:ar x=.slc c.n m.length (Az c.cA m):=(hA.a _ _ h1).1;split at h
   ·rename_i q hq;have hq:=P8 hA hq;replace h:=An h;obtain⟨hb,h⟩:=h;obtain rfl:=Ao.1 hb;have:=Ea h;refine .val rfl this.1 fun ha=>⟨c.n=c.n/\0<=l/\l<=q/\q<=m.length,.slc c.n (q-l).toNat (fun k=>Az c.cA m (l.toNat+k)),by simp only[Al.req,hl,e1,hq];rfl,⟨rfl,Qu (this.2 ha)⟩,.of_w (wzwp (this.2 ha))⟩
   ·cases h
  ·rename_i id vst h1;have e1:ar x=.vec id (B id vst).ep 0 (B id vst).n:=(hA.a _ _ h1).1;split at h
   ·rename_i st' c m ho;split at h
    ·rename_i q hq;have hq:=P8 hA hq;replace h:=An h;obtain⟨hb,h⟩:=h;replace h:=An h;obtain⟨cw,h⟩:=h;obtain rfl:=Ao.1 hb;obtain rfl:=Ao.1 cw;obtain⟨e2,e3,e4⟩:=hA.vec ho;have:=Ea h;rw[e3]at e1;refine .mk (p:=.vs id vst l q) (rd:=[id]) rfl (hA.a _ _ h1).2.1 this.1 fun ha=>⟨(show 0<=l/\l<=q/\q<=(B id vst).n from e3▸Qu (this.2 ha)),(B id vst).ep=(B id vst).ep/\c.n=c.n/\0<=l/\l<=q/\q<=m.length,.vec id (B id vst).ep (0+l.toNat) (q-l).toNat,[id],by simp only[Al.req,hl,e1,hq,e2],⟨rfl,rfl,Qu (this.2 ha)⟩,by rw[Dj];exact .refl _,fun j hj=>hj⟩
    ·cases h
   ·cases h
  ·rename_i s h1;have e1:ar x=.str s:=(hA.a _ _ h1).1;split at h
   ·rename_i q hq;have hq:=P8 hA hq;have:=Ea h;exact .val rfl this.1 fun ha=>⟨0<=l/\l<=q/\q<=s.length,.str ((s.drop l.toNat).take (q-l).toNat),by simp only[Al.req,hl,e1,hq];rfl,Qu (this.2 ha),.refl _⟩
   ·cases h
  ·cases h
theorem wztk(hA:Ar B T G ar hh){off:Nat}{x:Ac}(h:Tv H T G off x K=some r):VR B T G ar hh (.faddr off x) K r:=by
 unfold Tv at h;split at h
 ·rename_i id st o h1;have e1:ar x=.ptr id (B id st).ep o:=(hA.a _ _ h1).1;split at h
  ·rename_i st' ob ho;replace h:=An h;obtain⟨hb,h⟩:=h;obtain rfl:=Ao.1 hb;exact .mk (p:=.ptr id st (o+off)) (rd:=[id]) rfl (hA.a _ _ h1).2.1 h fun ha=>⟨trivial,(B id st).ep=(hh id).ep,_,[id],by simp only[Al.req,e1];rfl,by rw[hA.ep ho],.refl _,fun j hj=>hj⟩
  ·cases h
 ·rename_i id st j o c y h1;have e1:ar x=.eptr id (B id st).ep j.toNat o:=(hA.a _ _ h1).1;split at h
  ·rename_i st' ob ho;replace h:=An h;obtain⟨hb,h⟩:=h;obtain rfl:=Ao.1 hb;exact .mk (p:=.eptr id st j (o+off) c y) (rd:=[id]) rfl (hA.a _ _ h1).2.1 h fun ha=>⟨(hA.a _ _ h1).2.2 ha,(B id st).ep=(hh id).ep,_,[id],by simp only[Al.req,e1];rfl,by rw[hA.ep ho],.refl _,fun j hj=>hj⟩
  ·cases h
 ·rename_i l o h1;have e1:ar x=.cptr (fun k=>(At l).getD k .top) l.length o:=(hA.a _ _ h1).1;exact .val rfl h fun _=>⟨True,.cptr (fun k=>(At l).getD k .top) l.length (o+off),by simp only[Al.req,e1];rfl,trivial,.refl _⟩
 ·cases h
theorem wzsw[TabOk](hA:Ar B T G ar hh){st:Nat}{x i:Ac}(h:Tw H T G st x i K=some r):VR B T G ar hh (.iaddrS st x i) K r:=by
 unfold Tw at h;split at h
 ·rename_i c l k j h1 h2;have e1:ar x=.slc c.n l.length (Az c.cA l):=(hA.a _ _ h1).1;have e2:ar i=.int k j:=(hA.a _ _ h2).1;replace h:=An h;obtain⟨hb,h⟩:=h;obtain rfl:=Ao.1 hb;replace h:=@Fl _ _ c.inh _ _ _ _ h;obtain⟨v,h,hv⟩:=h;refine .val rfl h fun ha=>?_;obtain⟨q1,q2,q3,q4⟩:=TY (hv ha);refine⟨c.n=c.n/\0<=j/\j<l.length,.cptr (fun k=>(Az c.cA l j.toNat).getD k .top) c.n 0,by simp only[Al.req,e1,e2];rfl,⟨rfl,q1,q2⟩,?_⟩;rw[q4,<-ES];show VEq _ (.cptr (fun k=>(At (Cv c v)).getD k .top) (Cv c v).length 0);rw[Pm];exact .refl _
 ·rename_i id vst k j h1 h2;have e1:ar x=.vec id (B id vst).ep 0 (B id vst).n:=(hA.a _ _ h1).1;have e2:ar i=.int k j:=(hA.a _ _ h2).1;split at h
  ·rename_i st' c l ho;replace h:=An h;obtain⟨hb,h⟩:=h;replace h:=An h;obtain⟨cw,h⟩:=h;obtain rfl:=Ao.1 hb;obtain rfl:=Ao.1 cw;replace h:=@Fl _ _ c.inh _ _ _ _ h;obtain⟨v,h,hv⟩:=h;obtain⟨e3,e4,e5⟩:=hA.vec ho;refine .mk (p:=.eptr id vst j 0 c v) (rd:=[id]) rfl (hA.a _ _ h1).2.1 h fun ha=>?_;obtain⟨q1,q2,q3,q4⟩:=TY (hv ha);refine⟨⟨q1,by rw[e4];exact q3,by rw[e5];exact q4⟩,(B id vst).ep=(B id vst).ep/\c.n=c.n/\0<=j/\j<(B id vst).n,.eptr id (B id vst).ep (0+j.toNat) 0,[id],by simp only[Al.req,e1,e2,e3],⟨rfl,rfl,q1,by rw[e4];exact q2⟩,by rw[Dj];exact .refl _,fun j hj=>hj⟩
  ·cases h
 ·rename_i id vst k j h1 h2;have e1:=(hA.a _ _ h1).1;have e2:ar i=.int k j:=(hA.a _ _ h2).1;split at h
  ·rename_i st' c l ho;replace h:=An h;obtain⟨hb,h⟩:=h;replace h:=An h;obtain⟨cw,h⟩:=h;obtain rfl:=Ao.1 hb;obtain rfl:=Ao.1 cw;replace h:=@Fl _ _ c.inh _ _ _ _ h;obtain⟨v,h,hv⟩:=h;obtain⟨_,e4,e5⟩:=hA.own ho;refine .mk (p:=.eptr id vst j 0 c v) (rd:=[id]) rfl (hA.a _ _ h1).2.1 h fun ha=>?_;obtain⟨q1,q2,q3,q4⟩:=TY (hv ha);obtain⟨e3,e6⟩:=hA.ownv ho (by omega);rw[e6]at e1;refine⟨⟨q1,by rw[e4];exact q3,by rw[e5];exact q4⟩,(B id vst).ep=(B id vst).ep/\c.n=c.n/\0<=j/\j<l.length,.eptr id (B id vst).ep (0+j.toNat) 0,[id],by simp only[Al.req,e1,e2,e3],⟨rfl,rfl,q1,q2⟩,by rw[Dj];exact .refl _,fun j hj=>hj⟩
  ·cases h
 ·cases h
theorem wzsv(hA:Ar B T G ar hh){nn st:Nat}{x i:Ac}(h:Tx H T G nn st x i K=some r):VR B T G ar hh (.iaddrA nn st x i) K r:=by
 unfold Tx at h;split at h
 ·rename_i id pst o k j h1 h2;have e1:ar x=.ptr id (B id pst).ep o:=(hA.a _ _ h1).1;have e2:ar i=.int k j:=(hA.a _ _ h2).1;split at h
  ·rename_i st' ob n ho hj;obtain rfl:=ZZ hj;replace h:=An h;obtain⟨hb,h⟩:=h;replace h:=An h;obtain⟨hn,h⟩:=h;obtain rfl:=Ao.1 hb;have hn:n<nn:=by simpa [Hb] using hn
   exact .mk (p:=.ptr id pst (o+n*st)) (rd:=[id]) rfl (hA.a _ _ h1).2.1 h fun ha=>⟨trivial,(B id pst).ep=(hh id).ep/\0<=(n:Int)/\(n:Int)<nn,.ptr id (B id pst).ep (o+(n:Int).toNat*st),[id],by simp only[Al.req,e1,e2],⟨by rw[hA.ep ho],by omega,by omega⟩,.refl _,fun j hj=>hj⟩
  ·cases h
 ·rename_i l o k j h1 h2;have e1:ar x=.cptr (fun k=>(At l).getD k .top) l.length o:=(hA.a _ _ h1).1;have e2:ar i=.int k j:=(hA.a _ _ h2).1;split at h
  ·rename_i n hj;obtain rfl:=ZZ hj;replace h:=An h;obtain⟨hn,h⟩:=h;have hn:n<nn:=by simpa [Hb] using hn
   exact .val rfl h fun _=>⟨0<=(n:Int)/\(n:Int)<nn,.cptr (fun k=>(At l).getD k .top) l.length (o+(n:Int).toNat*st),by simp only[Al.req,e1,e2];rfl,⟨by omega,by omega⟩,.refl _⟩
  ·cases h
 ·cases h
theorem P9:∀{l m:List SV} {e:Bool},eqS l m=some e->BL (At l) (At m)=some e
 |[],[],e,h=>h
 |x :: l,y :: m,e,h=>by
  simp only[eqS]at h
  show(match A7 x,A7 y,BL (At l) (At m) with
   |.int k a,.int k' b,some e=>if k=k' then some (decide (a=b)&&e) else none
   |.bool a,.bool b,some e=>some ((a==b)&&e)
   |.str a,.str b,some e=>some (decide (a=b)&&e)
   | _,_,_=>none)=some e
  split at h
  ·rename_i h1;rw[P9 h1];exact h
  ·rename_i h1;rw[P9 h1];exact h
  ·rename_i h1;rw[P9 h1];exact h
  ·cases h
 |[],_ :: _,e,h=>by cases h
 |_ :: _,[],e,h=>by cases h
theorem wzt3(v:SV):Pt v=(A7 v).kind:=by
 cases v with
 |optr c x=>cases x<;>rfl
 |_=>rfl
theorem wzop:∀{l:List SV} {sh:List Nat},Pu l sh=true->(At l).map Aa.kind=sh
 |[],[],_=>rfl
 |x :: l,n :: m,h=>by
  have h:Ab (Nat.beq (Pt x) n) (Pu l m) false=true:=h;cases hb:Nat.beq (Pt x) n
  ·rw[hb]at h;cases h
  ·rw[hb]at h;show(A7 x).kind :: (At l).map Aa.kind=_;rw[wzop h,<-wzt3,Ao.1 hb]
 |[],_ :: _,h=>by cases h
 |_ :: _,[],h=>by cases h
theorem wztc(hA:Ar B T G ar hh){sh:List Nat}{ng:Bool}{x y:Ac}(h:TB H T G sh ng x y K=some r):VR B T G ar hh (.eqagg sh ng x y) K r:=by
 unfold TB at h;split at h
 ·rename_i l m h1 h2;have e1:ar x=.agg (At l):=(hA.a _ _ h1).1;have e2:ar y=.agg (At m):=(hA.a _ _ h2).1;split at h
  ·rename_i e he;replace h:=An h;obtain⟨hk,h⟩:=h;refine .val rfl h fun _=>⟨(At l).map Aa.kind=sh,.bool (if ng then !e else e),by simp only[Al.req,e1,e2,P9 he];rfl,wzop hk,?_⟩;cases ng<;>exact .refl _
  ·cases h
 ·cases h
theorem PA(hA:Ar B T G ar hh):∀{ps:List (Nat×Nat×Ac)} {l m:List SV},JC T G l ps=some m->CQ ar (At l) ps=some (At m)
 |[],l,m,h=>by cases h;rfl
 |(off,sz,x) :: ps,l,m,h=>by
  simp only[JC]at h;split at h
  ·rename_i v hv;split at h
   ·rename_i p hp;replace h:=An h;obtain⟨h1,h⟩:=h;replace h:=An h;obtain⟨h2,h⟩:=h;have h1:=Ao.1 h1;have h2:=FY h2;have e:ar x=A7 v:=(hA.a _ _ hv).1;simp only[CQ,e,HM hp,AT];rw[Aq ⟨h1,h2⟩,<-MZ];exact PA hA h
   ·cases h
  ·cases h
theorem jz4k{B:Phi}{id st:Nat}:Cz (eP B (.vec id st))=some [eP B (.vec id st)]:=rfl
theorem jz4e(hA:Ar B T G ar hh):∀{ps:List (Nat×Nat×Ac)} {l m:List SV} {k id st:Nat},Pv T G l ps=some (m,k,id,st)->CQ ar (At l) ps=some ((At m).set k (eP B (.vec id st)))/\st<T.nx
 |[],l,m,k,id,st,h=>by cases h
 |(off,sz,x) :: ps,l,m,k,id,st,h=>by
  simp only[Pv]at h;split at h
  ·rename_i i s hv;cases ps with
   |cons p ps=>cases h
   |nil =>have h:Ab (Nat.beq sz 1) (Ab (Nat.ble (off+sz) l.length) (some (l,off,i,s)) none) none=some (m,k,id,st):=h;replace h:=An h;obtain⟨h1,h⟩:=h;replace h:=An h;obtain⟨h2,h⟩:=h;cases h;obtain rfl:=Ao.1 h1;have h2:=FY h2;obtain⟨e,e2,_⟩:=hA.a _ _ hv;refine⟨?_,e2⟩;have h3:off+1<=(At l).length:=(by rw[AT];exact h2);simp only[CQ,e,jz4k];rw[Aq ⟨rfl,h3⟩,jz4s h3]
  ·rename_i v hv;split at h
   ·rename_i p hp;replace h:=An h;obtain⟨h1,h⟩:=h;replace h:=An h;obtain⟨h2,h⟩:=h;have h1:=Ao.1 h1;have h2:=FY h2;have e:ar x=A7 v:=(hA.a _ _ hv).1;simp only[CQ,e,HM hp,AT];rw[Aq ⟨h1,h2⟩,<-MZ];exact jz4e hA h
   ·cases h
  ·cases h
theorem wztq(hA:Ar B T G ar hh){zero:List Aa}{ps:List (Nat×Nat×Ac)}(h:TF H T G zero ps K=some r):VR B T G ar hh (.build zero ps) K r:=by
 unfold TF at h;split at h
 ·rename_i z hz;split at h
  ·rename_i l hl;have:=PA hA hl;rw[GI hz]at this;exact .val rfl h fun _=>⟨True,.agg (At l),by simp only[Al.req,this];rfl,trivial,.refl _⟩
  ·split at h;·rename_i l k id st hl;obtain⟨f1,f2⟩:=jz4e hA hl;rw[GI hz]at f1;exact .mk (p:=.ag l k id st) (rd:=[]) rfl f2 h fun _=>⟨trivial,True,.agg ((At l).set k (eP B (.vec id st))),[],by simp only[Al.req,f1];rfl,trivial,.refl _,fun j hj=>by cases hj⟩
   ·cases h
 ·cases h
theorem wzv7(hA:Ar B T G ar hh){x:Ac}(h:TG H T G x K=some r):VR B T G ar hh (.b2s x) K r:=by
 unfold TG at h;split at h
 ·rename_i l h1;have e1:ar x=.slc 1 l.length (Az (cI .u8) l):=(hA.a _ _ h1).1;exact .val rfl h fun _=>⟨True/\1=1,.str (CF l),wztm (l:=l) e1,⟨trivial,rfl⟩,.refl _⟩
 ·rename_i id vst h1;have e1:ar x=.vec id (B id vst).ep 0 (B id vst).n:=(hA.a _ _ h1).1;split at h
  ·rename_i st' l ho;replace h:=An h;obtain⟨hb,h⟩:=h;obtain rfl:=Ao.1 hb;obtain⟨e2,e3,e4⟩:=hA.vec ho;have e2:hh id=.vec (B id vst).ep 1 l.length (Az (cI .u8) l):=e2;rw[e3]at e1;exact .valR rfl h fun _=>⟨((B id vst).ep=(B id vst).ep/\0+l.length<=l.length)/\1=1,.str (CF l),wztw (l:=l) e1 e2,⟨⟨rfl,by omega⟩,rfl⟩,.refl _⟩
  ·cases h
 ·cases h
def Pk(B:Phi)(T:Ap)(ar:Ac->Aa):Prop:=∀a n w b x,argP T (some (n,w,w)) a=some x->ar (.t n)=.bool b->unv (ar a)=eP B x/\unc (Ab w b (!b)) (ar a)
theorem wzqk(hA:Ar B T G ar hh)(hP:Pk B T ar){n:Nat}{w b:Bool}{a:Ac}{x:PV}(h:JD T G n w a=some x)(hb:ar (.t n)=.bool b):unv (ar a)=eP B x/\unc (Ab w b (!b)) (ar a):=by
 cases G with
 |none=>exact hP a n w b x h hb
 |some g =>
  have h:(match argP T (some g) a with | some p=>some p | none=>argP T (some (n,w,w)) a)=some x:=h;split at h
  ·rename_i p hp;cases h;have h1:=(hA.a _ _ hp).1;rw[h1];exact⟨GJ _,GL _ _⟩
  ·exact hP a n w b x h hb
theorem wzu7(hA:Ar B T G ar hh)(hP:Pk B T ar){c x y:Ac}(h:MQ H T G c x y K=some r):VR B T G ar hh (.pick c x y) K r:=by
 unfold MQ at h;split at h
 ·rename_i n;split at h
  ·rename_i b hb;have e0:ar (.t n)=.bool b:=(hA.a _ _ hb).1;have key:∀p q,JD T G n true x=some (.s p)->JD T G n false y=some (.s q)->(unv (ar x)=A7 p/\unc b (ar x))/\(unv (ar y)=A7 q/\unc (!b) (ar y)):=fun p q hp hq=>⟨wzqk hA hP hp e0,wzqk hA hP hq e0⟩;split at h
   ·rename_i p q hp hq;obtain⟨⟨a1,a2⟩,a3,a4⟩:=key _ _ hp hq;refine .val rfl h fun _=>⟨unc b (ar x)/\unc (!b) (ar y),.bool (bif b then p else q),?_,⟨a2,a4⟩,.refl _⟩;simp only[Al.req,e0,Cy,a1,a3,A7];rfl
   ·rename_i k p k' q hp hq;replace h:=An h;rw[CO]at h;obtain⟨rfl,h⟩:=h;obtain⟨⟨a1,a2⟩,a3,a4⟩:=key _ _ hp hq;refine .val rfl h fun _=>⟨unc b (ar x)/\unc (!b) (ar y),.int k (bif b then p else q),?_,⟨a2,a4⟩,.refl _⟩;simp only[Al.req,e0,Cy,a1,a3,A7];simp[Req.when]
   ·cases h
  ·cases h
 ·cases h
theorem Ua[TabOk]{c:CT}{st:Nat}:∀{n:Nat} {l:List SV} {m:List c.T},MR c st n l=some m->l.length=n*st->m.length=n/\Bl (At l)=true/\∀k,k<n->Ws ((EA st n (At l)).getD k []) (Az c.cA m k)
 |0,l,m,h,hl=>by cases h;have:l=[]:=Gbt.1 (by omega);subst this;exact⟨rfl,rfl,fun k hk=>by omega⟩
 |n+1,l,m,h,hl=>by
  simp only[MR]at h;split at h
  ·rename_i x q h1 h2;cases h;have gO:(l.drop st).length=n*st:=by rw[Nv,hl,Ga];omega
   obtain⟨a,b,d⟩:=Ua h2 gO;obtain⟨p1,p2⟩:=FN h1;refine⟨by rw[DL,a],?_,fun k hk=>?_⟩
   ·rw[<-Qp st l,Pi,P5,p2,b];rfl
   ·cases k with
    |zero=>show Ws ((At l).take st) (c.cA x);rw[<-Pj];exact p1
    |succ k =>show Ws ((EA st n ((At l).drop st)).getD k []) (Az c.cA q k);rw[<-Pl];exact d k (by omega)
  ·cases h
theorem wzs4[TabOk](hA:Ar B T G ar hh)(bB:∀i,inR T.b i=true->(hh i).plain){ty:List (Nat×CT)}{s st nn:Nat}{zero:List Aa}{ps:List (Nat×Nat×Ac)}(h:TH ty T G s st nn zero ps K=some r):VR B T G ar hh (.fslice s st nn zero ps) K r:=by
 unfold TH at h;split at h
 ·rename_i z hz;split at h
  ·rename_i l hl;have hf:=PA hA hl;rw[GI hz]at hf;replace h:=An h;obtain⟨h1,h⟩:=h;replace h:=An h;obtain⟨h2,h⟩:=h;replace h:=An h;obtain⟨h3,h⟩:=h;have h1:=Ao.1 h1;have h2:=Ao.1 h2;have h3:0<st:=by simpa [Hb] using h3
   replace h:=An h;obtain⟨h4,h⟩:=h;split at h
   ·rename_i m hm;obtain⟨c1,c2,c3⟩:=Ua hm h1;have aC:(Al.fslice s st nn zero ps).req ar hh=⟨(hh s).plain/\(At l).length=nn*st/\0<st/\Bl (At l)=true,[s],.slc st nn (fun i=>(EA st nn (At l)).getD i []),some (s,hh s)⟩:=by simp only[Al.req,hf]
    refine⟨_,_,h,trivial,rfl,fun _=>⟨trivial,by rw[aC];exact⟨bB s h4,by rw[AT,h1],h3,c2⟩,?_,by rw[aC];exact fun j hj=>hj,by rw[aC];exact rfl⟩⟩;rw[aC];refine .of_w ?_;show W _ (.slc (Bo s ty).n m.length (Az (Bo s ty).cA m));exact ED.2 ⟨h2.symm,c1.symm,c3⟩
   ·cases h
  ·cases h
 ·cases h
theorem wzsj[TabOk](hA:Ar B T G ar hh)(hP:Pk B T ar)(bB:∀i,inR T.b i=true->(hh i).plain){ty:List (Nat×CT)}{o:Al}(hc:o.isCall=false)(h:opV H ty T G o K=some r):VR B T G ar hh o K r:=by
 cases o<;>simp only[opV]at h<;>first
  |(cases h;done) | (cases hc;done)
  |exact wzwt hA h | exact wzu7 hA hP h | exact wzwd hA h | exact wzv9 hA h | exact wzwb hA h | exact wzv3 hA h | exact wzt0 hA h | exact wzu5 hA h | exact wzv0 hA h | exact wztb hA h
  |exact wztk hA h | exact wzsw hA h | exact wzsv hA h | exact wzt7 hA h | exact wzr5 hA h | exact wzu8 hA h | exact wzv5 hA h | exact wztc hA h | exact wzv4 hA h | exact wzwn hA h | exact kzay hA h | exact wztq hA h | exact wzv7 hA h | exact wzs4 hA bB h | exact jzhd hA h | exact jzdq hA h | exact jzey hA h | exact jzf8 hA h
end
end
theorem OEq.of_wo{o' o:Ai}(h:WO o' o)(hn:∀e,o≠.gone e):OEq o' o:=by
 refine⟨h.ep,fun ho=>h.owned ho,fun e he=>?_,fun g w i hO=>h.or hO,fun e es he=>?_⟩;rotate_left
 ·subst he;cases o with
  |gone e=>exact absurd rfl (hn e)
  |box e l=>obtain⟨l0,h,_⟩:=h;cases h
  |vec e st n f=>obtain⟨f0,h,_⟩:=h;cases h
  |_=>first|exact h.symm|exact h
 subst he;cases o with
 |gone e=>exact absurd rfl (hn e)
 |box e l=>obtain⟨l0,h,_⟩:=h;cases h
 |vec e st n f=>obtain⟨f0,h,_⟩:=h;cases h
 |_=>exact h
theorem OEq.vec{e st n n':Nat}{f f':Nat->List Aa}(hn:n=n')(h:∀k,k<n->Ws (f k) (f' k)):OEq (.vec e st n f) (.vec e st n' f'):=by subst hn;exact .of_wo (IS.2 ⟨rfl,rfl,rfl,h⟩) (fun e h=>by cases h)
theorem Ws.of_eq{l m:List Aa}(h:l=m):Ws l m:=h▸.refl _
theorem wzq5{U:Type}:∀{n:Nat} {l:List U},Tl n l=true->l.length<=n
 |_,[],_=>Fv _
 |0,_ :: _,h=>by cases h
 |n+1,_ :: l,h=>by have:=wzq5 (n:=n) (l:=l) h;simp only[DL];omega
theorem wzr3{l p:List Aa}{off:Nat}(h:Bl (lay l off p)=true):Bl p=true:=by unfold lay at h;rw[P5,P5]at h;simp only[AE]at h;exact h.1.2
theorem jzbs{l p:List Aa}(h:l.length=p.length):lay l 0 p=p:=by unfold lay;rw[Dj,List.drop_eq_nil_of_le (by omega)];simp
theorem jzgd{x:Aa}{p:List Aa}(h:p.length=1):lay [x] 0 p=p:=jzbs h.symm
theorem jzeu{U:Type}{e st:Nat}{c:U->List Aa}{l:List U}(h:0<l.length):ownO e st c l=.vec e st l.length (Az c l):=by
 cases l with
 |nil=>cases h
 |cons y l=>rfl
theorem wzp3{U:Type}{c:U->List Aa}{m l:List U}(k:Nat):Ws (if k<m.length then Az c m (0+k) else Az c l (k-m.length)) (Az c (m++l) k):=by rw[yzt,Dj];exact .refl _
theorem wzsz{U:Type}{c:U->List Aa}{m new:List U}{i n:Nat}{src:Nat->List Aa}(hi:i+n<=m.length)(hl:new.length=n)(h:∀k,k<n->Ws (src k) (Az c new k))(k:Nat):Ws (if i<=k/\k<i+n then src (k-i) else Az c m k) (Az c (Ca m i new) k):=by
 rw[qzf6 (by omega),hl];by_cases hk:i<=k/\k<i+n
 ·rw[Aq hk,Aq hk];exact h _ (by omega)
 ·rw[Ak hk,Ak hk];exact .refl _
theorem wz7r:∀{l:List Aa} {e:Bool},BL l l=some e->e=true
 |[],e,h=>by simp[BL]at h;first|exact h|exact h.symm
 |x :: l,e,h=>by
  rw[IB]at h;cases hc:DQ x x with
  |none=>simp[hc]at h
  |some c =>
   cases he:BL l l with
   |none=>simp[hc,he]at h
   |some e' =>
    simp only[hc,he,AZ]at h;have h1:=wz7r he;have h2:c=true:=by cases x<;>simp[DQ]at hc<;>simp[hc]
    rw[<-h,h1,h2];rfl
section
variable [Tab]
def ghoR(G:HS)(ep:Nat):TO->HS
 |.vec c l=>⟨ep,l.length,Az c.cA l⟩
 |.own c l=>⟨ep,l.length,Az c.cA l⟩
 |_=>⟨ep,G.n,G.f⟩
theorem Nb{G:HS}{e:Nat}{o:TO}:(ghoR G e o).ep=e:=by cases o<;>rfl
theorem Ub{G:HS}{e:Nat}{o:TO}:OkO (ghoR G e o) o:=by cases o<;>simp[ghoR,OkO]
structure Hp(B:Phi)(T:Ap)(ar:Ac->Aa)(hh:Ax):Prop extends Ar B T none ar hh where
 pl:∀i,inR T.b i=true->(hh i).plain
 ro:∀id p,Ad T.h id=some p->inR T.b id=true
structure VO'(B:Phi)(T:Ap)(ar:Ac->Aa)(hh:Ax)(o:Al)(p:PV)(id:Nat)(ob:TO)(re:Bool)(rd:List Nat)(ep:Nat)(G:HS):Prop where
 st:StP (T.nx+1) p
 ok:(o.req ar hh).ok
 v:VEq (o.req ar hh).v (eP (upd B id T.nx (ghoR G ep ob)) p)
 okp:OkP (upd B id T.nx (ghoR G ep ob)) p
 hrd:∀j∈(o.req ar hh).rd,j∈rd
 hout:OutW hh (o.req ar hh).out (some (id,eO (upd B id T.nx (ghoR G ep ob)) ep ob))
 hid:id∈rd
 idr:inR T.b id=true
 re:re=true->∃st o0,Ad T.h id=some (st,o0)/\(B id st).ep=ep/\(B id st).n=(ghoR G ep ob).n
 rfo:RfO (upd B id T.nx (ghoR G ep ob)) (T.nx+1) ob
def VO{U:Type}(B:Phi)(T:Ap)(ar:Ac->Aa)(hh:Ax)(o:Al)(K:PV->Nat->TO->Bool->List Nat->Option U)(r:U):Prop := ∃p id ob re rd ep G,K p id ob re rd=some r/\VO' B T ar hh o p id ob re rd ep G
section
variable {U:Type}{B:Phi}{ty:List (Nat×CT)}{T:Ap}{ar:Ac->Aa}{hh:Ax}{K:PV->Nat->TO->Bool->List Nat->Option U}{r:U}
theorem jz4a{B:Phi}{i s:Nat}:∀{l:List Aa} {k:Nat},Bl l=true->Bl (l.set k (eP B (.vec i s)))=true
 |[],_,_=>rfl
 |x :: l,0,h=>by have h:(x.one&&Bl l)=true:=h;simp only[AE]at h;show(Aa.one (.vec i (B i s).ep 0 (B i s).n)&&Bl l)=true;rw[h.2];rfl
 |x :: l,k+1,h=>by have h:(x.one&&Bl l)=true:=h;simp only[AE]at h;show(x.one&&Bl (l.set k _))=true;rw[h.1,jz4a h.2];rfl
theorem wz9i{p:PV}(h:Fd p=true):Cz (eP B p)=some [eP B p]/\Bl [eP B p]=true:=by
 cases p with
 |vec id st=>exact⟨rfl,rfl⟩
 |mp id st=>exact⟨rfl,rfl⟩
 |own id st =>show Cz (match (B id st).n with | 0=>Aa.nils | n+1=>.vec id (B id st).ep 0 (n+1))=some [match (B id st).n with | 0=>Aa.nils | n+1=>.vec id (B id st).ep 0 (n+1)]/\Bl [match (B id st).n with | 0=>Aa.nils | n+1=>.vec id (B id st).ep 0 (n+1)]=true;cases (B id st).n<;>exact⟨rfl,rfl⟩
 |_=>cases h
theorem jzb8:∀(l:List Aa),Ws l (At (ofAT l))
 |[]=>trivial
 |x :: l=>by
  refine⟨?_,jzb8 l⟩;cases h:ofA1 x with
  |none=>exact .top _
  |some v=>exact(P3 h)▸.refl _
theorem wzto[TabOk](hA:Hp B T ar hh){s:Nat}{zero:List Aa}(hs:inR T.b s=true)(h:ZT ty T s zero K=some r):VO B T ar hh (.alloc s zero) K r:=by
 refine⟨_,_,_,_,_,(hh s).ep+1,⟨0,0,fun _=>[]⟩,h,⟨Co _,hA.pl s hs,?_,trivial,fun j hj=>hj,⟨rfl,?_⟩,CM.2 rfl,hs,(fun e=>by cases e),trivial⟩⟩
 ·show VEq (.ptr s ((hh s).ep+1) 0) (.ptr s (upd B s T.nx _ s T.nx).ep 0);rw[B8];exact .refl _
 ·show OEq (.box ((hh s).ep+1) zero) (.box ((hh s).ep+1) (At (ofAT zero)));exact .of_wo (D3.2 ⟨rfl,jzb8 zero⟩) (fun e h=>by cases h)
theorem wzv6[TabOk](hA:Hp B T ar hh){s:Nat}{x:Ac}(hs:inR T.b s=true)(h:TI ty T s x K=some r):VO B T ar hh (.box s x) K r:=by
 unfold TI at h;split at h
 ·rename_i v h1;have e1:ar x=A7 v:=(hA.a _ _ h1).1;split at h
  ·rename_i l hl;have aC:(Al.box s x).req ar hh=⟨(hh s).plain,[s],.ptr s ((hh s).ep+1) 0,some (s,.box ((hh s).ep+1) (At l))⟩:=by simp only[Al.req,e1,HM hl]
   refine⟨_,_,_,_,_,(hh s).ep+1,⟨0,0,fun _=>[]⟩,h,⟨Co _,by rw[aC];exact hA.pl s hs,?_,trivial,by rw[aC];exact fun j hj=>hj,by rw[aC];exact⟨rfl,.refl _⟩,CM.2 rfl,hs,(fun e=>by cases e),trivial⟩⟩;rw[aC];show VEq (.ptr s ((hh s).ep+1) 0) (.ptr s (upd B s T.nx _ s T.nx).ep 0);rw[B8];exact .refl _
  ·cases h
 ·rename_i p _ h1;obtain⟨e1,e2,e3⟩:=hA.a _ _ h1;have e3:=e3 trivial;obtain⟨hp,h⟩:=An h;have aG:∀G,Ext T.nx B (upd B s T.nx G):=fun G=>GG;have aC:(Al.box s x).req ar hh=⟨(hh s).plain,[s],.ptr s ((hh s).ep+1) 0,some (s,.box ((hh s).ep+1) [eP B p])⟩:=by simp only[Al.req,e1,(wz9i hp).1]
  refine⟨_,_,_,_,_,(hh s).ep+1,⟨0,0,fun _=>[]⟩,h,⟨Co _,by rw[aC];exact hA.pl s hs,?_,trivial,by rw[aC];exact fun j hj=>hj,?_,CM.2 rfl,hs,(fun e=>by cases e),⟨E1 (E8 _) e2,E0 (aG _) e2 e3,hp⟩⟩⟩
  ·rw[aC];show VEq (.ptr s ((hh s).ep+1) 0) (.ptr s (upd B s T.nx _ s T.nx).ep 0);rw[B8];exact .refl _
  ·rw[aC];refine⟨rfl,?_⟩;show OEq (.box ((hh s).ep+1) [eP B p]) (.box ((hh s).ep+1) [eP (upd B s T.nx _) p]);rw[Ez (aG _) e2];exact .refl _
 ·cases h
theorem wzss[TabOk](hA:Hp B T ar hh){s st nn:Nat}{zero:List Aa}{ps:List (Nat×Nat×Ac)}(hs:inR T.b s=true)(h:TJ ty T s st nn zero ps K=some r):VO B T ar hh (.bslice s st nn zero ps) K r:=by
 unfold TJ at h;split at h
 ·rename_i z hz;split at h
  ·rename_i l hl;have hf:=PA hA.toAr hl;rw[GI hz]at hf;replace h:=An h;obtain⟨h1,h⟩:=h;replace h:=An h;obtain⟨h2,h⟩:=h;replace h:=An h;obtain⟨h3,h⟩:=h;have h1:=Ao.1 h1;have h2:=Ao.1 h2;have h3:0<st:=by simpa [Hb] using h3
   split at h
   ·rename_i m hm;obtain⟨c1,c2,c3⟩:=Ua hm h1;have aC:(Al.bslice s st nn zero ps).req ar hh=⟨(hh s).plain/\(At l).length=nn*st/\0<st/\Bl (At l)=true,[s],.vec s ((hh s).ep+1) 0 nn,some (s,.vec ((hh s).ep+1) st nn (fun i=>(EA st nn (At l)).getD i []))⟩:=by simp only[Al.req,hf]
    refine⟨_,_,_,_,_,(hh s).ep+1,⟨0,0,fun _=>[]⟩,h,⟨Co _,by rw[aC];exact⟨hA.pl s hs,by rw[AT,h1],h3,c2⟩,?_,trivial,by rw[aC];exact fun j hj=>hj,?_,CM.2 rfl,hs,(fun e=>by cases e),trivial⟩⟩
    ·rw[aC];show VEq (.vec s ((hh s).ep+1) 0 nn) (.vec s (upd B s T.nx _ s T.nx).ep 0 (upd B s T.nx _ s T.nx).n);rw[B8];show VEq _ (.vec s ((hh s).ep+1) 0 m.length);rw[c1];exact .refl _
    ·rw[aC];refine⟨rfl,?_⟩;show OEq _ (.vec ((hh s).ep+1) (Bo s ty).n m.length (Az (Bo s ty).cA m));rw[h2];exact .vec c1.symm c3
   ·cases h
  ·cases h
 ·cases h
theorem wzv8[TabOk](hA:Hp B T ar hh){s st bytes:Nat}{zero:List Aa}{x:Ac}(hs:inR T.b s=true)(h:TK ty T s st bytes zero x K=some r):VO B T ar hh (.mks s st bytes zero x) K r:=by
 unfold TK at h;split at h
 ·rename_i z k n hz h1;have e1:ar x=.int k n:=(hA.a _ _ h1).1;replace h:=An h;obtain⟨h2,h⟩:=h;replace h:=An h;obtain⟨h3,h⟩:=h;have h2:=Ao.1 h2;have h3:0<st:=by simpa [Hb] using h3
  split at h
  ·rename_i e he;have hk:=Ea (G:=none) h;obtain⟨k1,k2⟩:=qztk (hk.2 trivial);obtain⟨p1,p2⟩:=FN he;rw[GI hz]at p1 p2;have aF:zero.length=st:=by rw[p1.at.1,J7,h2]
   have aC:(Al.mks s st bytes zero x).req ar hh=⟨(hh s).plain/\0<=n/\n*bytes<=140737488355328/\0<st/\zero.length=st/\Bl zero=true,[s],.vec s ((hh s).ep+1) 0 n.toNat,some (s,.vec ((hh s).ep+1) st n.toNat (fun _=>zero))⟩:=by simp only[Al.req,e1]
   refine⟨_,_,_,_,_,(hh s).ep+1,⟨0,0,fun _=>[]⟩,hk.1,⟨Co _,by rw[aC];exact⟨hA.pl s hs,k1,k2,h3,aF,p2⟩,?_,trivial,by rw[aC];exact fun j hj=>hj,?_,CM.2 rfl,hs,(fun e=>by cases e),trivial⟩⟩
   ·rw[aC];show VEq (.vec s ((hh s).ep+1) 0 n.toNat) (.vec s (upd B s T.nx _ s T.nx).ep 0 (upd B s T.nx _ s T.nx).n);rw[B8];show VEq _ (.vec s ((hh s).ep+1) 0 (List.replicate n.toNat e).length);rw[Gbw];exact .refl _
   ·rw[aC];refine⟨rfl,?_⟩;show OEq _ (.vec ((hh s).ep+1) (Bo s ty).n (List.replicate n.toNat e).length (Az (Bo s ty).cA (List.replicate n.toNat e)));rw[h2];exact .vec (by rw[Gbw]) fun k hk=>by rw[kzl hk];exact p1
  ·cases h
 ·cases h
theorem wzwh[TabOk](hA:Hp B T ar hh){s:Nat}{x:Ac}(hs:inR T.b s=true)(h:TL ty T s x K=some r):VO B T ar hh (.s2b s x) K r:=by
 unfold TL at h;split at h
 ·rename_i b h1;have e1:ar x=.str b:=(hA.a _ _ h1).1;have aC:(Al.s2b s x).req ar hh=⟨(hh s).plain,[s],.slc 1 b.length (fun k=>[.int .u8 (BM b k)]),some (s,.gone ((hh s).ep+1))⟩:=by simp only[Al.req,e1]
  refine⟨_,_,_,_,_,(hh s).ep+1,⟨0,0,fun _=>[]⟩,h,⟨trivial,by rw[aC];exact hA.pl s hs,?_,trivial,by rw[aC];exact fun j hj=>hj,by rw[aC];exact⟨rfl,.refl _⟩,CM.2 rfl,hs,(fun e=>by cases e),trivial⟩⟩;rw[aC];refine .of_w (ED.2 ⟨rfl,(qzcs b).symm,wzvm rfl fun k _=>rfl⟩)
 ·cases h
theorem wzwf[TabOk]{c:CT}{l:List c.T}{i:Nat}{e:c.T}{row:List Aa}(hi:i<l.length)(h:Ws row (c.cA e))(k:Nat):Ws (if k=i then row else Az c.cA l k) (Az c.cA (l.set i e) k):=by
 rw[qzdm hi];split
 ·exact h
 ·exact .refl _
theorem wztz[TabOk](hA:Hp B T ar hh){sz:Nat}{x y:Ac}(h:TM ty T sz x y K=some r):VO B T ar hh (.store sz x y) K r:=by
 unfold TM at h;split at h
 ·rename_i id st off v h1 h2;have e1:ar x=.ptr id (B id st).ep off:=(hA.a _ _ h1).1;have e2:ar y=A7 v:=(hA.a _ _ h2).1;split at h
  ·rename_i st' cs p ho hp;replace h:=An h;obtain⟨q1,h⟩:=h;replace h:=An h;obtain⟨q2,h⟩:=h;replace h:=An h;obtain⟨q3,h⟩:=h;replace h:=An h;obtain⟨q4,h⟩:=h;obtain rfl:=Ao.1 q1;have q2:=Ao.1 q2;have q3:=FY q3;have e3:=hA.toAr.box ho;have aC:(Al.store sz x y).req ar hh=⟨(B id st).ep=(B id st).ep/\(At p).length=sz/\Bl (At p)=true/\off+sz<=(At cs).length,[id],.top,some (id,.box (B id st).ep (lay (At cs) off (At p)))⟩:=by simp only[Al.req,C0,e1,e2,HM hp,e3]
   refine⟨_,_,_,_,_,(B id st).ep,B id st,h,⟨trivial,by rw[aC];exact⟨rfl,by rw[AT,q2],Na q4,by rw[AT];exact q3⟩,by rw[aC];exact .refl _,trivial,by rw[aC];exact fun j hj=>hj,?_,CM.2 rfl,hA.ro _ _ ho,(fun _=>⟨st,_,ho,rfl,rfl⟩),trivial⟩⟩;rw[aC];refine⟨rfl,?_⟩;show OEq _ (.box (B id st).ep (At (layS cs off p)));rw[MZ];exact .refl _
  ·rename_i st' p0 p ho hp;replace h:=An h;obtain⟨q1,h⟩:=h;replace h:=An h;obtain⟨q2,h⟩:=h;replace h:=An h;obtain⟨q3,h⟩:=h;replace h:=An h;obtain⟨q4,h⟩:=h;replace h:=An h;obtain⟨q5,h⟩:=h;obtain rfl:=Ao.1 q1;have q2:=Ao.1 q2;obtain rfl:=Ao.1 q3;obtain rfl:=Ao.1 q4;have e3:hh id=.box (B id st).ep [eP B p0]:=(hA.h _ _ _ ho).1;have aC:(Al.store 1 x y).req ar hh=⟨(B id st).ep=(B id st).ep/\(At p).length=1/\Bl (At p)=true/\0+1<=[eP B p0].length,[id],.top,some (id,.box (B id st).ep (lay [eP B p0] 0 (At p)))⟩:=by simp only[Al.req,C0,e1,e2,HM hp,e3]
   refine⟨_,_,_,_,_,(B id st).ep,B id st,h,⟨trivial,by rw[aC];exact⟨rfl,by rw[AT,q2],Na q5,AD _⟩,by rw[aC];exact .refl _,trivial,by rw[aC];exact fun j hj=>hj,?_,CM.2 rfl,hA.ro _ _ ho,(fun _=>⟨st,_,ho,rfl,rfl⟩),trivial⟩⟩;rw[aC];refine⟨rfl,?_⟩;show OEq (.box (B id st).ep (lay [eP B p0] 0 (At p))) (.box (B id st).ep (At p));rw[jzgd (by rw[AT,q2])];exact .refl _
  ·cases h
 ·rename_i id st cs k i s h1 h2;have e1:ar x=.ptr id (B id st).ep 0:=(hA.a _ _ h1).1;obtain⟨e2,e2s,_⟩:=hA.a _ _ h2;rw[jz4t]at e2;have e2s:s<T.nx:=e2s;split at h
  ·rename_i st' cs' ho;replace h:=An h;obtain⟨q1,h⟩:=h;replace h:=An h;obtain⟨q2,h⟩:=h;replace h:=An h;obtain⟨q3,h⟩:=h;replace h:=An h;obtain⟨q4,h⟩:=h;obtain⟨q5,h⟩:=jz4w h;obtain rfl:=Ao.1 q1;obtain rfl:=Ao.1 q2;have q3:=Ao.1 q3;have q5:=BS.1 q5;have e3:=hA.toAr.box ho;have hL:((At cs).set k (eP B (.vec i s))).length=cs.length:=by rw[It,AT]
   have dy:Bl ((At cs).set k (eP B (.vec i s)))=true:=jz4a (Na q4);have aC:(Al.store cs.length x y).req ar hh=⟨(B id st).ep=(B id st).ep/\((At cs).set k (eP B (.vec i s))).length=cs.length/\Bl ((At cs).set k (eP B (.vec i s)))=true/\0+cs.length<=(At cs').length,[id],.top,some (id,.box (B id st).ep (lay (At cs') 0 ((At cs).set k (eP B (.vec i s)))))⟩:=by simp only[Al.req,C0,e1,e2,Cz,e3]
   refine⟨_,_,_,_,_,(B id st).ep,B id st,h,⟨trivial,by rw[aC];exact⟨rfl,hL,dy,by rw[AT];omega⟩,by rw[aC];exact .refl _,trivial,by rw[aC];exact fun j hj=>hj,?_,CM.2 rfl,hA.ro _ _ ho,fun _=>⟨st,_,ho,rfl,rfl⟩,Nat.lt_succ_of_lt e2s⟩⟩;rw[aC];refine⟨rfl,?_⟩;have e4:eP (upd B id T.nx (ghoR (B id st) (B id st).ep (.rag cs k i s))) (.vec i s)=eP B (.vec i s):=Ez GG e2s;show OEq _ (.box (B id st).ep ((At cs).set k (eP (upd B id T.nx (ghoR (B id st) (B id st).ep (.rag cs k i s))) (.vec i s))));rw[e4];have e5:lay (At cs') 0 ((At cs).set k (eP B (.vec i s)))=(At cs).set k (eP B (.vec i s)):=by unfold lay;rw[hL,List.take_zero,List.drop_of_length_le (by rw[AT];omega)];simp
   rw[e5];exact .refl _
  ·cases h
 ·rename_i id st j off c y0 v h1 h2;have e1:ar x=.eptr id (B id st).ep j.toNat off:=(hA.a _ _ h1).1;have e2:ar y=A7 v:=(hA.a _ _ h2).1;split at h
  ·rename_i st' c' l p ho hp;replace h:=An h;obtain⟨q1,h⟩:=h;replace h:=An h;obtain⟨q2,h⟩:=h;replace h:=An h;obtain⟨q3,h⟩:=h;obtain rfl:=Ao.1 q1;have q2:=Ao.1 q2;have q3:=FY q3;obtain⟨e3,e4,e5⟩:=hA.toAr.vec ho;obtain⟨k1,k2,k3⟩:=(hA.a _ _ h1).2.2 trivial;rw[e4]at k2;rw[e5]at k3;have hn:=P6 k2 k3;split at h
   ·rename_i e he;obtain⟨p1,p2⟩:=FN he;rw[MZ,ES]at p1 p2;have aC:(Al.store sz x y).req ar hh=⟨(B id st).ep=(B id st).ep/\j.toNat<l.length/\(At p).length=sz/\Bl (At p)=true/\off+sz<=c'.n,[id],.top,some (id,.vec (B id st).ep c'.n l.length (fun k=>if k=j.toNat then lay (Az c'.cA l j.toNat) off (At p) else Az c'.cA l k))⟩:=by simp only[Al.req,C0,e1,e2,HM hp,e3]
    refine⟨_,_,_,_,_,(B id st).ep,B id st,h,⟨trivial,by rw[aC];exact⟨rfl,k2,by rw[AT,q2],wzr3 p2,by rw[<-hn];exact q3⟩,by rw[aC];exact .refl _,trivial,by rw[aC];exact fun j hj=>hj,?_,CM.2 rfl,hA.ro _ _ ho,(fun _=>⟨st,_,ho,rfl,?_⟩),trivial⟩⟩
    ·rw[aC];refine⟨rfl,?_⟩;show OEq _ (.vec (B id st).ep c'.n (l.set j.toNat e).length (Az c'.cA (l.set j.toNat e)));rw[k3];exact .vec (by rw[It]) fun k hk=>wzwf k2 p1 k
    ·show(B id st).n=(l.set j.toNat e).length;rw[e4,It]
   ·cases h
  ·rename_i st' c' l p ho hp;replace h:=An h;obtain⟨q1,h⟩:=h;replace h:=An h;obtain⟨q2,h⟩:=h;replace h:=An h;obtain⟨q3,h⟩:=h;obtain rfl:=Ao.1 q1;have q2:=Ao.1 q2;have q3:=FY q3;obtain⟨_,e4,e5⟩:=hA.toAr.own ho;obtain⟨k1,k2,k3⟩:=(hA.a _ _ h1).2.2 trivial;rw[e4]at k2;rw[e5]at k3;have e3:=(hA.toAr.ownv ho (by omega)).1;have hn:=P6 k2 k3;split at h
   ·rename_i e he;obtain⟨p1,p2⟩:=FN he;rw[MZ,ES]at p1 p2;have aC:(Al.store sz x y).req ar hh=⟨(B id st).ep=(B id st).ep/\j.toNat<l.length/\(At p).length=sz/\Bl (At p)=true/\off+sz<=c'.n,[id],.top,some (id,.vec (B id st).ep c'.n l.length (fun k=>if k=j.toNat then lay (Az c'.cA l j.toNat) off (At p) else Az c'.cA l k))⟩:=by simp only[Al.req,C0,e1,e2,HM hp,e3]
    refine⟨_,_,_,_,_,(B id st).ep,B id st,h,⟨trivial,by rw[aC];exact⟨rfl,k2,by rw[AT,q2],wzr3 p2,by rw[<-hn];exact q3⟩,by rw[aC];exact .refl _,trivial,by rw[aC];exact fun j hj=>hj,?_,CM.2 rfl,hA.ro _ _ ho,(fun _=>⟨st,_,ho,rfl,?_⟩),trivial⟩⟩
    ·rw[aC];refine⟨rfl,?_⟩;show OEq _ (ownO (B id st).ep c'.n c'.cA (l.set j.toNat e));rw[jzeu (by rw[It];omega)];rw[k3];exact .vec (by rw[It]) fun k hk=>wzwf k2 p1 k
    ·show(B id st).n=(l.set j.toNat e).length;rw[e4,It]
   ·cases h
  ·cases h
 ·rename_i id st off p _ _ h1 h2;have e1:ar x=.ptr id (B id st).ep off:=(hA.a _ _ h1).1;obtain⟨e2,p2,p3⟩:=hA.a _ _ h2;have p3:=p3 trivial;obtain⟨hp,ha⟩:=An h;obtain⟨q1,hb⟩:=An ha;obtain⟨q2,hc⟩:=An hb;clear h ha hb;obtain rfl:=Ao.1 q1;obtain rfl:=Ao.1 q2;obtain⟨r1,r2⟩:=wz9i (B:=B) hp;have aG:∀G,Ext T.nx B (upd B id T.nx G):=fun G=>GG
  have fin:∀{st'} {o0:TO} {cs:List Aa},Ad T.h id=some (st',o0)->hh id=.box (B id st').ep cs->cs.length=1->st=st'->K (.s .top) id (.ref p) true [id]=some r->VO B T ar hh (.store 1 x y) K r:=by
   intro st' o0 cs ho e3 hl aH hK;subst aH;have aC:(Al.store 1 x y).req ar hh=⟨(B id st).ep=(B id st).ep/\[eP B p].length=1/\Bl [eP B p]=true/\0+1<=cs.length,[id],.top,some (id,.box (B id st).ep (lay cs 0 [eP B p]))⟩:=by simp only[Al.req,C0,e1,e2,r1,e3]
   refine⟨_,_,_,_,_,(B id st).ep,B id st,hK,⟨trivial,by rw[aC];exact⟨rfl,rfl,r2,by rw[hl];exact AD _⟩,by rw[aC];exact .refl _,trivial,by rw[aC];exact fun j hj=>hj,?_,CM.2 rfl,hA.ro _ _ ho,(fun _=>⟨st,_,ho,rfl,rfl⟩),⟨E1 (E8 _) p2,E0 (aG _) p2 p3,hp⟩⟩⟩;rw[aC];refine⟨rfl,?_⟩;show OEq (.box (B id st).ep (lay cs 0 [eP B p])) (.box (B id st).ep [eP (upd B id T.nx _) p]);rw[Ez (aG _) p2,jzbs hl];exact .refl _
  split at hc
  ·rename_i st' cs ho;obtain⟨q3,hc⟩:=An hc;obtain⟨q4,hc⟩:=An hc;exact fin ho (hA.toAr.box ho) (by rw[AT];exact Ao.1 q4) (Ao.1 q3) hc
  ·rename_i st' p0 ho;obtain⟨q3,hc⟩:=An hc;exact fin (cs:=[eP B p0]) ho (hA.h _ _ _ ho).1 rfl (Ao.1 q3) hc
  ·cases hc
 ·cases h
theorem PB(hA:Hp B T ar hh){y:Ac}{q:PV}{c:CT}{l:List c.T}{rd:List Nat}(hq:argP T none y=some q)(h:srcS T c q=some (l,rd))(st:Nat):∃ok:Prop,ok/\Bq st (ar y) hh=⟨ok,rd,c.n,l.length,Az c.cA l⟩:=by
 have e:=(hA.a _ _ hq).1;unfold srcS at h;split at h
 ·rename_i c' l';split at h
  ·rename_i l2 h2;cases h;obtain⟨a,b,d,rfl⟩:=ER h2;have e:ar y=.slc c'.n l'.length (Az c'.cA l'):=e;refine⟨True,trivial,?_⟩;rw[e,<-b,<-d];rfl
  ·cases h
 ·rename_i id vst;have e:ar y=.vec id (B id vst).ep 0 (B id vst).n:=e;split at h
  ·rename_i st' c' l' ho;replace h:=An h;obtain⟨hb,h⟩:=h;obtain rfl:=Ao.1 hb;split at h
   ·rename_i l2 h2;cases h;obtain⟨a,b,d,rfl⟩:=ER h2;obtain⟨e3,e4,e5⟩:=hA.toAr.vec ho;refine⟨(B id vst).ep=(B id vst).ep/\0+(B id vst).n<=l'.length,⟨rfl,by rw[e4];omega⟩,?_⟩;rw[e];simp only[Bq,e3,e4,Dj,<-b,<-d]
   ·cases h
  ·cases h
 ·cases h
theorem wzs9[TabOk](hA:Hp B T ar hh){s st bytes:Nat}{x y:Ac}(hs:inR T.b s=true)(h:TN ty T s st bytes x y K=some r):VO B T ar hh (.append s st bytes x y) K r:=by
 unfold TN at h;split at h
 ·rename_i q h1 h2;have e1:ar x=.nils:=(hA.a _ _ h1).1;split at h
  ·rename_i a l rd cq;replace h:=An h;obtain⟨q1,h⟩:=h;replace h:=An h;obtain⟨q2,h⟩:=h;replace h:=An h;obtain⟨q3,h⟩:=h;replace h:=An h;obtain⟨q4,h⟩:=h;have q1:=Ao.1 q1;have q2:0<st:=by simpa [Hb] using q2
   have q3:=wzq5 q3;have q4:=FY q4;obtain⟨ok,aB,cn⟩:=PB hA h2 cq st;have aC:(Al.append s st bytes x y).req ar hh=⟨(hh s).plain/\ok/\(Bo s ty).n=st/\0<st/\0<(a :: l).length/\(a :: l).length*bytes<=140737488355328,s :: rd,.vec s ((hh s).ep+1) 0 (a :: l).length,some (s,.vec ((hh s).ep+1) st (a :: l).length (Az (Bo s ty).cA (a :: l)))⟩:=by simp only[Al.req,Ee,e1,cn];rw[Ak (by simp)]
   have hb:(a :: l).length*bytes<=140737488355328:=by have:(a :: l).length*bytes<=65*1000000:=Nat.mul_le_mul (by simp only[DL];omega) q4;omega
   refine⟨_,_,_,_,_,(hh s).ep+1,⟨0,0,fun _=>[]⟩,h,⟨Co _,by rw[aC];exact⟨hA.pl s hs,aB,q1,q2,by simp,hb⟩,?_,trivial,by rw[aC];exact fun j hj=>hj,?_,Be ..,hs,(fun e=>by cases e),trivial⟩⟩
   ·rw[aC];show VEq _ (match (upd B s T.nx _ s T.nx).n with | 0=>.nils | n+1=>.vec s (upd B s T.nx _ s T.nx).ep 0 (n+1));rw[B8];exact .refl _
   ·rw[aC];refine⟨rfl,?_⟩;show OEq _ (.vec ((hh s).ep+1) (Bo s ty).n (l.length+1) (Az (Bo s ty).cA (a :: l)));rw[q1];exact .refl _
  ·cases h
 ·rename_i id vst q h1 h2;have e1:=(hA.a _ _ h1).1;split at h
  ·rename_i st' c m ho;have e2:=(hA.h _ _ _ ho).1;have e3:=(hA.h _ _ _ ho).2;split at h
   ·rename_i l rd cq;replace h:=An h;obtain⟨q1,h⟩:=h;replace h:=An h;obtain⟨q2,h⟩:=h;replace h:=An h;obtain⟨q3,h⟩:=h;replace h:=An h;obtain⟨q4,h⟩:=h;obtain rfl:=Ao.1 q1;obtain rfl:=Ao.1 q2;have q3:=Ao.1 q3;have q4:0<st:=by simpa [Hb] using q4
    have h:Ab (memN id rd) none (ck (decide (List.length (m++l)*bytes<=140737488355328)) (K (.own id T.nx) id (.own c (m++l)) false (id :: rd)))=some r:=h
    have gy:memN id rd=false:=by
     cases hm:memN id rd
     ·rfl
     ·rw[hm]at h;cases h
    rw[gy]at h;have hk:=Ea (G:=none) h;have hb:(m++l).length*bytes<=140737488355328:=by simpa using hk.2 trivial
    obtain⟨ok,aB,cn⟩:=PB hA h2 cq st;have e1:ar x=match (B id vst).n with | 0=>.nils | n+1=>.vec id (B id vst).ep 0 (n+1):=e1
    rw[e3.1.1]at e1;have bF:=hA.toAr.ep ho;cases m with
    |nil =>
     have e1:ar x=.nils:=e1;have e2:hh id=.gone (B id vst).ep:=e2;cases l with
     |nil =>
      have aC:(Al.append id st bytes x y).req ar hh=⟨ok/\c.n=st,rd,.nils,none⟩:=(by simp only[Al.req,Ee,e1,cn];rfl);refine⟨_,_,_,_,_,(B id vst).ep,⟨0,0,fun _=>[]⟩,hk.1,⟨Co _,by rw[aC];exact⟨aB,q3⟩,?_,trivial,by rw[aC];exact fun j hj=>Bi _ hj,?_,Be ..,hA.ro _ _ ho,(fun e=>by cases e),trivial⟩⟩
      ·rw[aC];show VEq _ (match (upd B id T.nx _ id T.nx).n with | 0=>.nils | n+1=>.vec id (upd B id T.nx _ id T.nx).ep 0 (n+1));rw[B8];exact .refl _
      ·rw[aC];show OEq (hh id) (.gone (B id vst).ep);rw[e2];exact .refl _
     |cons a l =>
      have aC:(Al.append id st bytes x y).req ar hh=⟨(hh id).plain/\ok/\c.n=st/\0<st/\0<(a :: l).length/\(a :: l).length*bytes<=140737488355328,id :: rd,.vec id ((hh id).ep+1) 0 (a :: l).length,some (id,.vec ((hh id).ep+1) st (a :: l).length (Az c.cA (a :: l)))⟩:=(by simp only[Al.req,Ee,e1,cn];rw[Ak (by simp)]);refine⟨_,_,_,_,_,(hh id).ep+1,⟨0,0,fun _=>[]⟩,hk.1,⟨Co _,by rw[aC];exact⟨hA.pl id (hA.ro _ _ ho),aB,q3,q4,by simp,hb⟩,?_,trivial,by rw[aC];exact fun j hj=>hj,?_,Be ..,hA.ro _ _ ho,(fun e=>by cases e),trivial⟩⟩
      ·rw[aC];show VEq _ (match (upd B id T.nx _ id T.nx).n with | 0=>.nils | n+1=>.vec id (upd B id T.nx _ id T.nx).ep 0 (n+1));rw[B8];exact .refl _
      ·rw[aC];refine⟨rfl,?_⟩;show OEq _ (.vec ((hh id).ep+1) c.n (l.length+1) (Az c.cA (a :: l)));rw[q3];exact .refl _
    |cons z m =>
     have e1:ar x=.vec id (B id vst).ep 0 (m.length+1):=e1;have e2:hh id=.vec (B id vst).ep c.n (m.length+1) (Az c.cA (z :: m)):=e2;have aC:(Al.append id st bytes x y).req ar hh=⟨ok/\c.n=st/\(B id vst).ep=(B id vst).ep/\c.n=st/\0+(m.length+1)<=m.length+1/\((m.length+1)+l.length)*bytes<=140737488355328,id :: rd,.vec id ((B id vst).ep+1) 0 ((m.length+1)+l.length),some (id,.vec ((B id vst).ep+1) st ((m.length+1)+l.length) (fun k=>if k<m.length+1 then Az c.cA (z :: m) (0+k) else Az c.cA l (k-(m.length+1))))⟩:=(by simp only[Al.req,Ee,e1,cn,e2]);have aF:(m.length+1)+l.length=(m++l).length+1:=(by simp only[Dx];omega);refine⟨_,_,_,_,_,(B id vst).ep+1,⟨0,0,fun _=>[]⟩,hk.1,⟨Co _,by rw[aC];exact⟨aB,q3,rfl,q3,by omega,by rw[aF];simpa using hb⟩,?_,trivial,by rw[aC];exact fun j hj=>hj,?_,Be ..,hA.ro _ _ ho,(fun e=>by cases e),trivial⟩⟩
     ·rw[aC];show VEq _ (match (upd B id T.nx _ id T.nx).n with | 0=>.nils | n+1=>.vec id (upd B id T.nx _ id T.nx).ep 0 (n+1));rw[B8];show VEq (.vec id ((B id vst).ep+1) 0 ((m.length+1)+l.length)) (.vec id ((B id vst).ep+1) 0 ((m++l).length+1));rw[aF];exact .refl _
     ·rw[aC];refine⟨rfl,?_⟩;show OEq _ (.vec ((B id vst).ep+1) c.n ((m++l).length+1) (Az c.cA (z :: m++l)));rw[q3];exact .vec aF fun k _=>wzp3 (m:=z :: m) k
   ·cases h
  ·cases h
 ·rename_i id vst q h1 h2;have e1:ar x=.vec id (B id vst).ep 0 (B id vst).n:=(hA.a _ _ h1).1;split at h
  ·rename_i st' c m ho;split at h
   ·rename_i l rd cq;replace h:=An h;obtain⟨q1,h⟩:=h;replace h:=An h;obtain⟨q3,h⟩:=h;replace h:=An h;obtain⟨q4,h⟩:=h;obtain rfl:=Ao.1 q1;have q3:=Ao.1 q3;have q4:0<st:=by simpa [Hb] using q4
    have hk:=Ea (G:=none) h;have hb:(m++l).length*bytes<=140737488355328:=(by simpa using hk.2 trivial);obtain⟨ok,aB,cn⟩:=PB hA h2 cq st;obtain⟨e2,e3,e4⟩:=hA.toAr.vec ho;rw[e3]at e1;have aC:(Al.append s st bytes x y).req ar hh=⟨ok/\c.n=st/\(B id vst).ep=(B id vst).ep/\c.n=st/\0+m.length<=m.length/\(m.length+l.length)*bytes<=140737488355328,id :: rd,.vec id ((B id vst).ep+1) 0 (m.length+l.length),some (id,.vec ((B id vst).ep+1) st (m.length+l.length) (fun k=>if k<m.length then Az c.cA m (0+k) else Az c.cA l (k-m.length)))⟩:=(by simp only[Al.req,Ee,e1,cn,e2]);have aF:m.length+l.length=(m++l).length:=(by simp only[Dx]);refine⟨_,_,_,_,_,(B id vst).ep+1,⟨0,0,fun _=>[]⟩,hk.1,⟨Co _,by rw[aC];exact⟨aB,q3,rfl,q3,by omega,by rw[aF];exact hb⟩,?_,trivial,by rw[aC];exact fun j hj=>hj,?_,Be ..,hA.ro _ _ ho,(fun e=>by cases e),trivial⟩⟩
    ·rw[aC];show VEq _ (.vec id (upd B id T.nx _ id T.nx).ep 0 (upd B id T.nx _ id T.nx).n);rw[B8];show VEq (.vec id ((B id vst).ep+1) 0 (m.length+l.length)) (.vec id ((B id vst).ep+1) 0 (m++l).length);rw[aF];exact .refl _
    ·rw[aC];refine⟨rfl,?_⟩;show OEq _ (.vec ((B id vst).ep+1) c.n (m++l).length (Az c.cA (m++l)));rw[q3];exact .vec aF fun k _=>wzp3 k
   ·cases h
  ·cases h
 ·cases h
theorem wzu2[TabOk](hA:Hp B T ar hh){st0:Nat}{x y:Ac}(h:TP ty T st0 x y K=some r):VO B T ar hh (.copy st0 x y) K r:=by
 unfold TP at h;split at h
 ·rename_i id vst lo hi q h1 h2;have e1:ar x=.vec id (B id vst).ep lo.toNat (hi-lo).toNat:=(hA.a _ _ h1).1;split at h
  ·rename_i st' c m ho;split at h
   ·rename_i l rd hs;replace h:=An h;obtain⟨q1,h⟩:=h;replace h:=An h;obtain⟨q2,h⟩:=h;obtain rfl:=Ao.1 q1;have q2:=Ao.1 q2;have h:Ab (memN id rd) none (ck (Dv m lo hi) (K (.s (.int .i64 (min (List.length l) (Int.toNat (hi-lo)):Int))) id (.vec c (Ca m (Int.toNat lo) (List.take (Int.toNat (hi-lo)) l))) true (id :: rd)))=some r:=h
    have gy:memN id rd=false:=by
     cases hm:memN id rd
     ·rfl
     ·rw[hm]at h;cases h
    rw[gy]at h;have hk:=Ea (G:=none) h;obtain⟨k1,k2,k3⟩:=Qu (hk.2 trivial);obtain⟨ok,aB,cn⟩:=PB hA h2 hs c.n;obtain⟨e2,e3,e4⟩:=hA.toAr.vec ho;have aC:(Al.copy st0 x y).req ar hh=⟨ok/\c.n=c.n/\(B id vst).ep=(B id vst).ep/\lo.toNat+(hi-lo).toNat<=m.length/\st0=c.n,id :: rd,.int .i64 (min l.length (hi-lo).toNat:Nat),some (id,.vec (B id vst).ep c.n m.length (fun k=>if lo.toNat<=k/\k<lo.toNat+min l.length (hi-lo).toNat then Az c.cA l (k-lo.toNat) else Az c.cA m k))⟩:=by simp only[Al.req,Kb,e1,e2,cn]
    have hl:(List.take (hi-lo).toNat l).length=min l.length (hi-lo).toNat:=(by rw[Iu,Nat.min_comm]);have hp:(Ca m lo.toNat (List.take (hi-lo).toNat l)).length=m.length:=MA (by rw[hl];omega);refine⟨_,_,_,_,_,(B id vst).ep,B id vst,hk.1,⟨trivial,by rw[aC];exact⟨aB,rfl,rfl,by omega,q2.symm⟩,?_,trivial,by rw[aC];exact fun j hj=>hj,?_,Be ..,hA.ro _ _ ho,(fun _=>⟨vst,_,ho,rfl,?_⟩),trivial⟩⟩
    ·rw[aC];show VEq (.int .i64 ((min l.length (hi-lo).toNat:Nat):Int)) (.int .i64 (min (l.length:Int) ((hi-lo).toNat:Int)));rw[show((min l.length (hi-lo).toNat:Nat):Int)=min (l.length:Int) ((hi-lo).toNat:Int) by omega];exact .refl _
    ·rw[aC];refine⟨rfl,?_⟩;show OEq _ (.vec (B id vst).ep c.n (Ca m lo.toNat (List.take (hi-lo).toNat l)).length (Az c.cA (Ca m lo.toNat (List.take (hi-lo).toNat l))));refine .vec hp.symm fun k _=>wzsz (n:=min l.length (hi-lo).toNat) (by omega) hl (fun k hk=>?_) k;rw[qzfj (by omega)];exact .refl _
    ·show(B id vst).n=(Ca m lo.toNat (List.take (hi-lo).toNat l)).length;rw[hp,e3]
   ·cases h
  ·cases h
 ·cases h
theorem wztf[TabOk](hA:Hp B T ar hh){zero:List Aa}{x:Ac}(h:TQ ty T zero x K=some r):VO B T ar hh (.clear zero x) K r:=by
 unfold TQ at h;split at h
 ·rename_i z id vst lo hi hz h1;have e1:ar x=.vec id (B id vst).ep lo.toNat (hi-lo).toNat:=(hA.a _ _ h1).1;split at h
  ·rename_i st' c m ho;split at h
   ·rename_i e he;obtain⟨p1,p2⟩:=FN he;rw[GI hz]at p1 p2;replace h:=An h;obtain⟨q1,h⟩:=h;obtain rfl:=Ao.1 q1;have hk:=Ea (G:=none) h;obtain⟨k1,k2,k3⟩:=Qu (hk.2 trivial);obtain⟨e2,e3,e4⟩:=hA.toAr.vec ho;have aC:(Al.clear zero x).req ar hh=⟨(B id vst).ep=(B id vst).ep/\lo.toNat+(hi-lo).toNat<=m.length/\zero.length=c.n/\Bl zero=true,[id],.tup [],some (id,.vec (B id vst).ep c.n m.length (fun k=>if lo.toNat<=k/\k<lo.toNat+(hi-lo).toNat then zero else Az c.cA m k))⟩:=by simp only[Al.req,Kc,e1,e2]
    have hl:(List.replicate (hi-lo).toNat e).length=(hi-lo).toNat:=Gbw;have hp:(Ca m lo.toNat (List.replicate (hi-lo).toNat e)).length=m.length:=MA (by rw[hl];omega);refine⟨_,_,_,_,_,(B id vst).ep,B id vst,hk.1,⟨trivial,by rw[aC];exact⟨rfl,by omega,by rw[p1.at.1,J7],p2⟩,by rw[aC];exact .refl _,trivial,by rw[aC];exact fun j hj=>hj,?_,CM.2 rfl,hA.ro _ _ ho,(fun _=>⟨vst,_,ho,rfl,?_⟩),trivial⟩⟩
    ·rw[aC];refine⟨rfl,?_⟩;show OEq _ (.vec (B id vst).ep c.n (Ca m lo.toNat (List.replicate (hi-lo).toNat e)).length (Az c.cA (Ca m lo.toNat (List.replicate (hi-lo).toNat e))));refine .vec hp.symm fun k _=>wzsz (n:=(hi-lo).toNat) (src:=fun _=>zero) (by omega) hl (fun k hk=>?_) k;rw[kzl hk];exact p1
    ·show(B id vst).n=(Ca m lo.toNat (List.replicate (hi-lo).toNat e)).length;rw[hp,e3]
   ·cases h
  ·cases h
 ·cases h
theorem jzep[TabOk](hA:Hp B T ar hh){s:Nat}(hs:inR T.b s=true)(h:ZU ty T s K=some r):VO B T ar hh (.mkmap s) K r:=by refine⟨_,_,_,_,_,(hh s).ep+1,⟨0,0,fun _=>[]⟩,h,⟨Co _,hA.pl s hs,?_,trivial,fun j hj=>hj,⟨rfl,.refl _⟩,CM.2 rfl,hs,(fun e=>by cases e),trivial⟩⟩;show VEq (.mp s ((hh s).ep+1)) (.mp s (upd B s T.nx _ s T.nx).ep);rw[B8];exact .refl _
theorem jzgi[TabOk](hA:Hp B T ar hh){kd:Nat}{x k v:Ac}(h:TR ty T kd x k v K=some r):VO B T ar hh (.mupd kd x k v) K r:=by
 unfold TR at h;split at h
 ·rename_i id mst key val h1 h2 h3;have e1:ar x=.mp id (B id mst).ep:=(hA.a _ _ h1).1;have e2:ar k=A7 key:=(hA.a _ _ h2).1;have e3:ar v=A7 val:=(hA.a _ _ h3).1;split at h
  ·rename_i st' ck cv l ho;split at h
   ·rename_i a b ha hb;replace h:=An h;obtain⟨q1,h⟩:=h;replace h:=An h;obtain⟨q2,h⟩:=h;replace h:=An h;obtain⟨q3,h⟩:=h;obtain rfl:=Ao.1 q1;have e4:hh id=.amap (B id mst).ep (mEs ck cv l):=(hA.h _ _ _ ho).1;have e6:ar k=A7 (wT ck a):=e2.trans (TZ q2 ha);have hv:ar v=A7 (wT cv b):=e3.trans (Te hb q3);have bw:=(GM q2 a a).2;obtain⟨rr,f1,f2⟩:=P7 (v:=cv) q2 a l 0
    have g1:(Al.mupd kd x k v).req ar hh=⟨(B id mst).ep=(B id mst).ep/\(ar k).kkind=kd,[id],.top,some (id,.amap (B id mst).ep (mEs ck cv (mput (keq ck) l a b)))⟩:=by
     show F6 kd (ar x) (ar k) (ar v) hh=_;unfold F6;rcases f2 with ⟨rfl,_,g⟩|⟨j,y,rfl,_,g⟩
     ·simp only[e1,e4,e6,f1,hv,g]
     ·simp only[e1,e4,e6,f1,hv,g,Dj]
    refine⟨.s .top,id,.map ck cv (mput (keq ck) l a b),true,[id],(B id mst).ep,B id mst,h,⟨trivial,by rw[g1];exact⟨rfl,by rw[e6];exact bw⟩,by rw[g1];exact .refl .top,trivial,by rw[g1];exact fun j hj=>hj,by rw[g1];exact⟨rfl,.refl _⟩,CM.2 rfl,hA.ro id (mst,.map ck cv l) ho,(fun _=>⟨mst,.map ck cv l,ho,rfl,rfl⟩),trivial⟩⟩
   ·cases h
  ·cases h
 ·cases h
theorem jzea[TabOk]{c:CT}{n:Nat}(h:isK c n=true)(a:c.T):keq c a a=true:=by have:=(GM h a a).1;generalize A7 (wT c a)=x at this;cases x<;>simp only[BU]at this<;>(try (cases this;done));all_goals first|exact wz7r this|simpa using this.symm
theorem jzbz[TabOk]{k v:CT}{n:Nat}(hk:isK k n=true)(a:k.T):∀(l:List (k.T×v.T)) (i:Nat) {q:Nat} {w:Aa},AH (A7 (wT k a)) (mEs k v l) i=some (some (q,w))->q=i+midx (keq k) l a
 |[],i,q,w,h=>by cases h
 |p :: l,i,q,w,h=>by
  have e:AH (A7 (wT k a)) (mEs k v (p :: l)) i=(match BU (A7 (wT k a)) (A7 (wT k p.1)) with | some true=>some (some (i,A7 (wT v p.2))) | some false=>AH (A7 (wT k a)) (mEs k v l) (i+1) | none=>none):=rfl;rw[e,(GM hk a p.1).1]at h;cases hq:keq k a p.1 with
  |true =>simp only[hq,AZ,De]at h;obtain⟨h,_⟩:=h;subst h;show i=i+(match keq k a p.1 with | true=>0 | false=>midx (keq k) l a+1);rw[hq];rfl
  |false =>simp only[hq]at h;have:=jzbz hk a l (i+1) h;show q=i+(match keq k a p.1 with | true=>0 | false=>midx (keq k) l a+1);rw[hq];simp only;omega
theorem jzcg[TabOk]{k v:CT}{n:Nat}(hk:isK k n=true)(a:k.T):∀(l:List (k.T×v.T)) (i:Nat),AH (A7 (wT k a)) (mEs k v l) i=some none->midx (keq k) l a=l.length
 |[],i,h=>rfl
 |p :: l,i,h=>by
  have e:AH (A7 (wT k a)) (mEs k v (p :: l)) i=(match BU (A7 (wT k a)) (A7 (wT k p.1)) with | some true=>some (some (i,A7 (wT v p.2))) | some false=>AH (A7 (wT k a)) (mEs k v l) (i+1) | none=>none):=rfl;rw[e,(GM hk a p.1).1]at h;cases hq:keq k a p.1 with
  |true=>simp[hq]at h
  |false =>simp only[hq]at h;have:=jzcg hk a l (i+1) h;show(match keq k a p.1 with | true=>0 | false=>midx (keq k) l a+1)=_;rw[hq];simp only[this,DL]
theorem jzhk[TabOk](hA:Hp B T ar hh){kd:Nat}{zero:Aa}{x k:Ac}(h:TS ty T kd zero x k K=some r):VO B T ar hh (.ment kd zero x k) K r:=by
 unfold TS at h;split at h
 ·rename_i id mst key z h1 h2 h3;have e1:ar x=.mp id (B id mst).ep:=(hA.a _ _ h1).1;have e2:ar k=A7 key:=(hA.a _ _ h2).1;have e3:=HW h3;split at h
  ·rename_i st' ck cv l ho;split at h
   ·rename_i a d ha hd;replace h:=An h;obtain⟨q1,h⟩:=h;replace h:=An h;obtain⟨q2,h⟩:=h;replace h:=An h;obtain⟨q3,h⟩:=h;obtain rfl:=Ao.1 q1;have e4:hh id=.amap (B id mst).ep (mEs ck cv l):=(hA.h _ _ _ ho).1;have e6:ar k=A7 (wT ck a):=e2.trans (TZ q2 ha);have hz:zero=A7 (wT cv d):=e3.symm.trans (Te hd q3);have bw:=(GM q2 a a).2;have gr:BU (A7 (wT ck a)) (A7 (wT ck a))=some true:=by rw[(GM q2 a a).1,jzea q2]
    obtain⟨rr,f1,f2⟩:=P7 (v:=cv) q2 a l 0
    have g1:(Al.ment kd zero x k).req ar hh=⟨(B id mst).ep=(B id mst).ep/\(ar k).kkind=kd/\BU (ar k) (ar k)=some true,[id],.tup [A7 (wT cv (Option.getD (mget (keq ck) l a) d)),.int .i64 ((midx (keq ck) l a:Nat):Int)],some (id,.amap (B id mst).ep (mEs ck cv (mput (keq ck) l a (Option.getD (mget (keq ck) l a) d))))⟩:=by
     show F7 kd zero (ar x) (ar k) hh=_;unfold F7;rcases f2 with ⟨rfl,g0,g⟩|⟨j,y,rfl,g0,g⟩
     ·have hm:=jzcg q2 a l 0 f1;have hl:(mEs ck cv l).length=l.length:=Fy ..;simp only[e1,e4,e6,f1,g,g0,hm,hl,hz,Option.getD_none]
     ·have hm:=jzbz q2 a l 0 f1;simp only[e1,e4,e6,f1,g,g0,Dj]at hm ⊢;rw[hm];simp only[Nz]
    refine⟨_,id,.map ck cv (mput (keq ck) l a (Option.getD (mget (keq ck) l a) d)),true,[id],(B id mst).ep,B id mst,h,⟨trivial,by rw[g1];exact⟨rfl,by rw[e6];exact bw,by rw[e6];exact gr⟩,by rw[g1];exact .refl _,trivial,by rw[g1];exact fun j hj=>hj,by rw[g1];exact⟨rfl,.refl _⟩,CM.2 rfl,hA.ro id (mst,.map ck cv l) ho,(fun _=>⟨mst,.map ck cv l,ho,rfl,rfl⟩),trivial⟩⟩
   ·cases h
  ·cases h
 ·cases h
theorem jzbv{k v:CT}(b:v.T):∀(l:List (k.T×v.T)) (n:Nat),n<l.length->mEs k v (mset l n b)=(mEs k v l).set n (((mEs k v l).getD n (.top,.top)).1,A7 (wT v b))
 |[],n,h=>by simp at h
 |p :: l,0,h=>rfl
 |p :: l,n+1,h=>by have:=jzbv (k:=k) b l n (by simpa using h);show _ :: mEs k v (mset l n b)=_;rw[this];rfl
theorem jzg2[TabOk](hA:Hp B T ar hh){x st v:Ac}(h:TT ty T x st v K=some r):VO B T ar hh (.mest x st v) K r:=by
 unfold TT at h;split at h
 ·rename_i id mst kk n val h1 h2 h3;have e1:ar x=.mp id (B id mst).ep:=(hA.a _ _ h1).1;have e2:ar st=.int kk n:=(hA.a _ _ h2).1;have e3:ar v=A7 val:=(hA.a _ _ h3).1;split at h
  ·rename_i st' ck cv l ho;split at h
   ·rename_i b hb;replace h:=An h;obtain⟨q1,h⟩:=h;replace h:=An h;obtain⟨q3,h⟩:=h
    have q4:IY l n=true:=by
     cases cw:IY l n with
     |true=>rfl
     |false=>rw[cw]at h;cases h
    rw[q4]at h;replace h:K (.s .top) id (.map ck cv (mset l n.toNat b)) true [id]=some r:=h;obtain rfl:=Ao.1 q1;simp only[IY,AE,CO]at q4;obtain⟨q5,q6⟩:=q4;have e4:hh id=.amap (B id mst).ep (mEs ck cv l):=(hA.h _ _ _ ho).1;have hv:ar v=A7 (wT cv b):=e3.trans (Te hb q3);have hl:(mEs ck cv l).length=l.length:=Fy ..;have g1:(Al.mest x st v).req ar hh=⟨(B id mst).ep=(B id mst).ep/\0<=n/\n<(mEs ck cv l).length,[id],.top,some (id,.amap (B id mst).ep (mEs ck cv (mset l n.toNat b)))⟩:=by show I1 (ar x) (ar st) (ar v) hh=_;unfold I1;simp only[e1,e2,e4,hv,jzbv (k:=ck) b l n.toNat (by omega)]
    refine⟨.s .top,id,.map ck cv (mset l n.toNat b),true,[id],(B id mst).ep,B id mst,h,⟨trivial,by rw[g1];exact⟨rfl,q5,by rw[hl];exact q6⟩,by rw[g1];exact .refl .top,trivial,by rw[g1];exact fun j hj=>hj,by rw[g1];exact⟨rfl,.refl _⟩,CM.2 rfl,hA.ro id (mst,.map ck cv l) ho,(fun _=>⟨mst,.map ck cv l,ho,rfl,rfl⟩),trivial⟩⟩
   ·cases h
  ·cases h
 ·cases h
theorem wzwc[TabOk](hA:Hp B T ar hh){o:Al}(hs:Ps T.b o=true)(h:opO ty T o K=some r):VO B T ar hh o K r:=by
 cases o<;>simp only[opO]at h<;>first
  |(cases h;done)
  |exact wzto hA hs h | exact wzv6 hA hs h | exact wzss hA hs h | exact wzv8 hA hs h | exact wzwh hA hs h | exact wztz hA h | exact wzs9 hA hs h | exact wzu2 hA h | exact wztf hA h | exact jzep hA hs h | exact jzgi hA h | exact jzhk hA h | exact jzg2 hA h
end
end
end Go.Am

