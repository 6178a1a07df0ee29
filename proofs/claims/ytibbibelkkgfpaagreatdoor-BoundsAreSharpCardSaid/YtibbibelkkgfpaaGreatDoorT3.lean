/- Part T3: a typed interpreter of abstract code, proved sound over the machine. No condition. -/
import Derived.Test.YtibbibelkkgfpaaGreatDoorT1
set_option linter.unusedSimpArgs false
set_option linter.unusedVariables false
namespace Go.Am
variable {n tg nx e id st i j:Nat}{a:Ae}{b c want g w re:Bool}{d:Option Tmp}{t:List Aa}{S:Au}{v v':Aa}{rd:List Nat}{α Y:Type}{hh h:Aq}{f:FuncId}{ds:List (Nat×Nat)}{E:Nat->Aa}{P:Program}
theorem qzr0{m m':List (Nat×Aa)}(h:∀i,i<n->look m i=look m' i):tl m n=tl m' n:=by unfold tl;exact H8 fun i hi=>h i (Jr.1 hi)
section
theorem qzp4{a:Bool}:eqB a b=true↔a=b:=by cases a<;>cases b<;>decide
theorem wzqb{d:Bool}{x:Aa}(h:unc c x):unc (c&&d) x:=by cases x<;>simp only[unc]at h |-;intro e;simp only[AI]at e;exact h e.1
theorem wzbf(h:∀n,a=.t n->unc c (t.getD n .top)):BT c t [a]:=by
 cases a with
 |t n=>exact⟨h n rfl,trivial⟩
 |c v=>exact trivial
 |g i=>exact trivial
theorem qzqx{o:Ak}{out:Option (Nat×Ad)}(hg:o.guard=none)(hc:o.op.isCall=false)(h1:(o.op.req (Ah E S.t) S.h).ok)(h2:VEq (o.op.req (Ah E S.t) S.h).v v)(h3:∀j∈(o.op.req (Ah E S.t) S.h).rd,j∈rd)(h4:OutW S.h (o.op.req (Ah E S.t) S.h).out out) (h5:∀i ob,out=some (i,ob)->i∈rd):Bp E P o S v rd out:=by
 unfold Bp;rw[hg]
 cases aT:o.op<;>rw[aT]at hc h1 h2 h3 h4<;>first
  |(cases hc;done)
  |exact⟨h1,h2,h3,h4,h5⟩
theorem wzac{o:Ak}{x:Aa}(hg:o.guard=some (tg,want))(hc:o.op.isCall=false)(h0:HC (S.t.getD tg .top) want=some c)(hq:o.op.quiet=true)(h:c=true->o.op.unAll E c S.t/\(o.op.req (argU E S.t) S.h).ok/\VEq (o.op.req (argU E S.t) S.h).v x/\∀j∈(o.op.req (argU E S.t) S.h).rd,j∈rd):Bp E P o S (.cnd c x) rd none:=by
 unfold Bp;rw[hg];refine⟨c,x,h0,rfl,rfl,?_⟩
 cases aT:o.op<;>rw[aT]at hc hq h<;>first
  |(cases hc;done)
  |exact⟨hq,h⟩
theorem qzxe{o:Ao}(h:Hh o=true):o.isCall=false:=by cases o<;>first|rfl|cases h
end
section
variable [Tab]
structure Fd(U:Phi)(T:Av)(U':Phi)(T':Av):Prop where
 b:T'.b=T.b
 le:T.rf<=T'.rf
 sr:50<=T.rf->T'.rf=T.rf
 wo:1899∉T'.wo->1899∉T.wo
 hy:Aw T.h 1899≠none->Aw T'.h 1899≠none
 rg:∀i,inR T.b i=true->U'.X i=U.X i
 eq:T'.rf=T.rf->T.b=0\/(1899∉T'.wo/\Aw T.h 1899≠none)->U'.X=U.X/\U'.ds=U.ds
theorem Fd.refl(U:Phi)(T:Av):Fd U T U T:=⟨rfl,AA _,fun _=>rfl,id,id,fun _ _=>rfl,fun _ _=>⟨rfl,rfl⟩⟩
theorem Fd.same{U U':Phi}{T T':Av}(hb:T'.b=T.b)(hr:T'.rf=T.rf)(hw:1899∉T'.wo->1899∉T.wo)(hX:U'.X=U.X)(hd:U'.ds=U.ds)(hy:Aw T.h 1899≠none->Aw T'.h 1899≠none):Fd U T U' T' := ⟨hb,by rw[hr];exact AA _,fun _=>hr,hw,hy,fun _ _=>by rw[hX],fun _ _=>⟨hX,hd⟩⟩
theorem Fd.trans{U U' U'':Phi}{T T' T'':Av}(h:Fd U T U' T')(k:Fd U' T' U'' T''):Fd U T U'' T'':=by refine⟨k.b.trans h.b,AU h.le k.le,fun e=>(k.sr (by rw[h.sr e];exact e)).trans (h.sr e),fun e=>h.wo (k.wo e),fun e=>k.hy (h.hy e),fun i e=>(k.rg i (by rw[h.b];exact e)).trans (h.rg i e),fun e e2=>?_⟩;have h1:=h.le;have h2:=k.le;obtain⟨c,d⟩:=k.eq (by omega) (e2.imp (fun e=>h.b.trans e) fun e=>⟨e.1,h.hy e.2⟩);obtain⟨a,b⟩:=h.eq (by omega) (e2.imp id fun e=>⟨k.wo e.1,e.2⟩);exact⟨c.trans a,d.trans b⟩
theorem Fr.of{U U':Phi}{T T':Av}(h:Fr U T)(hb:T'.b=T.b)(hr:T'.rf=T.rf)(hX:U'.X=U.X)(hd:U'.ds=U.ds)(hc:U'.c=U.c)(ho:∀id p,Aw T'.h id=some p->inR T.b id=true):Fr U' T' :=
 ⟨fun id p e=>by rw[hb];exact ho id p e,fun i e=>by rw[hX];exact h.rx i (by rw[<-hb];exact e),fun i e1 e2=>by rw[hX];exact h.rz i (by rw[<-hb,<-hr];exact e1) (by rw[<-hb];exact e2),fun D hD=>by rw[hX,hb,hr];exact h.dd D (by rw[<-hd];exact hD),
  fun e1 e2=>by rw[hX];exact h.ry (by rw[<-hb];exact e1) (by rw[<-hr];exact e2),trivial,trivial⟩
theorem Fr.ofh{U U':Phi}{T T':Av}(h:Fr U T)(hb:T'.b=T.b)(hr:T'.rf=T.rf)(hX:U'.X=U.X)(hd:U'.ds=U.ds)(hc:U'.c=U.c)(hh:T'.h=T.h):Fr U' T' :=
 h.of hb hr hX hd hc (fun id p e=>h.ro id p (by rw[<-hh];exact e))
structure Log(U:Phi)(T:Av)(U':Phi)(T':Av):Prop where
 n:T'.n=T.n
 nx:T.nx<=T'.nx
 ext:Ext T.nx U U'
 sl:∀i,i∉T'.w->i∉T.w/\eT U' (Az T'.t i)=eT U (Az T.t i)
 ob:∀i,i∉T'.wo->i∉T.wo/\(inR T.b i=true->hO U' i (Aw T'.h i)=hO U i (Aw T.h i))
 fr:Fd U T U' T'
theorem Log.refl(U:Phi)(T:Av):Log U T U T:=⟨rfl,AA _,.refl _ _,fun i h=>⟨h,rfl⟩,fun i h=>⟨h,fun _=>rfl⟩,.refl _ _⟩
theorem Log.trans{U U' U'':Phi}{T T' T'':Av}(h:Log U T U' T')(k:Log U' T' U'' T''):Log U T U'' T'' := ⟨k.n.trans h.n,AU h.nx k.nx,h.ext.trans k.ext h.nx,fun i hi=>⟨(h.sl i (k.sl i hi).1).1,(k.sl i hi).2.trans (h.sl i (k.sl i hi).1).2⟩,fun i hi=>⟨(h.ob i (k.ob i hi).1).1,fun e=>((k.ob i hi).2 (by rw[h.fr.b];exact e)).trans ((h.ob i (k.ob i hi).1).2 e)⟩,h.fr.trans k.fr⟩
def TV.pv:TV->PV
 |.v x=>x
 |.cnd _ _ _ x=>x
theorem NL{U:Phi}{T:Av}{x:TV}(h:TOk U T x):StP T.nx x.pv:=by cases x<;>exact h.1
theorem Jg{U U':Phi}(h:Ext nx U U'){x:TV}(hx:StP nx x.pv):eT U' x=eT U x:=by
 cases x with
 |v x=>exact Je h hx
 |cnd a b c x=>show Aa.cnd c (eP U' x)=.cnd c (eP U x);rw[Je h (x:=x) hx]
theorem NM{U U':Phi}(h:Ext nx U U'){o:TO}(hr:RfO U nx o):eO U' e o=eO U e o:=by
 cases o with
 |_=>rfl
theorem qzm2{U U':Phi}{m:Nat}(h:Ext nx U U')(hm:nx<=m){o:TO}(hr:RfO U nx o):RfO U' m o:=by
 cases o with
 |_=>trivial
theorem Sb{U U':Phi}(h:Ext nx U U')(hs:st<nx){o:TO}(k:OkO (U id st) o):OkO (U' id st) o:=by rw[h.s _ _ hs];exact k
section
variable {U:Phi}{T:Av}
theorem Ew(hI:InvT U T)(n:Nat):(em U T).t.getD n .top=eT U (Az T.t n):=em_t hI n
theorem Jh{tg':Nat}{want' g':Bool}{x y:PV}(hl:Az T.t n=.cnd tg want g x)(h:argP T (some (tg',want',g')) (.t n)=some y):tg=tg'/\want=want'/\x=y:=by
 simp only[argP,hl]at h;cases h1:Nat.beq tg tg'<;>rw[h1]at h
 ·cases h
 ·cases h2:eqB want want'<;>rw[h2]at h;·cases h
  ·cases h;exact⟨AN.1 h1,qzp4.1 h2,rfl⟩
theorem FT(hI:InvT U T):Ar U T none (Ah TabT.E (em U T).t) (em U T).h:=by
 refine⟨fun a x h=>?_,fun id st o h=>⟨Hm h,(hI.ob _ _ _ h).2⟩⟩;cases a with
 |t n =>
  have e:Ah TabT.E (em U T).t (.t n)=eT U (Az T.t n):=Ew hI n;have hs:=hI.sl n;cases hl:Az T.t n with
  |v y =>simp only[argP,hl]at h;cases h;rw[hl]at e hs;exact⟨e,hs.1,fun _=>hs.2⟩
  |cnd a b c y=>simp only[argP,hl]at h;cases h
 |c v =>
  simp only[argP]at h;split at h
  ·rename_i w hw;cases h;exact⟨(KM hw).symm,trivial,fun _=>trivial⟩
  ·cases h
 |g i=>cases h
theorem qz7z(hI:InvT U T)(hb:gdT want (Az T.t tg)=some b):Ar U T (some (tg,want,b)) (argU TabT.E (em U T).t) (em U T).h:=by
 refine⟨fun a x h=>?_,fun id st o h=>⟨Hm h,(hI.ob _ _ _ h).2⟩⟩;cases a with
 |t n =>
  have e:argU TabT.E (em U T).t (.t n)=unv (eT U (Az T.t n)):=by show unv ((em U T).t.getD n .top)=_;rw[Ew hI n]
  have hs:=hI.sl n;cases hl:Az T.t n with
  |v y =>simp only[argP,hl]at h;cases h;rw[hl]at e hs;exact⟨e.trans (KO _),hs.1,fun _=>hs.2⟩
  |cnd a b' c y =>obtain⟨rfl,rfl,rfl⟩:=Jh hl h;rw[hl]at e hs;obtain⟨k1,k2,k3,k4⟩:=hs;rw[hb]at k4;cases k4;exact⟨e,k1,fun ha=>k2 ha⟩
 |c v =>
  simp only[argP]at h;split at h
  ·rename_i w hw;cases h;exact⟨(KM hw).symm,trivial,fun _=>trivial⟩
  ·cases h
 |g i=>cases h
theorem wzk2{x:TV}(h:gdT want x=some g)(hx:∃c,(c=true->eT U x=.bool b)/\eT U x=.bool b):g=Ac want b (!b):=by
 obtain⟨_,_,hx⟩:=hx;cases x with
 |v y =>
  cases y with
  |s v=>cases v with
   |bool b'=>cases hx;cases h;rfl
   |_=>cases h
  |_=>cases h
 |cnd a c d y=>cases hx
theorem wzpo(hI:InvT U T):Pk U T (Ah TabT.E (em U T).t):=by
 intro a n w b x h hb;have hb:(em U T).t.getD n .top=.bool b:=hb;rw[Ew hI]at hb;cases a with
 |t m =>
  have e:Ah TabT.E (em U T).t (.t m)=eT U (Az T.t m):=Ew hI m;have hs:=hI.sl m;cases hl:Az T.t m with
  |v y =>simp only[argP,hl]at h;cases h;rw[e,hl];exact⟨KO _,KP _ _⟩
  |cnd a b' c y =>obtain⟨rfl,rfl,rfl⟩:=Jh hl h;rw[e,hl];rw[hl]at hs;obtain⟨k1,k2,k3,k4⟩:=hs;have:=wzk2 (U:=U) k4 (b:=b) ⟨true,fun _=>hb,hb⟩;exact⟨rfl,fun e=>this.trans e⟩
 |c v =>
  simp only[argP]at h;split at h
  ·rename_i w hw;cases h;have:Ah TabT.E (em U T).t (.c v)=A6 w:=(KM hw).symm;rw[this];exact⟨Rl _,Rm _ _⟩
  ·cases h
 |g i=>cases h
theorem wzrm(hI:InvT U T):Pk U T (argU TabT.E (em U T).t):=by
 intro a n w b x h hb;cases a with
 |t m =>
  have e:argU TabT.E (em U T).t (.t m)=unv (eT U (Az T.t m)):=by show unv ((em U T).t.getD m .top)=_;rw[Ew hI m]
  have key:argU TabT.E (em U T).t (.t m)=eP U x:=by
   cases hl:Az T.t m with
   |v y =>simp only[argP,hl]at h;cases h;rw[e,hl];exact KO _
   |cnd a b' c y =>obtain⟨rfl,rfl,rfl⟩:=Jh hl h;rw[e,hl];rfl
  rw[key];exact⟨KO _,KP _ _⟩
 |c v =>
  simp only[argP]at h;split at h
  ·rename_i w hw;cases h;have:argU TabT.E (em U T).t (.c v)=A6 w:=(KM hw).symm;rw[this];exact⟨Rl _,Rm _ _⟩
  ·cases h
 |g i=>cases h
theorem qz9f(hI:InvT U T){x:PV}(hb:gdT want (Az T.t tg)=some b)(h:argP T (some (tg,want,b)) (.t n)=some x):unc b ((em U T).t.getD n .top):=by
 rw[Ew hI];have hs:=hI.sl n;cases hl:Az T.t n with
 |v y=>exact KP _ _
 |cnd a b' c y =>obtain⟨rfl,rfl,rfl⟩:=Jh hl h;rw[hl]at hs;obtain⟨k1,k2,k3,k4⟩:=hs;rw[hb]at k4;cases k4;exact fun e=>e
theorem Sc(hI:InvT U T){tg:Nat}{want b:Bool}(hb:gdT want (Az T.t tg)=some b):∀{l:List Ae},allA T (some (tg,want,b)) l=true->BT b (em U T).t l
 |[],_=>trivial
 |a :: l,h=>by
  simp only[allA]at h;split at h
  ·rename_i x hx;have ih:=Sc hI hb h;cases a with
   |t n=>exact⟨qz9f hI hb hx,ih⟩
   |c v=>exact ih
   |g i=>exact ih
  ·cases h
theorem NN(hI:InvT U T){x:PV}(hg:gdT want (Az T.t tg)=some g)(hb:argP T (some (tg,want,g)) (.t n)=some (.s (.bool b)))(h:Jc T (some (tg,want,g)) n w a=some x):BT (g&&Ac w b (!b)) (em U T).t [a]:=by
 refine wzbf fun m e=>?_;subst e;have h:(match argP T (some (tg,want,g)) (.t m) with | some p=>some p | none=>argP T (some (n,w,w)) (.t m))=some x:=h;split at h
 ·rename_i p hp;exact wzqb (qz9f hI hg hp)
 ·rw[Ew hI];have hs:=hI.sl m;cases hl:Az T.t m with
  |v y=>exact KP _ _
  |cnd a b' c y =>
   obtain⟨rfl,rfl,rfl⟩:=Jh hl h;rw[hl]at hs;obtain⟨k1,k2,k3,k4⟩:=hs
   have hc:g=true->c=Ac b' b (!b):=by
    intro e;have hn:=hI.sl a;revert hb k4;cases cu:Az T.t a with
    |v y =>intro hb k4;simp only[argP,cu]at hb;cases hb;cases k4;rfl
    |cnd a2 b2 c2 y2 =>intro hb k4;obtain⟨rfl,rfl,rfl⟩:=Jh cu hb;rw[cu]at hn;obtain⟨q1,q2,q3,q4⟩:=hn;rw[hg]at q4;cases q4;have k4:some (g&&Ac b' b (!b))=some c:=k4;cases k4;rw[e,Td]
   intro e;simp only[AI]at e;rw[hc e.1];exact e.2
theorem wzks[TabOk](hI:InvT U T){H:List Fe}{ty:List (Nat×CT)}{K:PV->List Nat->Option α}{r:α}{o:Ao}(hg:gdT want (Az T.t tg)=some g)(dh:allO T (some (tg,want,g)) o=true)(h:opV H ty T (some (tg,want,g)) o K=some r):o.unAll TabT.E g (em U T).t:=by
  cases o<;>first
    |exact Sc hI hg dh
    | (rename_i c x y
       replace h:KG H T (some (tg,want,g)) c x y K=some r:=h;unfold KG at h;split at h
       · rename_i n
         split at h
         · rename_i b hb
           have e0:argU TabT.E (em U T).t (.t n)=.bool b:=((qz7z hI hg).a _ _ hb).1;show BT g (em U T).t [.t n]/\(match argU TabT.E (em U T).t (.t n) with | .bool b=>BT (g&&b) (em U T).t [x]/\BT (g&&!b) (em U T).t [y] | _=>False);rw[e0];refine⟨Sc hI hg dh,?_⟩;split at h
           · rename_i p q hp hq
             exact⟨NN (w:=true) hI hg hb hp,NN (w:=false) hI hg hb hq⟩
           · rename_i k p k' q hp hq
             exact⟨NN (w:=true) hI hg hb hp,NN (w:=false) hI hg hb hq⟩
           · cases h
         · cases h
       · cases h)
def GK(T T':Av):Prop:=∀g,memN g T.gs=true->memN g T'.gs=true/\∀w,gdT w (Az T'.t g)=gdT w (Az T.t g)
structure Step(U:Phi)(T:Av)(o:Ak)(U':Phi)(T':Av)(rd:List Nat)(out:Option Nat):Prop where
 inv:InvT U' T'
 log:Log U T U' T'
 gk:GK T T'
 ex:∃v ob,Bp TabT.E TabT.P o (em U T) v rd ob/\out=ob.map (·.1)/\em U' T'=⟨putT (em U T).t o.dst v,putH (em U T).h ob,U.ds⟩
theorem wzdl{T:Av}{d:Nat}(h:Eu T (some d)=true):d<T.n/\memN d T.gs=false:=by
 have h:Ac (Nat.blt d T.n) (!memN d T.gs) false=true:=h;cases h1:Nat.blt d T.n<;>rw[h1]at h
 ·cases h
 ·exact⟨by simpa [Gu] using h1,by rw[IQ]at h;simpa using h⟩
theorem Hr{x:TV}:em U (putS T d x)=⟨putT (em U T).t d (eT U x),(em U T).h,U.ds⟩:=by
 cases d with
 |none=>rfl
 |some d =>show Au.mk (tl ((d,eT U x) :: eTm U T.t) T.n) (em U T).h U.ds=⟨(tl (eTm U T.t) T.n).set d (eT U x),(em U T).h,U.ds⟩;rw[UI]
theorem qznk{U:Phi}{T T':Av}{x:TV}(h:TOk U T x)(hn:T.nx<=T'.nx)(hg:∀g,memN g T.gs=true->memN g T'.gs=true/\Az T'.t g=Az T.t g):TOk U T' x:=by
 cases x with
 |v x=>exact⟨FQ hn h.1,h.2⟩
 |cnd a b c x =>obtain⟨k1,k2,k3,k4⟩:=h;exact⟨FQ hn k1,k2,(hg _ k3).1,by rw[(hg _ k3).2];exact k4⟩
theorem Ff(hI:InvT U T){x:TV}(hd:Eu T d=true)(hx:TOk U T x):InvT U (putS T d x):=by
 cases d with
 |none=>exact hI
 |some d =>
  obtain⟨h1,h2⟩:=wzdl hd;have hm:∀y,TOk U T y->TOk U (putS T (some d) x) y:=fun y hy=>qznk hy (AA _) fun g hg=>⟨hg,by show Az ((d,x) :: T.t) g=_;rw[Bt,Ag (fun e=>by simp only at e;subst e;rw[hg]at h2;cases h2)]⟩;refine⟨fun i=>?_,fun i hi=>?_,hI.ob,hI.fr.ofh rfl rfl rfl rfl rfl rfl⟩
  ·show TOk U _ (Az ((d,x) :: T.t) i);rw[Bt];split
   ·exact hm _ hx
   ·exact hm _ (hI.sl i)
  ·show Az ((d,x) :: T.t) i=_;have hi:T.n<=i:=hi;rw[Bt,Ag (by simp only;omega)];exact hI.hi i hi
theorem NO{x:TV}:Log U T U (putS T d x):=by
 cases d with
 |none=>exact .refl _ _
 |some d =>refine⟨rfl,AA _,.refl _ _,fun i hi=>?_,fun i hi=>⟨hi,fun _=>rfl⟩,.same rfl rfl id rfl rfl id⟩;have hi:i∉d :: T.w:=hi;simp only[AV,DQ]at hi;refine⟨hi.2,?_⟩;show eT U (Az ((d,x) :: T.t) i)=_;rw[Bt,Ag (fun e=>hi.1 e.symm)]
theorem Sd(hI:InvT U T)(tg:Nat):InvT U (addG T tg):=by refine⟨fun i=>qznk (hI.sl i) (AA _) fun g hg=>⟨?_,rfl⟩,hI.hi,hI.ob,hI.fr.ofh rfl rfl rfl rfl rfl rfl⟩;show memN g (tg :: T.gs)=true;exact Hl.2 (AR _ (Hl.1 hg))
theorem qzjc(tg:Nat):Log U T U (addG T tg):=⟨rfl,AA _,.refl _ _,fun i hi=>⟨hi,rfl⟩,fun i hi=>⟨hi,fun _=>rfl⟩,.same rfl rfl id rfl rfl id⟩
theorem qzq6(hI:InvT U T)(hb:gdT want (Az T.t tg)=some b):HC ((em U T).t.getD tg .top) want=some b:=by
 rw[Ew hI];revert hb;cases Az T.t tg with
 |v y =>
  cases y with
  |s v=>cases v with
   |bool b'=>intro h;cases h;cases want<;>rfl
   |_=>intro h;cases h
  |_=>intro h;cases h
 |cnd a c d y =>
  cases y with
  |s v=>cases v with
   |bool b'=>intro h;cases h;cases want<;>rfl
   |_=>intro h;cases h
  |_=>intro h;cases h
theorem Se{id st nx:Nat}:∀{l:List (Nat×TV)} {i:Nat},Az (Hk id st nx l) i=(match Az l i with | .v x=>.v (EZ id st nx x) | y=>y)
 |[],i=>rfl
 |(j,.v x) :: l,i=>by
  show Az ((j,.v (EZ id st nx x)) :: Hk id st nx l) i=_;rw[Bt,Bt];split
  ·rfl
  ·exact Se
 |(j,.cnd a b c x) :: l,i=>by
  show Az ((j,.cnd a b c x) :: Hk id st nx l) i=_;rw[Bt,Bt];split
  ·rfl
  ·exact Se
theorem qz6e{x:PV}:gdT w (.v (EZ id st nx x))=gdT w (.v x):=by
 cases x with
 |ptr i s off=>show gdT w (.v (Ac (Nat.beq i id) (Ac (Nat.beq s st) _ _) _))=_;cases Nat.beq i id<;>cases Nat.beq s st<;>rfl
 |vec i s=>show gdT w (.v (Ac (Nat.beq i id) (Ac (Nat.beq s st) _ _) _))=_;cases Nat.beq i id<;>cases Nat.beq s st<;>rfl
 |vs i s lo hi=>show gdT w (.v (Ac (Nat.beq i id) (Ac (Nat.beq s st) _ _) _))=_;cases Nat.beq i id<;>cases Nat.beq s st<;>rfl
 |mp i s=>show gdT w (.v (Ac (Nat.beq i id) (Ac (Nat.beq s st) _ _) _))=_;cases Nat.beq i id<;>cases Nat.beq s st<;>rfl
 |own i s=>show gdT w (.v (Ac (Nat.beq i id) (Ac (Nat.beq s st) _ _) _))=_;cases Nat.beq i id<;>cases Nat.beq s st<;>rfl
 |_=>rfl
theorem qzph{G:HD}{x:PV}(hx:StP T.nx x)(h1:(U id st).ep=G.ep)(h2:(U id st).n=G.n):eP (upd U id T.nx G) (EZ id st T.nx x)=eP U x/\StP (T.nx+1) (EZ id st T.nx x)/\(OkP U x->OkP (upd U id T.nx G) (EZ id st T.nx x)):=by
 have aJ:Ext T.nx U (upd U id T.nx G):=RT;have same:eP (upd U id T.nx G) x=eP U x/\StP (T.nx+1) x/\(OkP U x->OkP (upd U id T.nx G) x):=⟨Je aJ hx,FQ (HA _) hx,Jf aJ hx⟩;cases x with
 |ptr i s off =>
  show eP _ (Ac (Nat.beq i id) (Ac (Nat.beq s st) (.ptr i T.nx off) (.ptr i s off)) (.ptr i s off))=_/\StP _ (Ac (Nat.beq i id) (Ac (Nat.beq s st) (.ptr i T.nx off) (.ptr i s off)) (.ptr i s off))/\(_->OkP _ (Ac (Nat.beq i id) (Ac (Nat.beq s st) (.ptr i T.nx off) (.ptr i s off)) (.ptr i s off)));cases h:Nat.beq i id
  ·exact same
  ·cases k:Nat.beq s st;·exact same
   ·obtain rfl:=AN.1 h;obtain rfl:=AN.1 k;refine⟨?_,Dc _,fun _=>trivial⟩;show Aa.ptr i (upd U i T.nx G i T.nx).ep off=.ptr i (U i s).ep off;rw[yzj,h1]
 |vec i s =>
  show eP _ (Ac (Nat.beq i id) (Ac (Nat.beq s st) (.vec i T.nx) (.vec i s)) (.vec i s))=_/\StP _ (Ac (Nat.beq i id) (Ac (Nat.beq s st) (.vec i T.nx) (.vec i s)) (.vec i s))/\(_->OkP _ (Ac (Nat.beq i id) (Ac (Nat.beq s st) (.vec i T.nx) (.vec i s)) (.vec i s)));cases h:Nat.beq i id
  ·exact same
  ·cases k:Nat.beq s st;·exact same
   ·obtain rfl:=AN.1 h;obtain rfl:=AN.1 k;refine⟨?_,Dc _,fun _=>trivial⟩;show Aa.vec i (upd U i T.nx G i T.nx).ep 0 (upd U i T.nx G i T.nx).n=.vec i (U i s).ep 0 (U i s).n;rw[yzj,h1,h2]
 |mp i s =>
  show eP _ (Ac (Nat.beq i id) (Ac (Nat.beq s st) (.mp i T.nx) (.mp i s)) (.mp i s))=_/\StP _ (Ac (Nat.beq i id) (Ac (Nat.beq s st) (.mp i T.nx) (.mp i s)) (.mp i s))/\(_->OkP _ (Ac (Nat.beq i id) (Ac (Nat.beq s st) (.mp i T.nx) (.mp i s)) (.mp i s)));cases h:Nat.beq i id
  ·exact same
  ·cases k:Nat.beq s st;·exact same
   ·obtain rfl:=AN.1 h;obtain rfl:=AN.1 k;refine⟨?_,Dc _,fun _=>trivial⟩;show Aa.mp i (upd U i T.nx G i T.nx).ep=.mp i (U i s).ep;rw[yzj,h1]
 |vs i s lo hi =>
  show eP _ (Ac (Nat.beq i id) (Ac (Nat.beq s st) (.vs i T.nx lo hi) (.vs i s lo hi)) (.vs i s lo hi))=_/\StP _ (Ac (Nat.beq i id) (Ac (Nat.beq s st) (.vs i T.nx lo hi) (.vs i s lo hi)) (.vs i s lo hi))/\(_->OkP _ (Ac (Nat.beq i id) (Ac (Nat.beq s st) (.vs i T.nx lo hi) (.vs i s lo hi)) (.vs i s lo hi)));cases h:Nat.beq i id
  ·exact same
  ·cases k:Nat.beq s st;·exact same
   ·obtain rfl:=AN.1 h;obtain rfl:=AN.1 k;refine⟨?_,Dc _,fun k=>?_⟩
    ·show Aa.vec i (upd U i T.nx G i T.nx).ep lo.toNat (hi-lo).toNat=.vec i (U i s).ep lo.toNat (hi-lo).toNat;rw[yzj,h1]
    ·show 0<=lo/\lo<=hi/\hi<=(upd U i T.nx G i T.nx).n;rw[yzj,<-h2];exact k
 |own i s =>
  show eP _ (Ac (Nat.beq i id) (Ac (Nat.beq s st) (.own i T.nx) (.own i s)) (.own i s))=_/\StP _ (Ac (Nat.beq i id) (Ac (Nat.beq s st) (.own i T.nx) (.own i s)) (.own i s))/\(_->OkP _ (Ac (Nat.beq i id) (Ac (Nat.beq s st) (.own i T.nx) (.own i s)) (.own i s)));cases h:Nat.beq i id
  ·exact same
  ·cases k:Nat.beq s st;·exact same
   ·obtain rfl:=AN.1 h;obtain rfl:=AN.1 k;refine⟨?_,Dc _,fun _=>trivial⟩;show(match (upd U i T.nx G i T.nx).n with | 0=>Aa.nils | n+1=>.vec i (upd U i T.nx G i T.nx).ep 0 (n+1))=(match (U i s).n with | 0=>Aa.nils | n+1=>.vec i (U i s).ep 0 (n+1));rw[yzj,h1,h2]
 |s v=>exact same
 |eptr i s j off c x=>exact same
theorem Sf{id st nx:Nat}:∀{l:List (Nat×Nat×TO)} {i:Nat},Aw (Hj id st nx l) i=(match Aw l i with | some (s,o)=>some (s,RR id st nx o) | none=>none)
 |[],i=>rfl
 |(j,s,o) :: l,i=>by
  show Aw ((j,s,RR id st nx o) :: Hj id st nx l) i=_;rw[Cr,Cr];split
  ·rfl
  ·exact Sf
def rsH(T:Av)(id:Nat)(re:Bool):List (Nat×Nat×TO):=Ac re (match Aw T.h id with
  |some (st,_)=>Hj id st T.nx T.h
  | none=>T.h) T.h
def rs(T:Av)(id:Nat)(re:Bool)(x:TV):TV:=Ac re (match Aw T.h id with
 |some (st,_)=>(match x with | .v x=>.v (EZ id st T.nx x) | y=>y)
 | none=>x) x
def rsK(U U':Phi):TV->TV->Prop
 |.v y,z=>∃y',z=.v y'/\(OkP U y->OkP U' y')
 |.cnd a b c y,z=>z=.cnd a b c y
theorem Ji{o:TO}:Az (putO T id o re).t i=rs T id re (Az T.t i):=by
 show Az (Ac re (match Aw T.h id with | some (st,_)=>Hk id st T.nx T.t | none=>T.t) T.t) i=_;unfold rs;cases re
 ·rfl
 ·simp only[IQ];cases Aw T.h id with
  |none=>rfl
  |some q=>exact Se
theorem Sg(hI:InvT U T){ob:TO}{G:HD}(hid:inR T.b id=true)(aB:OkO G ob)(iR:RfO (upd U id T.nx G) (T.nx+1) ob)(ma:re=true->∃st o0,Aw T.h id=some (st,o0)/\(U id st).ep=G.ep/\(U id st).n=G.n) :
  InvT (upd U id T.nx G) (putO T id ob re)/\Log U T (upd U id T.nx G) (putO T id ob re)/\em (upd U id T.nx G) (putO T id ob re)=⟨(em U T).t,putH (em U T).h (some (id,eO (upd U id T.nx G) G.ep ob)),U.ds⟩:=by
 have aJ:Ext T.nx U (upd U id T.nx G):=RT
 have key:∀x,TOk U T x->eT (upd U id T.nx G) (rs T id re x)=eT U x/\StP (T.nx+1) (rs T id re x).pv/\(∀w,gdT w (rs T id re x)=gdT w x) /\
   rsK U (upd U id T.nx G) x (rs T id re x):=by
  intro x hx
  have plain:rs T id re x=x->eT (upd U id T.nx G) (rs T id re x)=eT U x/\StP (T.nx+1) (rs T id re x).pv/\(∀w,gdT w (rs T id re x)=gdT w x) /\
   rsK U (upd U id T.nx G) x (rs T id re x):=by
   intro e;rw[e];refine⟨Jg aJ (NL hx),FQ (HA _) (NL hx),fun _=>rfl,?_⟩;cases x with
   |v y=>exact⟨y,rfl,Jf aJ hx.1⟩
   |cnd a b c y=>rfl
  cases re with
  |false=>exact plain rfl
  |true =>
   obtain⟨st,o0,h0,h1,h2⟩:=ma rfl;cases x with
   |cnd a b c y=>exact plain (by unfold rs;rw[h0];rfl)
   |v y =>have e:rs T id true (.v y)=.v (EZ id st T.nx y):=(by unfold rs;rw[h0];rfl);obtain⟨k1,k2,k3⟩:=qzph (U:=U) (T:=T) (id:=id) (st:=st) (G:=G) hx.1 h1 h2;rw[e];exact⟨k1,k2,fun w=>qz6e,_,rfl,k3⟩
 have obs:∀i st' o',Aw (rsH T id re) i=some (st',o')->∃o,Aw T.h i=some (st',o)/\(eO (upd U id T.nx G) (U i st').ep o'=eO U (U i st').ep o)/\(OkO (U i st') o->OkO (U i st') o')/\RfO (upd U id T.nx G) (T.nx+1) o':=by
  intro i st' o' ho;have plain:Aw T.h i=some (st',o')->∃o,Aw T.h i=some (st',o)/\(eO (upd U id T.nx G) (U i st').ep o'=eO U (U i st').ep o)/\(OkO (U i st') o->OkO (U i st') o')/\RfO (upd U id T.nx G) (T.nx+1) o':=fun h=>by obtain⟨_,_,h2⟩:=hI.ob _ _ _ h;exact⟨o',h,NM aJ h2,fun k=>k,qzm2 aJ (HA _) h2⟩
  cases re with
  |false=>exact plain ho
  |true =>
   obtain⟨st,o0,h0,h1,h2⟩:=ma rfl;have e:rsH T id true=Hj id st T.nx T.h:=by unfold rsH;rw[h0];rfl
   rw[e,Sf]at ho;cases hx:Aw T.h i with
   |none=>rw[hx]at ho;cases ho
   |some q =>
    obtain⟨s1,o1⟩:=q;rw[hx]at ho;cases ho;obtain⟨_,_,k2⟩:=hI.ob _ _ _ hx;refine⟨o1,rfl,?_,?_,?_⟩
    ·cases o1 with
     |_=>rfl
    ·cases o1 with
     |_=>exact fun k=>k
    ·cases o1 with
     |_=>trivial
 have obn:∀i,Aw (rsH T id re) i=none↔Aw T.h i=none:=by
  intro i;cases re with
  |false=>exact Iff.rfl
  |true =>
   obtain⟨st,o0,h0,_,_⟩:=ma rfl;have e:rsH T id true=Hj id st T.nx T.h:=by unfold rsH;rw[h0];rfl
   rw[e,Sf];cases Aw T.h i with
   |none=>exact⟨fun _=>rfl,fun _=>rfl⟩
   |some q=>exact⟨fun h=>(by cases h),fun h=>(by cases h)⟩
 have eh:(putO T id ob re).h=(id,T.nx,ob) :: rsH T id re:=rfl
 have obj:∀i,hO (upd U id T.nx G) i (Aw ((id,T.nx,ob) :: rsH T id re) i)=if i=id then eO (upd U id T.nx G) G.ep ob else hO U i (Aw T.h i):=by
  intro i;rw[Cr];by_cases h:i=id
  ·subst h;rw[Aj rfl,Aj rfl];show eO (upd U i T.nx G) (upd U i T.nx G i T.nx).ep ob=_;rw[yzj]
  ·rw[Ag (fun e=>h e.symm),Ag h];cases hx:Aw (rsH T id re) i with
   |none=>rw[(obn i).1 hx];rfl
   |some q =>obtain⟨st',o'⟩:=q;obtain⟨o,h1,h2,_,_⟩:=obs i st' o' hx;rw[h1];show eO (upd U id T.nx G) (upd U id T.nx G i st').ep o'=eO U (U i st').ep o;rw[aJ.s i st' (hI.ob _ _ _ h1).1,h2]
 have fu:∀i p,Aw ((id,T.nx,ob) :: rsH T id re) i=some p->inR T.b i=true:=by
  intro i p e;rw[Cr]at e;by_cases h:id=i
  ·subst h;exact hid
  ·rw[Ag h]at e;obtain⟨st',o'⟩:=p;obtain⟨o,h1,_⟩:=obs i st' o' e;exact hI.fr.ro _ _ h1
 have mb:Aw T.h 1899≠none->Aw ((id,T.nx,ob) :: rsH T id re) 1899≠none:=by
  intro e;rw[Cr];split
  ·intro e;cases e
  ·exact fun h=>e ((obn _).1 h)
 refine⟨⟨fun i=>?_,fun i hi=>?_,fun i st o ho=>?_,hI.fr.of rfl rfl rfl rfl rfl fu⟩,⟨rfl,HA _,aJ,fun i hi=>?_,fun i hi=>?_,.same rfl rfl (fun h e=>h (AR _ e)) rfl rfl (fun e=>mb e)⟩,?_⟩
 ·rw[Ji];obtain⟨k1,k2,k3,k4⟩:=key _ (hI.sl i);have hx:=hI.sl i;revert k2 k4 hx;cases Az T.t i with
  |v y =>intro k2 ⟨y',e,k⟩ hx;rw[e]at k2 |-;exact⟨k2,k hx.2⟩
  |cnd a b c y =>intro k2 e hx;have e:rs T id re (.cnd a b c y)=.cnd a b c y:=e;rw[e];obtain⟨q1,q2,q3,q4⟩:=hx;refine⟨FQ (HA _) q1,fun e=>Jf aJ q1 (q2 e),q3,?_⟩;rw[Ji,(key _ (hI.sl a)).2.2.1 b,q4]
 ·rw[Ji,hI.hi i hi];unfold rs;cases re
  ·rfl
  ·simp only[IQ];cases Aw T.h id<;>rfl
 ·have ho:Aw ((id,T.nx,ob) :: rsH T id re) i=some (st,o):=ho;rw[Cr]at ho;by_cases h:id=i
  ·subst h;rw[Aj rfl]at ho;cases ho;exact⟨Dc _,by rw[yzj];exact aB,iR⟩
  ·rw[Ag h]at ho;obtain⟨o1,h1,_,h3,h4⟩:=obs i st o ho;obtain⟨q1,q2,_⟩:=hI.ob _ _ _ h1;exact⟨Nat.lt_succ_of_lt q1,Sb aJ q1 (h3 q2),h4⟩
 ·exact⟨hi,by rw[Ji];exact(key _ (hI.sl i)).1⟩
 ·have hi:i∉id :: T.wo:=hi;simp only[AV,DQ]at hi;refine⟨hi.2,fun _=>?_⟩;show hO _ i (Aw ((id,T.nx,ob) :: rsH T id re) i)=_;rw[obj,Ag hi.1]
 ·show Au.mk (tl (eTm _ (putO T id ob re).t) T.n) (fun i=>hO (upd U id T.nx G) i (Aw ((id,T.nx,ob) :: rsH T id re) i)) U.ds=⟨tl (eTm U T.t) T.n,hset (em U T).h id (eO (upd U id T.nx G) G.ep ob),U.ds⟩;congr 1
  ·refine qzr0 fun i _=>?_;rw[Lp,Lp,Ji];exact(key _ (hI.sl i)).1
  ·funext i;show hO (upd U id T.nx G) i (Aw ((id,T.nx,ob) :: rsH T id re) i)=if i=id then eO (upd U id T.nx G) G.ep ob else(em U T).h i;rw[obj,em_h]
theorem qz21[TabOk]{H:List Fe}{ty:List (Nat×CT)}{T:Av}{G:Gd}{o:Ao}{K:PV->List Nat->Option α}{r:α}(h:opV H ty T G o K=some r):o.isCall=false\/(∃f ags,o=.callf f ags/\N6 H T G f ags K=some r)\/(∃x ags,o=.callv x ags/\N7 H T G x ags K=some r):=by
 cases o<;>first
  |exact .inl rfl
  |(cases h;done)
  |exact .inr (.inl ⟨_,_,rfl,h⟩)
  |exact .inr (.inr ⟨_,_,rfl,h⟩)
theorem qz3y[TabOk]{H:List Fe}{G:Gd}{ar:Ae->Aa}(hA:Ar U T G ar hh){ags:List Ae}{K:PV->List Nat->Option α}{r:α}(h:N6 H T G f ags K=some r) : ∃p rd,K p rd=some r/\StP T.nx p/\(act G->OkP U p/\Di TabT.E TabT.P f (ags.map ar) hh rd (eP U p)):=by
 unfold N6 at h;split at h
 ·rename_i C h1;split at h
  ·rename_i vs h2;split at h
   ·rename_i x hx;replace h:=KQ h;obtain⟨y,h,hy⟩:=h;exact⟨_,_,h,trivial,fun ha=>⟨trivial,by rw[Hq hA h2,<-Ja h1];exact(C.call (KF hx) (hy ha)).2.on hh []⟩⟩
   ·cases h
  ·cases h
 ·cases h
theorem qz2z[TabOk]{H:List Fe}{G:Gd}{ar:Ae->Aa}(hA:Ar U T G ar hh){x:Ae}{ags:List Ae}{K:PV->List Nat->Option α}{r:α}(h:N7 H T G x ags K=some r) : ∃v,K (.s v) []=some r/\(act G->∃f nb caps,ar x=.fn f nb caps/\CY TabT.P f=true/\Di TabT.E TabT.P f (fnArgs nb (ags.map ar) caps) hh [] (A6 v)):=by
 unfold N7 at h;split at h
 ·rename_i f nb caps vs h1 h2;split at h
  ·rename_i C h3;split at h
   ·rename_i y hy;replace h:=KQ h;obtain⟨z,h,hz⟩:=h;refine⟨_,h,fun ha=>⟨f,nb,Ax caps,(hA.a _ _ h1).1,?_⟩⟩;rw[Hq hA h2,<-qzxr,<-Ja h3];obtain⟨k1,k2⟩:=C.call (KF hy) (hz ha);exact⟨k1,k2.on hh []⟩
   ·cases h
  ·cases h
 ·rename_i i z vs h1 h2;split at h
  ·rename_i y hy;replace h:=@KQ _ _ (inhR i) _ _ _ _ h;obtain⟨w,h,hw⟩:=h;refine⟨_,h,fun ha=>⟨z.f,z.nb,z.caps,(hA.a _ _ h1).1,?_⟩⟩;obtain⟨k1,k2⟩:=z.ok _ _ (hw ha);have e:TabT.aR i w=A6 (retT (Tab.fr i) (cast (Tab.eR i).symm w)):=by rw[<-TabOk.aR,cast_cast,cast_eq]
   rw[TabOk.aA,e]at k2;rw[Hq hA h2];refine⟨k1,(k2.w ?_).on hh []⟩;have hw:=qzrw hy;unfold fnArgs;exact .append (.append (.refl _) hw) (.refl _)
  ·cases h
 ·cases h
theorem GK.trans{T T' T'':Av}(h:GK T T')(k:GK T' T''):GK T T'':=fun g hg=>⟨(k g (h g hg).1).1,fun w=>((k g (h g hg).1).2 w).trans ((h g hg).2 w)⟩
theorem Hs{x:TV}(hd:Eu T d=true):GK T (putS T d x):=fun g hg=>by
 cases d with
 |none=>exact⟨hg,fun _=>rfl⟩
 |some d =>refine⟨hg,fun w=>?_⟩;show gdT w (Az ((d,x) :: T.t) g)=_;rw[Bt,Ag];intro e;have:=(wzdl hd).2;have e:d=g:=e;rw[e,hg]at this;cases this
theorem qzpq{ob:TO}:GK T (putO T id ob re):=fun g hg=>⟨hg,fun w=>by
 rw[Ji];unfold rs;cases re
 ·rfl
 ·rw[IQ];cases Aw T.h id with
  |none=>rfl
  |some q =>
   cases Az T.t g with
   |v x=>exact qz6e
   |cnd a b c y=>rfl⟩
theorem Si(tg:Nat):GK T (addG T tg):=fun g hg=>⟨Hl.2 (AR _ (Hl.1 hg)),fun _=>rfl⟩
theorem wzwr(hI:InvT U T):Hp U T (Ah TabT.E (em U T).t) (em U T).h:=⟨FT hI,fun i=>NA hI i,hI.fr.ro⟩
theorem qz5m[TabOk]{H:List Fe}{ty:List (Nat×CT)}{o:Ak}{K:Av->List Nat->Option Nat->Option α}{r:α}(hI:InvT U T)(h:Fa H ty T o K=some r) : ∃U' T' rd out,K T' rd out=some r/\Step U T o U' T' rd out:=by
 unfold Fa at h;split at h
 ·rename_i hg;replace h:=AJ h;obtain⟨hd,h⟩:=h;cases ho:Hh o.op with
  |true =>
   rw[ho]at h;obtain⟨fI,h⟩:=AJ (show Ac (Rt T.b o.op) (opO ty T o.op fun v id ob re rd=>K (putS (putO T id ob re) o.dst (.v v)) rd (some id)) none=some r from h);obtain⟨p,id,ob,re,rd,ep,G,hK,V⟩:=wzdr (wzwr hI) fI h;obtain⟨i1,l1,e1⟩:=Sg hI V.idr (G:=ghoR G ep ob) qzyq V.rfo (re:=re) (id:=id) (ob:=ob) (fun hr=>by obtain⟨st,o0,q1,q2,q3⟩:=V.re hr;exact⟨st,o0,q1,by rw[Sa];exact q2,q3⟩);have ii:Eu (putO T id ob re) o.dst=true:=hd;refine⟨_,_,_,_,hK,Ff i1 ii ⟨V.st,V.okp⟩,l1.trans NO,qzpq.trans (Hs ii),eP (upd U id T.nx (ghoR G ep ob)) p,some (id,eO (upd U id T.nx (ghoR G ep ob)) ep ob),?_,rfl,?_⟩
   ·exact qzqx hg (qzxe ho) V.ok V.v V.hrd V.hout fun i ob e=>by cases e;exact V.hid
   ·rw[Hr,e1,Sa];rfl
  |false =>
   rw[ho]at h;rcases qz21 h with hc|⟨f,ags,aT,hc⟩|⟨x,ags,aT,hc⟩
   ·obtain⟨p,rd,hK,hs,hq,k⟩:=wzh3 (FT hI) (wzpo hI) (fun i=>NA hI i) hc h;obtain⟨k1,k2,k3,k4,k5⟩:=k trivial;refine⟨_,_,_,_,hK,Ff hI hd ⟨hs,k1⟩,NO,Hs hd,eP U p,none,?_,rfl,Hr⟩;exact qzqx hg hc k2 k3 k4 k5 fun i ob e=>by cases e
   ·obtain⟨p,rd,hK,hs,k⟩:=qz3y (FT hI) hc;obtain⟨k1,k2⟩:=k trivial;refine⟨_,_,_,_,hK,Ff hI hd ⟨hs,k1⟩,NO,Hs hd,eP U p,none,?_,rfl,Hr⟩;unfold Bp;rw[hg,aT];exact⟨k2,rfl⟩
   ·obtain⟨v,hK,k⟩:=qz2z (FT hI) hc;refine⟨_,_,_,_,hK,Ff hI hd ⟨trivial,trivial⟩,NO,Hs hd,A6 v,none,?_,rfl,Hr⟩;unfold Bp;rw[hg,aT];exact⟨k trivial,rfl⟩
 ·rename_i tg want hg;split at h
  ·rename_i g hb;replace h:=AJ h;obtain⟨hd,h⟩:=h;have h:Ac (Hh o.op) none (Ac (allO T (some (tg,want,g)) o.op) (opV H ty T (some (tg,want,g)) o.op fun v rd=>K (putS (addG T tg) o.dst (.cnd tg want g v)) rd none) none)=some r:=h
   have ho:Hh o.op=false:=by
    cases ho:Hh o.op
    ·rfl
    ·rw[ho]at h;cases h
   rw[ho]at h;replace h:=AJ h;obtain⟨dh,h⟩:=h;have hu:=wzks hI hb dh h;have ha:=qz7z hI hb (want:=want);have h0:=qzq6 hI hb (want:=want);have tok:∀p,StP T.nx p->(g=true->OkP U p)->TOk U (addG T tg) (.cnd tg want g p):=fun p h1 h2=>⟨h1,h2,Hl.2 (AS ..),hb⟩;have e1:∀p,em U (putS (addG T tg) o.dst (.cnd tg want g p))=⟨putT (em U T).t o.dst (.cnd g (eP U p)),putH (em U T).h none,U.ds⟩:=fun p=>Hr (T:=addG T tg);have l1:∀p,Log U T U (putS (addG T tg) o.dst (.cnd tg want g p)):=fun p=>(qzjc tg).trans NO;rcases qz21 h with hc|⟨f,ags,aT,hc⟩|⟨x,ags,aT,hc⟩
   ·obtain⟨p,rd,hK,hs,hq,k⟩:=wzh3 ha (wzrm hI) (fun i=>NA hI i) hc h;refine⟨_,_,_,_,hK,Ff (Sd hI tg) hd (tok p hs fun e=>(k e).1),l1 p,(Si tg).trans (Hs hd),_,none,?_,rfl,e1 p⟩;refine wzac hg hc h0 hq fun e=>?_;obtain⟨k1,k2,k3,k4,k5⟩:=k e;exact⟨hu,k2,k3,k4⟩
   ·obtain⟨p,rd,hK,hs,k⟩:=qz3y ha hc;refine⟨_,_,_,_,hK,Ff (Sd hI tg) hd (tok _ hs fun e=>(k e).1),l1 _,(Si tg).trans (Hs hd),_,none,?_,rfl,e1 _⟩;rw[aT]at hu;unfold Bp;rw[hg,aT];exact⟨_,_,h0,rfl,rfl,fun e=>⟨hu,(k e).2⟩⟩
   ·obtain⟨v,hK,k⟩:=qz2z ha hc;refine⟨_,_,_,_,hK,Ff (Sd hI tg) hd (tok _ trivial fun e=>trivial),l1 _,(Si tg).trans (Hs hd),_,none,?_,rfl,e1 _⟩;rw[aT]at hu;unfold Bp;rw[hg,aT];refine⟨_,_,h0,rfl,rfl,fun e=>?_⟩;obtain⟨f,nb,caps,q1,q2,q3⟩:=k e;exact⟨f,nb,caps,q1,q2,hu,q3⟩
  ·cases h
end
end
theorem NP{x:Option α}{f:α->Option Y}{r:Y}(h:bd x f=some r):∃y,x=some y/\f y=some r:=by
 cases x with
 |none=>cases h
 |some y=>exact⟨y,rfl,h⟩
theorem W.trans:∀{x y:Aa},W x y->∀{z:Aa},W y z->W x z:=by
 intro x y h;induction h with
 |top x=>intro z k;cases k with
  |top=>exact .top _
  |refl=>exact .top _
 |refl x=>intro z k;exact k
 |nil st f=>intro z k;cases k with
  |top=>exact .top _
  |refl=>exact .nil _ _
  |slc=>exact .nil _ _
 |agg l l' hn h ih=>intro z k;cases k with
  |top=>exact .top _
  |refl=>exact .agg _ _ hn h
  |agg _ l'' hZ h' =>
   refine .agg _ _ (hn.trans hZ) fun i a b ha hb=>?_;have hi:i<l'.length:=by rw[<-hn];exact(A8.1 ha).1
   exact ih i a _ ha (AF hi) (h' i _ b (AF hi) hb)
 |tup l l' hn h ih=>intro z k;cases k with
  |top=>exact .top _
  |refl=>exact .tup _ _ hn h
  |tup _ l'' hZ h' =>
   refine .tup _ _ (hn.trans hZ) fun i a b ha hb=>?_;have hi:i<l'.length:=by rw[<-hn];exact(A8.1 ha).1
   exact ih i a _ ha (AF hi) (h' i _ b (AF hi) hb)
 |slc st n f f' hn h ih=>intro z k;cases k with
  |top=>exact .top _
  |refl=>exact .slc _ _ _ _ hn h
  |slc _ _ _ f'' hZ h' =>
   refine .slc _ _ _ _ (fun k hk=>(hn k hk).trans (hZ k hk)) fun k i a b hk ha hb=>?_;have hi:i<(f' k).length:=by rw[<-hn k hk];exact(A8.1 ha).1
   exact ih k i a _ hk ha (AF hi) (h' k i _ b hk (AF hi) hb)
 |cptr f f' n off h ih=>intro z k;cases k with
  |top=>exact .top _
  |refl=>exact .cptr _ _ _ _ h
  |cptr _ f'' _ _ h'=>exact .cptr _ _ _ _ fun j hj=>ih j hj (h' j hj)
 |fn f nb l l' hn h ih=>intro z k;cases k with
  |top=>exact .top _
  |refl=>exact .fn _ _ _ _ hn h
  |fn _ _ _ l'' hZ h' =>
   refine .fn _ _ _ _ (hn.trans hZ) fun i a b ha hb=>?_;have hi:i<l'.length:=by rw[<-hn];exact(A8.1 ha).1
   exact ih i a _ ha (AF hi) (h' i _ b (AF hi) hb)
theorem Ws.trans{l m k:List Aa}(h:Ws l m)(h':Ws m k):Ws l k:=by
 refine .of (h.at.1.trans h'.at.1) fun i a b ha hb=>?_;have hi:i<m.length:=by rw[<-h.at.1];exact(A8.1 ha).1
 exact(h.at.2 i a _ ha (AF hi)).trans (h'.at.2 i _ b (AF hi) hb)
theorem FVl.map{id:Nat}{o:Ad}{α:Type}{f g:α->Aa}:∀{l:List α},(∀i,i∈l->FV id o (f i) (g i))->FVl id o (l.map f) (l.map g)
 |[],_=>trivial
 |x :: l,h=>⟨h x (AS ..),FVl.map fun i hi=>h i (AR _ hi)⟩
section
variable {ρ:Option Nat}
theorem See.pw{t':List Aa}{h':Aq}(ht:Ws t t')(hh:∀i,WO (h i) (h' i))(hd:∀D∈ds,h' D.1=.dfr D.2):See E ⟨t,h,ds⟩ ⟨t',h',ds⟩:=by intro g a w hs;have hH:=hs.hr.wk hh;exact⟨g,⟨hH,ht.rvs hs.tm,hs.df,hd,hs.dn⟩,⟨.refl _ _,rfl,rfl,rfl,AA _,fun _ _ _=>rfl,fun i ho=>.inl ⟨i,(hh i).owned ho,rfl⟩,fun _ h=>.inl h,AA _⟩⟩
theorem See.bumpH(id e:Nat)(hg:h id=.gone e):See E ⟨t,h,ds⟩ ⟨t,hset h id (.gone (e+1)),ds⟩:=by
 intro g a w hs;obtain⟨g',H',aC,hb,hf,bK⟩:=hs.hr.bump (id:=id) (e:=e) hg;refine⟨g',⟨H',hs.tm.mono aC,?_,fun D hD=>?_,hs.dn⟩,⟨aC,rfl,rfl,rfl,AA _,fun _ _ _=>rfl,fun i ho=>?_,fun b bg=>.inl (by rw[hf]at bg;exact bg),AA _⟩⟩
 ·have:=hs.df;rw[this];exact H8 fun D _=>by rw[hb]
 ·have hd:=hs.dk D hD;have aI:D.1≠id:=fun e'=>by rw[e',show(⟨t,h,ds⟩:Au).h id=.gone e from hg]at hd;cases hd
  show(if D.1=id then _ else h D.1)=_;rw[Ag aI];exact hd
 ·by_cases hi:i=id;·subst hi;exfalso;simp[hset,Ad.owned]at ho
  ·refine .inl ⟨i,?_,(hb i).symm⟩;have:hset h id (.gone (e+1)) i=h i:=Ag hi;have ho:(hset h id (.gone (e+1)) i).owned=true:=ho;rw[this]at ho;exact ho
theorem See.veq{t t':List Aa}{h h':Aq}{ds:List (Nat×Nat)}(hl:t'.length=t.length)(hv:∀(i:Nat) (x y:Aa),t[i]?=some x->t'[i]?=some y->VEq x y)(ho:∀i,OEq (h i) (h' i)):See E ⟨t,h,ds⟩ ⟨t',h',ds⟩ :=
 fun g a w hs=>⟨g,SR.veq (S:=⟨t,h,ds⟩) hs hl hv ho,(Stp.refl g h w).oeq ho⟩
theorem qzta(h:VEq v v'):(putT t d v').length=(putT t d v).length/\∀(i:Nat) (x y:Aa),(putT t d v)[i]?=some x->(putT t d v')[i]?=some y->VEq x y:=by
 cases d with
 |none=>exact⟨rfl,fun i x y hx hy=>by rw[show putT t none v=t from rfl]at hx;rw[show putT t none v'=t from rfl,hx]at hy;cases hy;exact .refl _⟩
 |some d =>
  refine⟨by show(t.set d v').length=(t.set d v).length;simp,fun i x y hx hy=>?_⟩;have hx:(t.set d v)[i]?=some x:=hx;have hy:(t.set d v')[i]?=some y:=hy;rw[DP]at hx hy;split at hx
  ·rename_i e;rw[Aj e]at hy;split at hx
   ·rename_i e2;rw[Aj e2]at hy;cases hx;cases hy;exact h
   ·cases hx
  ·rename_i e;rw[Ag e,hx]at hy;cases hy;exact .refl _
end
section
variable [Tab]
section
variable {ρ:Option Nat}{U:Phi}{T:Av}
theorem wzbg{U':Phi}{T':Av}(fG:InvT U' T')(d6:U'.ds=U.ds)(hn:T'.n=T.n)(ht:∀i,W (eT U (Az T.t i)) (eT U' (Az T'.t i)))(hh:∀i,WO (hO U i (Aw T.h i)) (hO U' i (Aw T'.h i))):See TabT.E (em U T) (em U' T'):=by
 have hd:=NB fG;have e:em U' T'=⟨tl (eTm U' T'.t) T'.n,(em U' T').h,U.ds⟩:=by rw[<-d6];rfl
 rw[e];refine .pw (t:=tl (eTm U T.t) T.n) (t':=tl (eTm U' T'.t) T'.n) ?_ (fun i=>?_) (by rw[<-d6];exact hd)
 ·rw[hn];refine .of (by rw[EM,EM]) fun i x y hx hy=>?_;rw[Ea]at hx hy;split at hx
  ·rename_i hi;rw[Aj hi]at hy;cases hx;cases hy;rw[Lp,Lp];exact ht i
  ·cases hx
 ·exact hh i
theorem FU{id st:Nat}{o:TO}:∀{l:List (Nat×TV)} {i:Nat},Az (frzT id st o l) i=(match Az l i with | .v x=>.v (frzP id st o x) | y=>y)
 |[],i=>rfl
 |(j,.v x) :: l,i=>by
  show Az ((j,.v (frzP id st o x)) :: frzT id st o l) i=_;rw[Bt,Bt];split
  ·rfl
  ·exact FU
 |(j,.cnd a b c x) :: l,i=>by
  show Az ((j,.cnd a b c x) :: frzT id st o l) i=_;rw[Bt,Bt];split
  ·rfl
  ·exact FU
theorem qz9p{o:TO}{x:PV}(h:KI id st x=false):frzP id st o x=x:=by
 cases x with
 |ptr i s off =>
  have h:Ac (Nat.beq i id) (Nat.beq s st) false=false:=h;show Ac (Nat.beq i id) (Ac (Nat.beq s st) _ _) _=_;cases h1:Nat.beq i id
  ·rfl
  ·rw[h1]at h;have h:Nat.beq s st=false:=h;rw[h];rfl
 |vec i s =>
  have h:Ac (Nat.beq i id) (Nat.beq s st) false=false:=h;show Ac (Nat.beq i id) (Ac (Nat.beq s st) _ _) _=_;cases h1:Nat.beq i id
  ·rfl
  ·rw[h1]at h;have h:Nat.beq s st=false:=h;rw[h];rfl
 |own i s =>
  have h:Ac (Nat.beq i id) (Nat.beq s st) false=false:=h;show Ac (Nat.beq i id) (Ac (Nat.beq s st) _ _) _=_;cases h1:Nat.beq i id
  ·rfl
  ·rw[h1]at h;have h:Nat.beq s st=false:=h;rw[h];rfl
 |s v=>rfl
 |eptr i s j off c x=>rfl
 |vs i s lo hi=>rfl
 |mp i s=>rfl
theorem NQ{id st i:Nat}:∀{l:List (Nat×TV)} {w:List Nat},i∉frzW id st l w->i∉w/\∀x,Az l i=.v x->KI id st x=false
 |[],w,h=>⟨h,fun x hx=>by cases hx;rfl⟩
 |(j,.v y) :: l,w,h=>by
  have h:i∉Ac (KI id st y) (j :: frzW id st l w) (frzW id st l w):=h;cases hr:KI id st y<;>rw[hr]at h
  ·obtain⟨h1,h2⟩:=NQ h;refine⟨h1,fun x hx=>?_⟩;rw[Bt]at hx;split at hx
   ·cases hx;exact hr
   ·exact h2 x hx
  ·have h:i∉j :: frzW id st l w:=h;simp only[AV,DQ]at h;obtain⟨h1,h2⟩:=NQ h.2;refine⟨h1,fun x hx=>?_⟩;rw[Bt,Ag (fun e=>h.1 e.symm)]at hx;exact h2 x hx
 |(j,.cnd a b c y) :: l,w,h=>by
  have h:i∉frzW id st l w:=h;obtain⟨h1,h2⟩:=NQ h;refine⟨h1,fun x hx=>?_⟩;rw[Bt]at hx;split at hx
  ·cases hx
  ·exact h2 x hx
theorem Sj{U':Phi}{o:TO}{x:PV}(aJ:Ext nx U U')(hx:StP nx x)(hO:OkO (U id st) o) :
  StP (nx+1) (frzP id st o x)/\(OkP U x->OkP U' (frzP id st o x))/\((∃c,o=.own c [])->W (eP U x) (eP U' (frzP id st o x)))/\((∀c,o≠.own c [])->FV id (eO U (U id st).ep o) (eP U x) (eP U' (frzP id st o x))):=by
 have same:StP (nx+1) x/\(OkP U x->OkP U' x)/\((∃c,o=.own c [])->W (eP U x) (eP U' x))/\((∀c,o≠.own c [])->FV id (eO U (U id st).ep o) (eP U x) (eP U' x)):=by
  refine⟨FQ (HA _) hx,Jf aJ hx,fun _=>?_,fun _=>?_⟩
  ·rw[Je aJ hx];exact .refl _
  ·rw[Je aJ hx];exact .refl _
 cases x with
 |ptr i s off =>
  have e:frzP id st o (.ptr i s off)=Ac (Nat.beq i id) (Ac (Nat.beq s st) (match (generalizing:=false) o with | .box cs=>.s (.cptr cs off) | _=>.ptr i s off) (.ptr i s off)) (.ptr i s off):=rfl;rw[e];cases h1:Nat.beq i id
  ·exact same
  ·cases h2:Nat.beq s st;·exact same
   ·obtain rfl:=AN.1 h1;obtain rfl:=AN.1 h2;cases o with
    |box cs =>refine⟨trivial,fun _=>trivial,fun⟨c,e⟩=>(by cases e),fun _=>?_⟩;have:=FV.box (id:=i) (o:=eO U (U i s).ep (.box cs)) (U i s).ep off (Ax cs) (fun k=>(Ax cs).getD k .top) rfl (fun _ _=>rfl);rw[Gr]at this;exact this
    |gone=>exact same
    |vec c l=>exact same
    |own c l=>exact same
    |map k v l=>exact same
 |vec i s =>
  have e:frzP id st o (.vec i s)=Ac (Nat.beq i id) (Ac (Nat.beq s st) (match (generalizing:=false) o with | .vec c l=>.s (.slc c l) | _=>.vec i s) (.vec i s)) (.vec i s):=rfl;rw[e];cases h1:Nat.beq i id
  ·exact same
  ·cases h2:Nat.beq s st;·exact same
   ·obtain rfl:=AN.1 h1;obtain rfl:=AN.1 h2;cases o with
    |vec c l =>refine⟨trivial,fun _=>trivial,fun⟨c,e⟩=>(by cases e),fun _=>?_⟩;show FV i _ (.vec i (U i s).ep 0 (U i s).n) (.slc c.n l.length (Ai c.cA l));have hO:(U i s).n=l.length/\(U i s).f=Ai c.cA l:=hO;rw[hO.1];exact .vec _ _ l.length (Ai c.cA l) 0 l.length _ rfl (by omega) fun k _=>by rw[Bn]
    |gone=>exact same
    |box cs=>exact same
    |own c l=>exact same
    |map k v l=>exact same
 |own i s =>
  have e:frzP id st o (.own i s)=Ac (Nat.beq i id) (Ac (Nat.beq s st) (match (generalizing:=false) o with | .own c l=>.s (.slc c l) | _=>.own i s) (.own i s)) (.own i s):=rfl;rw[e];cases h1:Nat.beq i id
  ·exact same
  ·cases h2:Nat.beq s st;·exact same
   ·obtain rfl:=AN.1 h1;obtain rfl:=AN.1 h2;cases o with
    |own c l =>
     have hO:(U i s).n=l.length/\(U i s).f=Ai c.cA l:=hO;have e1:eP U (.own i s)=match l.length with | 0=>.nils | n+1=>.vec i (U i s).ep 0 (n+1):=by show(match (U i s).n with | 0=>Aa.nils | n+1=>.vec i (U i s).ep 0 (n+1))=_;rw[hO.1]
     rw[e1];refine⟨trivial,fun _=>trivial,fun⟨c',e⟩=>?_,fun aI=>?_⟩
     ·cases e;exact .nil _ _
     ·cases l with
      |nil=>exact absurd rfl (aI c)
      |cons y l =>show FV i (.vec (U i s).ep c.n (l.length+1) (Ai c.cA (y :: l))) (.vec i (U i s).ep 0 (l.length+1)) (.slc c.n (l.length+1) (Ai c.cA (y :: l)));exact .vec _ _ (l.length+1) (Ai c.cA (y :: l)) 0 (l.length+1) _ rfl (by omega) fun k _=>by rw[Bn]
    |gone=>exact same
    |box cs=>exact same
    |vec c l=>exact same
    |map k v l=>exact same
 |s v=>exact same
 |eptr i s j off c x=>exact same
 |vs i s lo hi=>exact same
 |mp i s=>exact same
theorem wzrd{o:TO}{x:TV}:gdT w (match x with | .v x=>.v (frzP id st o x) | y=>y)=gdT w x:=by
 cases x with
 |cnd a b c y=>rfl
 |v x =>
  cases x with
  |ptr i s off=>show gdT w (.v (Ac (Nat.beq i id) (Ac (Nat.beq s st) _ _) _))=_;cases Nat.beq i id<;>cases Nat.beq s st<;>cases o<;>rfl
  |vec i s=>show gdT w (.v (Ac (Nat.beq i id) (Ac (Nat.beq s st) _ _) _))=_;cases Nat.beq i id<;>cases Nat.beq s st<;>cases o<;>rfl
  |own i s=>show gdT w (.v (Ac (Nat.beq i id) (Ac (Nat.beq s st) _ _) _))=_;cases Nat.beq i id<;>cases Nat.beq s st<;>cases o<;>rfl
  |_=>rfl
theorem KR{id st:Nat}{o:TO}:∀{l:List (Nat×Nat×TO)} {i:Nat},Aw (frzH id st o l) i=(match Aw l i with | some (s,x)=>some (s,frzO id st o x) | none=>none)
 |[],i=>rfl
 |(j,s,x) :: l,i=>by
  show Aw ((j,s,frzO id st o x) :: frzH id st o l) i=_;rw[Cr,Cr];split
  ·rfl
  ·exact KR
theorem NR{id st i:Nat}:∀{l:List (Nat×Nat×TO)} {w:List Nat},i∉Ev id st l w->i∉w/\∀s x,Aw l i=some (s,x)->KJ id st x=false
 |[],w,h=>⟨h,fun s x hx=>by cases hx⟩
 |(j,s0,y) :: l,w,h=>by
  have h:i∉Ac (KJ id st y) (j :: Ev id st l w) (Ev id st l w):=h;cases hr:KJ id st y<;>rw[hr]at h
  ·obtain⟨h1,h2⟩:=NR h;refine⟨h1,fun s x hx=>?_⟩;rw[Cr]at hx;split at hx
   ·cases hx;exact hr
   ·exact h2 s x hx
  ·have h:i∉j :: Ev id st l w:=h;simp only[AV,DQ]at h;obtain⟨h1,h2⟩:=NR h.2;refine⟨h1,fun s x hx=>?_⟩;rw[Cr,Ag (fun e=>h.1 e.symm)]at hx;exact h2 s x hx
theorem wzo5{o x:TO}{U:Phi}(h:KJ id st x=false)(hr:RfO U nx x):frzO id st o x=x:=by
 cases x with
 |_=>rfl
theorem Sk{U':Phi}{o x:TO}{G:HD}(aJ:Ext nx U U')(hr:RfO U nx x)(hk:OkO G x)(hO:OkO (U id st) o) :
  RfO U' (nx+1) (frzO id st o x)/\OkO G (frzO id st o x)/\((∃c,o=.own c [])->WO (eO U e x) (eO U' e (frzO id st o x)))/\((∀c,o≠.own c [])->OF id (eO U (U id st).ep o) (eO U e x) (eO U' e (frzO id st o x))):=by
 cases x with
 |gone=>exact⟨trivial,hk,fun _=>G9.2 trivial,fun _=>.inl rfl⟩
 |box cs=>exact⟨trivial,hk,fun _=>G9.2 trivial,fun _=>.inl rfl⟩
 |vec c l=>exact⟨trivial,hk,fun _=>G9.2 trivial,fun _=>.inl rfl⟩
 |own c l=>exact⟨trivial,hk,fun _=>G9.2 trivial,fun _=>.inl rfl⟩
 |map k v l=>exact⟨trivial,hk,fun _=>G9.2 trivial,fun _=>.inl rfl⟩
theorem wzqv(hI:InvT U T)(id:Nat):∃U',InvT U' (frz1 T id)/\Log U T U' (frz1 T id)/\(frz1 T id).gs=T.gs/\See TabT.E (em U T) (em U' (frz1 T id)):=by
 have none':frz1 T id=T->∃U',InvT U' (frz1 T id)/\Log U T U' (frz1 T id)/\(frz1 T id).gs=T.gs/\See TabT.E (em U T) (em U' (frz1 T id)):=fun e=>by rw[e];exact⟨U,hI,.refl _ _,rfl,.refl _⟩
 have main:∀st o,Aw T.h id=some (st,o)->o≠.gone->(∀k v l,o≠.map k v l)->frz1 T id=⟨frzT id st o T.t,(id,T.nx,.gone) :: frzH id st o T.h,T.nx+1,T.n,T.gs,frzW id st T.t T.w,id :: Ev id st T.h T.wo,T.b,T.rf⟩->∃U',InvT U' (frz1 T id)/\Log U T U' (frz1 T id)/\(frz1 T id).gs=T.gs/\See TabT.E (em U T) (em U' (frz1 T id)):=by
  intro st o ho aI fA e;rw[e];obtain⟨aL,aB,_⟩:=hI.ob _ _ _ ho;have aJ:Ext T.nx U (upd U id T.nx ⟨(U id st).ep+1,0,fun _=>[]⟩):=RT
  have obs:∀i s x',Aw (frzH id st o T.h) i=some (s,x')->∃x,Aw T.h i=some (s,x)/\x'=frzO id st o x:=by
   intro i s x' h;rw[KR]at h;cases hx:Aw T.h i with
   |none=>rw[hx]at h;cases h
   |some q=>obtain⟨s1,x⟩:=q;rw[hx]at h;cases h;exact⟨x,rfl,rfl⟩
  have obn:∀i,Aw T.h i=none->Aw (frzH id st o T.h) i=none:=fun i h=>by rw[KR,h]
  have at_id:hO (upd U id T.nx ⟨(U id st).ep+1,0,fun _=>[]⟩) id (Aw ((id,T.nx,TO.gone) :: frzH id st o T.h) id)=.gone ((U id st).ep+1):=by rw[Cr,Aj rfl];show Ad.gone (upd U id T.nx _ id T.nx).ep=_;rw[yzj]
  have at_i:∀i,i≠id->(Aw T.h i=none/\hO (upd U id T.nx ⟨(U id st).ep+1,0,fun _=>[]⟩) i (Aw ((id,T.nx,TO.gone) :: frzH id st o T.h) i)=U.X i) \/ ∃s x,Aw T.h i=some (s,x)/\hO (upd U id T.nx ⟨(U id st).ep+1,0,fun _=>[]⟩) i (Aw ((id,T.nx,TO.gone) :: frzH id st o T.h) i)=eO (upd U id T.nx ⟨(U id st).ep+1,0,fun _=>[]⟩) (U i s).ep (frzO id st o x):=by
   intro i aI;rw[Cr,Ag (fun e=>aI e.symm)];cases hx:Aw T.h i with
   |none=>rw[obn i hx];exact .inl ⟨rfl,rfl⟩
   |some q =>obtain⟨s,x⟩:=q;refine .inr ⟨s,x,rfl,?_⟩;rw[KR,hx];show eO (upd U id T.nx ⟨(U id st).ep+1,0,fun _=>[]⟩) (upd U id T.nx _ i s).ep _=_;rw[aJ.s i s (hI.ob _ _ _ hx).1]
  have hid:=hI.fr.ro _ _ ho
  have fu:∀i p,Aw ((id,T.nx,TO.gone) :: frzH id st o T.h) i=some p->inR T.b i=true:=by
   intro i p e;rw[Cr]at e;by_cases h:id=i
   ·subst h;exact hid
   ·rw[Ag h]at e;obtain⟨s,x'⟩:=p;obtain⟨x,h1,_⟩:=obs i s x' e;exact hI.fr.ro _ _ h1
  have mb:Aw T.h 1899≠none->Aw ((id,T.nx,TO.gone) :: frzH id st o T.h) 1899≠none:=by
   intro e;rw[Cr];split
   ·intro e;cases e
   ·rw[KR];cases hx:Aw T.h 1899 with
    |none=>exact absurd hx e
    |some q=>intro e;cases e
  have mc:Fr (upd U id T.nx ⟨(U id st).ep+1,0,fun _=>[]⟩) ⟨frzT id st o T.t,(id,T.nx,.gone) :: frzH id st o T.h,T.nx+1,T.n,T.gs,frzW id st T.t T.w,id :: Ev id st T.h T.wo,T.b,T.rf⟩:=hI.fr.of rfl rfl rfl rfl rfl fu;refine⟨upd U id T.nx ⟨(U id st).ep+1,0,fun _=>[]⟩,⟨fun i=>?_,fun i hi=>?_,fun i s o' dj=>?_,mc⟩,⟨rfl,HA _,aJ,fun i hi=>?_,fun i hi=>?_,.same rfl rfl (fun h=>(NR (fun e=>h (AR _ e))).1) rfl rfl (fun e=>mb e)⟩,rfl,?_⟩
  ·show TOk _ _ (Az (frzT id st o T.t) i);rw[FU];have hx:=hI.sl i;revert hx;cases Az T.t i with
   |v x =>intro hx;obtain⟨k1,k2,k3,k4⟩:=Sj (id:=id) (st:=st) (o:=o) aJ hx.1 aB;exact⟨k1,k2 hx.2⟩
   |cnd a b c y =>intro hx;obtain⟨q1,q2,q3,q4⟩:=hx;refine⟨FQ (HA _) q1,fun e=>Jf aJ q1 (q2 e),q3,?_⟩;show gdT b (Az (frzT id st o T.t) a)=_;rw[FU,<-q4];exact wzrd
  ·show Az (frzT id st o T.t) i=_;rw[FU,hI.hi i hi];rfl
  ·have dj:Aw ((id,T.nx,TO.gone) :: frzH id st o T.h) i=some (s,o'):=dj;rw[Cr]at dj;by_cases h:id=i
   ·rw[Aj h]at dj;cases dj;exact⟨Dc _,trivial,trivial⟩
   ·rw[Ag h]at dj;obtain⟨x,h1,rfl⟩:=obs i s o' dj;obtain⟨q1,q2,q3⟩:=hI.ob _ _ _ h1;obtain⟨k1,k2,_,_⟩:=Sk (id:=id) (st:=st) (o:=o) (e:=0) aJ q3 q2 aB;exact⟨Nat.lt_succ_of_lt q1,Sb aJ q1 k2,k1⟩
  ·obtain⟨h1,h2⟩:=NQ (l:=T.t) (w:=T.w) hi;refine⟨h1,?_⟩;show eT _ (Az (frzT id st o T.t) i)=_;rw[FU];have hx:=hI.sl i;revert hx h2;cases Az T.t i with
   |v x =>intro h2 hx;show eP _ (frzP id st o x)=eP U x;rw[qz9p (h2 x rfl)];exact Je aJ hx.1
   |cnd a b c y=>intro _ hx;exact Jg aJ (x:=.cnd a b c y) hx.1
  ·have hi:i∉id :: Ev id st T.h T.wo:=hi;simp only[AV,DQ]at hi;obtain⟨h1,h2⟩:=NR hi.2;refine⟨h1,fun _=>?_⟩;show hO _ i (Aw ((id,T.nx,TO.gone) :: frzH id st o T.h) i)=_;rcases at_i i hi.1 with ⟨k1,k2⟩|⟨s,x,k1,k2⟩
   ·rw[k2,k1];rfl
   ·obtain⟨_,_,q3⟩:=hI.ob _ _ _ k1;rw[k2,k1,wzo5 (h2 s x k1) q3];exact NM aJ q3
  ·by_cases hc:∃c,o=.own c []
   ·have hg:(em U T).h id=.gone (U id st).ep:=by
     rw[em_h,ho];obtain⟨c,rfl⟩:=hc;rfl
    have fq:∀D∈U.ds,D.1≠id:=fun D hD e=>by have:=(hI.fr.dd D hD).2.1;have:=yzi hid;omega
    refine(See.bumpH (t:=tl (eTm U T.t) T.n) (ds:=U.ds) id (U id st).ep hg).trans (.pw (t:=tl (eTm U T.t) T.n) (t':=tl (eTm _ (frzT id st o T.t)) T.n) ?_ (fun i=>?_) fun D hD=>?_)
    ·refine .of (by rw[EM,EM]) fun i x y hx hy=>?_;rw[Ea]at hx hy;split at hx
     ·rename_i hi;rw[Aj hi]at hy;cases hx;cases hy;rw[Lp,Lp,FU];have hx:=hI.sl i;revert hx;cases Az T.t i with
      |v x=>intro hx;exact(Sj (id:=id) (st:=st) (o:=o) aJ hx.1 aB).2.2.1 hc
      |cnd a b c y=>intro hx;rw[Jg aJ (x:=.cnd a b c y) hx.1];exact .refl _
     ·cases hx
    ·show WO (if i=id then .gone ((U id st).ep+1) else(em U T).h i) (hO _ i (Aw ((id,T.nx,TO.gone) :: frzH id st o T.h) i));by_cases h:i=id
     ·rw[Aj h,h,at_id];exact G9.2 trivial
     ·rw[Ag h,em_h];rcases at_i i h with ⟨k1,k2⟩|⟨s,x,k1,k2⟩
      ·rw[k1,k2];exact G9.2 trivial
      ·obtain⟨_,q2,q3⟩:=hI.ob _ _ _ k1;rw[k1,k2];exact(Sk (id:=id) (st:=st) (o:=o) aJ q3 q2 aB).2.2.1 hc
    ·show hO _ D.1 (Aw ((id,T.nx,TO.gone) :: frzH id st o T.h) D.1)=_;rcases at_i D.1 (fq D hD) with ⟨k1,k2⟩|⟨s,x,k1,k2⟩
     ·rw[k2];exact(hI.fr.dd D hD).1
     ·have h1:=yzi (hI.fr.ro _ _ k1);have h2:=(hI.fr.dd D hD).2.1;omega
   ·have hc:∀c,o≠.own c []:=fun c e=>hc ⟨c,e⟩;refine See.freeze (id:=id) (o:=eO U (U id st).ep o) (Hm ho) ?_ qzq2 ?_ (fun j hj=>?_) ?_ rfl
    ·cases o with
     |gone=>exact absurd rfl aI
     |map k v l=>exact absurd rfl (fA k v l)
     |box cs=>rfl
     |vec c l=>rfl
     |own c l=>cases l with
      |nil=>exact absurd rfl (hc c)
      |cons y l=>rfl
    ·rw[em_h,N9];exact at_id
    ·rw[em_h,em_h];rcases at_i j hj with ⟨k1,k2⟩|⟨s,x,k1,k2⟩
     ·refine .inl ?_;rw[k1];exact k2
     ·obtain⟨_,q2,q3⟩:=hI.ob _ _ _ k1;have:=(Sk (id:=id) (st:=st) (o:=o) (e:=(U j s).ep) aJ q3 q2 aB).2.2.2 hc;rw[<-k2]at this;rw[k1];exact this
    ·refine FVl.map (l:=List.range T.n) fun i _=>?_;show FV id _ (look (eTm U T.t) i) (look (eTm _ (frzT id st o T.t)) i);rw[Lp,Lp,FU];have hx:=hI.sl i;revert hx;cases Az T.t i with
     |v x=>intro hx;exact(Sj (id:=id) (st:=st) (o:=o) aJ hx.1 aB).2.2.2 hc
     |cnd a b c y=>intro hx;rw[Jg aJ (x:=.cnd a b c y) hx.1];exact .refl _
 cases ho:Aw T.h id with
 |none=>exact none' (by unfold frz1;rw[ho])
 |some p =>
  obtain⟨st,o⟩:=p;cases o with
  |gone=>exact none' (by unfold frz1;rw[ho])
  |map k v l=>exact none' (by unfold frz1;rw[ho])
  |box cs=>exact main st _ ho (by intro e;cases e) (by intro k v l e;cases e) (by unfold frz1;rw[ho])
  |vec c l=>exact main st _ ho (by intro e;cases e) (by intro k v l e;cases e) (by unfold frz1;rw[ho])
  |own c l=>exact main st _ ho (by intro e;cases e) (by intro k v l e;cases e) (by unfold frz1;rw[ho])
theorem KS:∀(l:List Nat) {U:Phi} {T:Av},InvT U T->∃U',InvT U' (frzA T l)/\Log U T U' (frzA T l)/\(frzA T l).gs=T.gs/\See TabT.E (em U T) (em U' (frzA T l))
 |[],U,T,hI=>⟨U,hI,.refl _ _,rfl,.refl _⟩
 |id :: l,U,T,hI=>by obtain⟨U1,h1,h2,h3,h4⟩:=wzqv hI id;obtain⟨U2,k1,k2,k3,k4⟩:=KS l h1;exact⟨U2,k1,h2.trans k2,k3.trans h3,h4.trans k4⟩
def CW(T:Av):Prop:=∀i a b c x,Az T.t i=.cnd a b c x->i∈T.w
theorem wzsh{x:PV}{y:Aa}:eP U x≠.cnd g y:=by
 cases x with
 |s v=>cases v with
  |_=>intro h;cases h
 |own id st =>show(match (U id st).n with | 0=>Aa.nils | n+1=>.vec id (U id st).ep 0 (n+1))≠_;cases (U id st).n<;>(intro h;cases h)
 |_=>intro h;cases h
theorem CW.log{U':Phi}{T':Av}(h:CW T)(L:Log U T U' T'):CW T':=by
 intro i a b c x hx;apply Classical.byContradiction;intro hi;obtain⟨h1,h2⟩:=L.sl i hi;rw[hx]at h2;cases hy:Az T.t i with
 |v y=>rw[hy]at h2;exact wzsh h2.symm
 |cnd a b c y=>exact h1 (h i _ _ _ _ hy)
theorem CW.of(hI:InvT U T)(hg:T.gs=[]):CW T:=by intro i a b c x hx;have:=hI.sl i;rw[hx]at this;obtain⟨_,_,h,_⟩:=this;rw[hg]at h;cases h
theorem Jj:∀{l:List (Nat×TV)} {i:Nat},Az (Dw l) i=(match Az l i with | .v x=>.v x | _=>.v (.s .top))
 |[],i=>rfl
 |(j,.v x) :: l,i=>by
  show Az ((j,.v x) :: Dw l) i=_;rw[Bt,Bt];split
  ·rfl
  ·exact Jj
 |(j,.cnd a b c x) :: l,i=>by
  show Az ((j,.v (.s .top)) :: Dw l) i=_;rw[Bt,Bt];split
  ·rfl
  ·exact Jj
theorem qzy9(hI:InvT U T)(hC:CW T):InvT U (endT T)/\Log U T U (endT T)/\(endT T).gs=[]/\See TabT.E (em U T) (em U (endT T)):=by
 cases hg:T.gs with
 |nil =>
  have e:endT T=T:=by unfold endT;rw[hg]
  rw[e];exact⟨hI,.refl _ _,hg,.refl _⟩
 |cons a l =>
  have e:endT T=⟨Dw T.t,T.h,T.nx,T.n,[],T.w,T.wo,T.b,T.rf⟩:=by unfold endT;rw[hg]
  rw[e]
  have fG:InvT U ⟨Dw T.t,T.h,T.nx,T.n,[],T.w,T.wo,T.b,T.rf⟩:=by
   refine⟨fun i=>?_,fun i hi=>?_,hI.ob,hI.fr.ofh rfl rfl rfl rfl rfl rfl⟩
   ·show TOk _ _ (Az (Dw T.t) i);rw[Jj];have hx:=hI.sl i;revert hx;cases Az T.t i with
    |v x=>exact fun hx=>hx
    |cnd a b c y=>exact fun _=>⟨trivial,trivial⟩
   ·show Az (Dw T.t) i=_;rw[Jj,hI.hi i hi]
  refine⟨fG,⟨rfl,AA _,.refl _ _,fun i hi=>⟨hi,?_⟩,fun i hi=>⟨hi,fun _=>rfl⟩,.same rfl rfl id rfl rfl id⟩,rfl,wzbg fG rfl rfl (fun i=>?_) fun i=>G9.2 trivial⟩
  ·show eT U (Az (Dw T.t) i)=_;rw[Jj];cases hx:Az T.t i with
   |v x=>rfl
   |cnd a b c y=>exact absurd (hC i _ _ _ _ hx) hi
  ·show W _ (eT U (Az (Dw T.t) i));rw[Jj];cases Az T.t i with
   |v x=>exact .refl _
   |cnd a b c y=>exact .top _
theorem wzpi[TabOk]{H:List Fe}{o:Ak}{x:Ae}{l:List Ae}{K:Av->Option α}{r:α}(hI:InvT U T)(hC:CW T)(hg:o.guard=none)(aT:o.op=.callf f (x :: l))(h:inwT H T o.dst f x l K=some r) :
  aop TabT.E TabT.P o (em U T) fun S'=>∃U' T',K T'=some r/\InvT U' T'/\Log U T U' T'/\CW T'/\S'=em U' T':=by
 unfold inwT at h;split at h
 ·rename_i C id st vs h1 h2 h3;split at h
  ·rename_i st' c m y h4 h5;split at h
   ·rename_i m1 h6;obtain⟨hd,h⟩:=AJ h;obtain⟨p1,h⟩:=AJ h;obtain⟨m2,hF,hK⟩:=NP h;obtain rfl:=AN.1 p1;have hA:=FT hI;obtain⟨g1,g2,g3,g4⟩:=EY h6;subst g4
    have e1:m1=m:=by
     unfold B9 at h6;split at h6
     ·cases h6;rfl
     ·cases h6
    subst e1;obtain⟨o1,o2,o3⟩:=hA.own h4;have hv:Ah TabT.E (em U T).t x=ownV id (U id st).ep m1:=by rw[(hA.a _ _ h2).1];show(match (U id st).n with | 0=>Aa.nils | n+1=>.vec id (U id st).ep 0 (n+1))=_;rw[o2];cases m1<;>rfl
    unfold aop;simp only[hg,aT];rw[Ot,hv,Hq hA h3,<-N1 h1];refine(ATr.w (args:=ownV id (U id st).ep m1 :: Ax vs) (C.ok.ok m1 y m2 _ id _ hF o1) ⟨.refl _,KF h5⟩).mono ?_;rintro v h' ⟨rfl,rfl,hl⟩;have aQ:=hI.fr.ro _ _ h4;obtain⟨i1,l1,em1⟩:=Sg hI (id:=id) (ob:=.own C.c m2) (re:=true) (G:=⟨(U id st).ep,m2.length,Ai C.c.cA m2⟩) aQ ⟨rfl,rfl⟩ trivial (fun _=>⟨st,_,h4,rfl,by rw[o2,hl]⟩);refine⟨fun D hD=>?_,?_⟩
    ·have aI:D.1≠id:=fun e=>by
      have k1:=(hI.fr.dd D hD).2.1;have k2:=yzi aQ;omega
     show(if D.1=id then _ else(em U T).h D.1)=_;rw[Ag aI];exact NB hI D hD
    ·have iP:Eu (putO T id (.own C.c m2) true) o.dst=true:=hd;refine⟨_,_,hK,Ff i1 iP ⟨trivial,trivial⟩,l1.trans NO,(hC.log l1).log (NO (U:=upd U id T.nx ⟨(U id st).ep,m2.length,Ai C.c.cA m2⟩)),?_⟩;rw[Hr,em1];rfl
   ·cases h
  ·cases h
 ·cases h
theorem wzoi[TabOk]{c:CT}{s:Nat}{x:Ae}{m:List c.T}(hI:InvT U T)(h:srcT T c s x=some m):∃X,W (Ah TabT.E (em U T).t x) X/\wzmc c m X (em U T).h s:=by
 have hA:=FT hI;unfold srcT at h;split at h
 ·rename_i v h1;exact⟨_,by rw[(hA.a _ _ h1).1];exact(Ny h).1,.inl rfl⟩
 ·rename_i id st h1;split at h
  ·rename_i st' c' m' ho;obtain⟨p1,k⟩:=AJ h;clear h;obtain rfl:=AN.1 p1
   have aI:id≠s:=by
    cases hb:Nat.beq id s
    ·exact Et.1 hb
    ·rw[hb]at k;cases k
   have h:B9 c' c m'=some m:=by
    cases hb:Nat.beq id s
    ·rw[hb]at k;exact k
    ·rw[hb]at k;cases k
   obtain⟨g1,g2,g3,g4⟩:=EY h;subst g4
   have e1:m=m':=by
    unfold B9 at h;split at h
    ·cases h;rfl
    ·cases h
   subst e1;obtain⟨o1,o2,o3⟩:=hA.own ho;have hv:Ah TabT.E (em U T).t x=ownV id (U id st).ep m:=by rw[(hA.a _ _ h1).1];show(match (U id st).n with | 0=>Aa.nils | n+1=>.vec id (U id st).ep 0 (n+1))=_;rw[o2];cases m<;>rfl
   rw[hv];cases m with
   |nil=>exact⟨_,.nil _ _,.inl rfl⟩
   |cons y m=>exact⟨_,.refl _,.inr ⟨id,_,0,y :: m,aI,rfl,o1,by omega,fun k _=>by rw[Bn]⟩⟩
  ·cases h
 ·rename_i id st h1;split at h
  ·rename_i st' c' m' ho;obtain⟨p1,k⟩:=AJ h;clear h;obtain rfl:=AN.1 p1
   have aI:id≠s:=by
    cases hb:Nat.beq id s
    ·exact Et.1 hb
    ·rw[hb]at k;cases k
   have h:B9 c' c m'=some m:=by
    cases hb:Nat.beq id s
    ·rw[hb]at k;exact k
    ·rw[hb]at k;cases k
   obtain⟨g1,g2,g3,g4⟩:=EY h;subst g4
   have e1:m=m':=by
    unfold B9 at h;split at h
    ·cases h;rfl
    ·cases h
   subst e1;have o1:=Hm (U:=U) ho;have o2:(U id st).n=m.length:=(hI.ob _ _ _ ho).2.1.1;refine⟨_,.refl _,.inr ⟨id,(U id st).ep,0,m,aI,?_,o1,by omega,fun k _=>by rw[Bn]⟩⟩;rw[(hA.a _ _ h1).1];show Aa.vec id (U id st).ep 0 (U id st).n=_;rw[o2]
  ·cases h
 ·rename_i id st lo hi h1;split at h
  ·rename_i st' c' m' ho;obtain⟨p1,k⟩:=AJ h;clear h;obtain rfl:=AN.1 p1
   have aI:id≠s:=by
    cases hb:Nat.beq id s
    ·exact Et.1 hb
    ·rw[hb]at k;cases k
   have h:(match B9 c' c m' with
    |some m=>some (sub m lo hi)
    | none=>none)=some m:=by
    cases hb:Nat.beq id s
    ·rw[hb]at k;exact k
    ·rw[hb]at k;cases k
   split at h
   ·rename_i m1 hm;cases h;have h:=hm;obtain⟨g1,g2,g3,g4⟩:=EY h;subst g4
    have e1:m1=m':=by
     unfold B9 at h;split at h
     ·cases h;rfl
     ·cases h
    subst e1;have o1:=Hm (U:=U) ho;have o2:(U id st).n=m1.length:=(hI.ob _ _ _ ho).2.1.1;obtain⟨q1,q2,q3⟩:0<=lo/\lo<=hi/\hi<=(U id st).n:=(hA.a _ _ h1).2.2 trivial;have hs:CC m1 lo hi=true:=by simp[CC];omega
    have hl:=wza2 hs;refine⟨_,.refl _,.inr ⟨id,(U id st).ep,lo.toNat,m1,aI,?_,o1,by rw[hl];omega,fun k hk=>?_⟩⟩
    ·rw[(hA.a _ _ h1).1,hl];rfl
    ·rw[hl]at hk;unfold Ai sub;rw[List.getElem?_take_of_lt hk,Ge]
   ·cases h
  ·cases h
 ·cases h
theorem wzrv[TabOk]{H:List Fe}{o:Ak}{x:Ae}{l:List Ae}{K:Av->Option α}{r:α}(hI:InvT U T)(hC:CW T)(hg:o.guard=none)(aT:o.op=.callf f (x :: l))(h:clnT H T o.dst f x l K=some r) :
  aop TabT.E TabT.P o (em U T) fun S'=>∃U' T',K T'=some r/\InvT U' T'/\Log U T U' T'/\CW T'/\S'=em U' T':=by
 unfold clnT at h;split at h
 ·rename_i C d h1 bQ;split at h
  ·rename_i m vs h2 h3;split at h
   ·rename_i y h4;obtain⟨hd,h⟩:=AJ h;obtain⟨aQ,h⟩:=AJ h;obtain⟨m2,hF,hK⟩:=NP h;have hA:=FT hI;obtain⟨X,hX,ce⟩:=wzoi hI h2;unfold aop;simp only[hg,aT];rw[Ot,Hq hA h3,<-N2 h1];generalize hs:clS T.b d=s at *;refine(ATr.w (args:=Ah TabT.E (em U T).t x :: Ax vs) (C.ok.ok m y m2 X _ s hF (NA hI s aQ) ce) ⟨hX,KF h4⟩).mono ?_;rintro v h' ⟨ep,rfl,hl,rfl⟩;obtain⟨i1,l1,em1⟩:=Sg hI (id:=s) (ob:=.vec C.c m2) (re:=false) (G:=⟨ep,m2.length,Ai C.c.cA m2⟩) aQ ⟨rfl,rfl⟩ trivial (fun e=>by cases e);refine⟨fun D hD=>?_,?_⟩
    ·have aI:D.1≠s:=fun e=>by
      have k1:=(hI.fr.dd D hD).2.1;have k2:=yzi aQ;omega
     show(if D.1=s then _ else(em U T).h D.1)=_;rw[Ag aI];exact NB hI D hD
    ·have iP:Eu (putO T s (.vec C.c m2) false) (some d)=true:=hd;refine⟨_,_,hK,Ff i1 iP ⟨Dc _,trivial⟩,l1.trans NO,(hC.log l1).log (NO (U:=upd U s T.nx ⟨ep,m2.length,Ai C.c.cA m2⟩)),?_⟩;rw[Hr,em1,bQ];have e1:eT (upd U s T.nx ⟨ep,m2.length,Ai C.c.cA m2⟩) (.v (.vec s T.nx))=.vec s ep 0 m2.length:=by show Aa.vec s (upd U s T.nx ⟨ep,m2.length,Ai C.c.cA m2⟩ s T.nx).ep 0 (upd U s T.nx ⟨ep,m2.length,Ai C.c.cA m2⟩ s T.nx).n=_;rw[yzj]
     rw[e1];rfl
   ·cases h
  ·cases h
 ·cases h
theorem wzrk[TabOk]{H:List Fe}{o:Ak}{K:Av->Option α}{r:α}(hI:InvT U T)(hC:CW T)(hg:o.guard=none)(h:inpT H T o K=some r) :
  aop TabT.E TabT.P o (em U T) fun S'=>∃U' T',K T'=some r/\InvT U' T'/\Log U T U' T'/\CW T'/\S'=em U' T':=by
 unfold inpT at h;split at h
 ·rename_i f x l aT;split at h
  ·exact wzrv hI hC hg aT h
  ·exact wzpi hI hC hg aT h
 ·cases h
theorem wzwk{H:List Fe}{o:Ak}(h:isW H o=true):o.guard=none:=by
 unfold isW at h;split at h
 ·assumption
 ·cases h
theorem Sl[TabOk]{α:Type}{H:List Fe}{ty:List (Nat×CT)}:∀{ops:List Ak} {U:Phi} {T:Av} {K:Av->Option α} {r:α},regT H ty ops T K=some r->InvT U T->CW T ->
  aseq TabT.E TabT.P ops (em U T) fun S'=>∃U' T',K T'=some r/\InvT U' T'/\Log U T U' T'/\T'.gs=[]/\See TabT.E S' (em U' T')
 |[],U,T,K,r,h,hI,hC=>by obtain⟨h1,h2,h3,h4⟩:=qzy9 hI hC;exact⟨_,.refl _,U,endT T,h,h1,h2,h3,h4⟩
 |o :: ops,U,T,K,r,h,hI,hC=>by
  have h:(fun T=>Ac (isW H o) (inpT H T o fun T'=>regT H ty ops T' K) (Fa H ty T o fun T' _ _=>regT H ty ops T' K)) (frzA T (N8 H T o))=some r:=h;obtain⟨U1,i1,l1,g1,s1⟩:=KS (N8 H T o) hI;have mX:=hC.log l1;refine⟨_,s1,?_⟩;generalize frzA T (N8 H T o)=T1 at *;have h:Ac (isW H o) (inpT H T1 o fun T'=>regT H ty ops T' K) (Fa H ty T1 o fun T' _ _=>regT H ty ops T' K)=some r:=h;have rest:∀{S':Au},(∃U2 T2,regT H ty ops T2 K=some r/\InvT U2 T2/\Log U1 T1 U2 T2/\CW T2/\S'=em U2 T2)->aseq TabT.E TabT.P ops S' fun S'=>∃U' T',K T'=some r/\InvT U' T'/\Log U T U' T'/\T'.gs=[]/\See TabT.E S' (em U' T'):=by rintro S' ⟨U2,T2,hk,i2,l2,c2,rfl⟩;refine(Sl hk i2 c2).mono ?_;rintro S ⟨U',T',k1,k2,k3,k4,k5⟩;exact⟨U',T',k1,k2,(l1.trans l2).trans k3,k4,k5⟩
  cases hw:isW H o
  ·rw[hw]at h;replace h:Fa H ty T1 o (fun T' _ _=>regT H ty ops T' K)=some r:=h;obtain⟨U2,T2,rd,out,hk,hS⟩:=qz5m i1 h;obtain⟨v,ob,d1,d2,d3⟩:=hS.ex;have k5:=Sl hk hS.inv (mX.log hS.log);refine(Uu (NB i1) d1).mono ?_;rintro S' ⟨v',out',e1,e2,rfl⟩;rw[d3]at k5;refine .see (.veq (qzta e1).1 (qzta e1).2 e2.put) (k5.mono ?_);rintro S ⟨U',T',k1,k2,k3,k4,k5⟩;exact⟨U',T',k1,k2,(l1.trans hS.log).trans k3,k4,k5⟩
  ·rw[hw]at h;replace h:inpT H T1 o (fun T'=>regT H ty ops T' K)=some r:=h;exact(wzrk i1 mX (wzwk hw) h).mono fun S'=>rest
def qzq7(U:Phi)(T:Av)(o:Ak)(K:Av->List Nat->Option Nat->Option α)(r:α):Prop := ∃U' T' rd out,K T' rd out=some r/\InvT U' T'/\Log U T U' T'/\GK T T'/\∃v ob,B6 TabT.E TabT.P o (em U T) v rd ob/\out=ob.map (·.1)/\em U' T'=⟨putT (em U T).t o.dst v,putH (em U T).h ob,U.ds⟩
theorem qztd[TabOk]{H:List Fe}{ty:List (Nat×CT)}{o:Ak}{K:Av->List Nat->Option Nat->Option α}{r:α}(hI:InvT U T)(h:Fa H ty T o K=some r):qzq7 U T o K r:=by obtain⟨U',T',rd,out,k,S⟩:=qz5m hI h;obtain⟨v,ob,d1,d2,d3⟩:=S.ex;exact⟨U',T',rd,out,k,S.inv,S.log,S.gk,v,ob,.inl d1,d2,d3⟩
theorem qzvq[TabOk]{α:Type}{H:List Fe}{ty:List (Nat×CT)}:∀{ops:List Ak} {U:Phi} {T:Av} {K:Av->List (List Nat×Option Nat)->Option α} {r:α},KK H ty ops T K=some r->InvT U T -> ∃U' T' tr,K T' tr=some r/\InvT U' T'/\Log U T U' T'/\∀K':Au->List (List Nat×Option Nat)->Prop,K' (em U' T') tr->G7 TabT.E TabT.P ops (em U T) K'
 |[],U,T,K,r,h,hI=>⟨U,T,[],h,hI,.refl _ _,fun K' k=>k⟩
 |o :: ops,U,T,K,r,h,hI=>by obtain⟨U2,T2,rd,out,hK,s1,s2,g2,v,ob,d1,d2,d3⟩:=qztd hI (show Fa H ty T o (fun T' rd out=>KK H ty ops T' fun T'' tr=>K T'' ((rd,out) :: tr))=some r from h);obtain⟨U3,T3,tr,k1,k2,k3,k4⟩:=qzvq hK s1;refine⟨U3,T3,(rd,out) :: tr,k1,k2,s2.trans k3,fun K' kk=>⟨v,rd,ob,d1,?_⟩⟩;have:=k4 (fun S' tr=>K' S' ((rd,ob.map (·.1)) :: tr)) (by rw[<-d2];exact kk);rw[d3]at this;exact this
end
end
theorem CZ{p:Nat×Y}{l:List (Nat×Y)}:hasK i (p :: l)=if p.1=i then true else hasK i l:=by
 show Ac (Nat.beq p.1 i) _ _=_;cases h:Nat.beq p.1 i
 ·rw[Ag (Et.1 h)];rfl
 ·rw[Aj (AN.1 h)];rfl
theorem NS{l:List Nat}(h:memN i l=false):i∉l:=fun e=>by rw[Hl.2 e]at h;cases h
theorem KT{x:Bool}(h:Ac c false x=true):c=false/\x=true:=by cases c<;>first|exact⟨rfl,h⟩|cases h
theorem BK{x:Bool}(h:Ac c x false=true):c=true/\x=true:=by cases c<;>first|exact⟨rfl,h⟩|cases h
theorem Sn{b i:Nat}:∀{ob:List (Nat×OH)},obR b ob=true->hasK i ob=true->inR b i=true
 |[],_,h=>by cases h
 |p :: l,h,k=>by
  have h:Ac (inR b p.1) (obR b l) false=true:=h;obtain⟨h1,h2⟩:=BK h;rw[CZ]at k;by_cases e:p.1=i
  ·rw[<-e];exact h1
  ·rw[Ag e]at k;exact Sn h2 k
theorem wzgz{n i:Nat}(hn:n<=i):∀{sl:List (Nat×SH)},ltK n sl=true->hasK i sl=false
 |[],_=>rfl
 |p :: l,h=>by
  have h:Ac (Nat.blt p.1 n) (ltK n l) false=true:=h;obtain⟨h1,h2⟩:=BK h;have h1:p.1<n:=by simpa [Gu] using h1
  rw[CZ,Ag (by omega)];exact wzgz hn h2
section
variable [Tab]
def Rv(x y:SV):Prop:=W (A6 x) (A6 y)/\(∀c m,x=.slc c m->y=x)/\∀k v m,x=.mpv k v m->y=x
def Rvs:List SV->List SV->Prop
 |[],[]=>True
 |x :: l,y :: m=>Rv x y/\Rvs l m
 |_,_=>False
theorem Rvs.split:∀{a b v:List SV},Rvs (a++b) v->∃a' b',v=a'++b'/\Rvs a a'/\Rvs b b'/\a'.length=a.length
 |[],b,v,h=>⟨[],v,rfl,trivial,h,rfl⟩
 |x :: a,b,[],h=>h.elim
 |x :: a,b,y :: v,h=>by obtain⟨a',b',e,h1,h2,h3⟩:=Rvs.split (a:=a) h.2;exact⟨y :: a',b',by rw[e];rfl,⟨h.1,h1⟩,h2,by simp[h3]⟩
theorem wzc9[TabOk]{c:CT}{v:SV}{x:c.T}(h:ofW c v=some x):Rv v (wT c x):=by
 refine⟨Dv h,fun c' m e=>?_,fun k' v' m e=>?_⟩
 ·subst e;cases c with
  |us i=>have h:(none:Option (TabT.T i))=some x:=h;cases h
  |int k=>have h:(none:Option Int)=some x:=h;cases h
  |bool=>have h:(none:Option Bool)=some x:=h;cases h
  |str=>have h:(none:Option (List UInt8))=some x:=h;cases h
  |fn i=>have h:(none:Option (FnV i))=some x:=h;cases h
  |mp k v=>have h:(none:Option (List (k.T×v.T)))=some x:=h;cases h
  |slc c =>
   have h:B9 c' c m=some x:=h;unfold B9 at h;split at h
   ·rename_i e _;subst e;cases h;rfl
   ·cases h
 ·subst e;cases c with
  |us i=>have h:(none:Option (TabT.T i))=some x:=h;cases h
  |int k=>have h:(none:Option Int)=some x:=h;cases h
  |bool=>have h:(none:Option Bool)=some x:=h;cases h
  |str=>have h:(none:Option (List UInt8))=some x:=h;cases h
  |fn i=>have h:(none:Option (FnV i))=some x:=h;cases h
  |slc c=>have h:(none:Option (List c.T))=some x:=h;cases h
  |mp k v =>
   have h:Rj k' v' k v m=some x:=h;unfold Rj at h;split at h
   ·rename_i e1 e2 _ _;subst e1;subst e2;cases h;rfl
   ·cases h
theorem qzyd[TabOk]:∀(c:CT) (l:List CT) (v:List SV) (r:RowC c.T l),IP c l v=some r->Rvs v (Hc c l r)
 |c,[],v,r,h=>by obtain⟨u,rfl,h⟩:=DK (f:=ofW c) h;exact⟨wzc9 h,trivial⟩
 |c,d :: l,v,r,h=>by obtain⟨y,q,rfl,h1,h2⟩:=IV (f:=ofW c) (g:=IP d l) h;exact⟨wzc9 h1,qzyd d l q r.2 h2⟩
theorem wzhu[TabOk]{l:List CT}{v:List SV}{r:Row l}(h:Nr l v=some r):Rvs v (rowW l r):=by
 cases l with
 |nil=>rw[IW h];exact trivial
 |cons c l=>exact qzyd c l v r h
theorem qzw1{v:SV}{l:List SV}(h:v.cells=some l):v=.agg l\/(l=[v]/\(A6 v).one=true):=by
 cases v with
 |agg m=>cases h;exact .inl rfl
 |tup m=>cases h
 |top=>cases h
 |mpv k v l=>cases h
 |_=>cases h;exact .inr ⟨rfl,rfl⟩
theorem wzc6{x y:SV}{l m:List SV}(h:W (A6 x) (A6 y))(hx:x.cells=some l)(hy:y.cells=some m):Ws (Ax l) (Ax m):=by
 rcases qzw1 hx with rfl|⟨rfl,h1⟩<;>rcases qzw1 hy with rfl|⟨rfl,h2⟩
 ·exact Pd.1 h
 ·exfalso;have h:W (.agg (Ax l)) (A6 y):=h;revert h h2;generalize A6 y=b;intro h2 h;cases h<;>cases h2
 ·exfalso;have h:W (A6 x) (.agg (Ax m)):=h;revert h h1;generalize A6 x=a;intro h1 h;cases h<;>cases h1
 ·exact⟨h,trivial⟩
theorem qz6n(c:CT)(x:c.T)(h:∀k v,c≠.mp k v):(wT c x).cells=some (Du c x):=by
 cases c with
 |mp k v=>exact absurd rfl (h k v)
 |_=>rfl
theorem wzpq{v:SV}{a:Aa}(h:eqA1 v a=true):A6 v=a:=by
  cases v<;>cases a<;>simp only[eqA1]at h<;>first
    |(cases h;done)
    |rfl
    | (rename_i k n k' m
       by_cases e:k=k'
       · rw[Aj e]at h;subst e;rw[BC h];rfl
       · rw[Ag e]at h;cases h)
    |(rename_i a b;rw[qzp4.1 h];rfl)
    |(rename_i a b;rw[BC h];rfl)
section
variable {U0 U1:Phi}{T0 T1:Av}{ob:List (Nat×OH)}
inductive Sl1(T0 T1:Av)(ob:List (Nat×OH))(i:Nat):TV->Prop where
 |k (h:i∉T1.w) (k:kpP T0 T1 (Az T0.t i)=true):Sl1 T0 T1 ob i (Az T0.t i)
 |v (x0 x:SV) (h:Az T1.t i=.v (.s x0)) (w:W (A6 x0) (A6 x)):Sl1 T0 T1 ob i (.v (.s x))
 |own (id st:Nat) (h:Az T1.t i=.v (.own id st)) (k:curW T1 id st=true) (o:DL id ob=true):Sl1 T0 T1 ob i (.v (.own id T0.nx))
 |own0 (id:Nat) (h:Az T1.t i=.v (.s .nil)) (k:∀st o,Aw T1.h id=some (st,o)->o=.gone) (o:DL id ob=true):Sl1 T0 T1 ob i (.v (.own id T0.nx))
 |vec (id st:Nat) (h:Az T1.t i=.v (.vec id st)) (k:curO T1 id st=true) (o:Jd id ob=true):Sl1 T0 T1 ob i (.v (.vec id T0.nx))
 |ptr (id st off:Nat) (h:Az T1.t i=.v (.ptr id st off)) (k:curO T1 id st=true):Sl1 T0 T1 ob i (.v (.ptr id T0.nx off))
 |mp (id st:Nat) (h:Az T1.t i=.v (.mp id st)) (k:curO T1 id st=true):Sl1 T0 T1 ob i (.v (.mp id T0.nx))
theorem Ex{s:SH}{sl:List (Nat×SH)}{y:TV}{L:List (Nat×TV)}(h1:j=i->Sl1 T0 T1 ob i y)(h2:(hasK i sl=false/\Az L i=.v (.s .top))\/Sl1 T0 T1 ob i (Az L i)) : (hasK i ((j,s) :: sl)=false/\Az ((j,y) :: L) i=.v (.s .top))\/Sl1 T0 T1 ob i (Az ((j,y) :: L) i):=by
 rw[CZ,Bt];by_cases h:j=i
 ·rw[Aj h,Aj h];exact .inr (h1 h)
 ·rw[Ag h,Ag h];exact h2
theorem Ey{i:Nat}{rest:List SV}:∀{sl:List (Nat×SH)} {a a':List SV},svS T1 sl=some a->chS T0 T1 ob sl=true->Rvs a a' -> (hasK i sl=false/\Az (rbS T0 sl (a'++rest)) i=.v (.s .top))\/Sl1 T0 T1 ob i (Az (rbS T0 sl (a'++rest)) i)
 |[],a,a',_,_,_=>.inl ⟨rfl,rfl⟩
 |(j,.k) :: sl,a,a',h1,h2,h3=>by have h2:Ac (memN j T1.w) false (Ac (kpP T0 T1 (Az T0.t j)) (chS T0 T1 ob sl) false)=true:=h2;obtain⟨p1,h2⟩:=KT h2;obtain⟨p2,h2⟩:=BK h2;exact Ex (s:=.k) (fun e=>by subst e;exact .k (NS p1) p2) (Ey (sl:=sl) h1 h2 h3)
 |(j,.v c) :: sl,a,a',h1,h2,h3=>by
  simp only[svS]at h1;split at h1
  ·rename_i v r q1 q2;cases h1;cases a' with
   |nil=>exact h3.elim
   |cons y a'=>exact Ex (s:=.v c) (fun e=>by subst e;exact .v v y q1 h3.1.1) (Ey (sl:=sl) q2 h2 h3.2)
  ·cases h1
 |(j,.c b) :: sl,a,a',h1,h2,h3=>by
  simp only[chS]at h2;split at h2
  ·rename_i v q1;obtain⟨p1,h2⟩:=BK h2;have p1:=wzpq p1;have ih:=Ey (i:=i) (rest:=rest) (sl:=sl) h1 h2 h3;show(_/\Az ((match ofA1 b with | some x=>(j,.v (.s x)) | none=>(j,.v (.s .top))) :: rbS T0 sl (a'++rest)) i=_)\/Sl1 T0 T1 ob i (Az ((match ofA1 b with | some x=>(j,.v (.s x)) | none=>(j,.v (.s .top))) :: rbS T0 sl (a'++rest)) i);cases hb:ofA1 b with
   |none=>exact Ex (s:=.c b) (fun e=>by subst e;exact .v v .top q1 (.top _)) ih
   |some x=>exact Ex (s:=.c b) (fun e=>by subst e;exact .v v x q1 (by rw[p1,ND hb];exact .refl _)) ih
  ·cases h2
 |(j,.own id) :: sl,a,a',h1,h2,h3=>by
  simp only[chS]at h2;split at h2
  ·rename_i id' st q1;obtain⟨p1,h2⟩:=BK h2;obtain⟨p2,h2⟩:=BK h2;obtain⟨p3,h2⟩:=BK h2;have p2:=AN.1 p2;exact Ex (s:=.own id) (fun e=>by subst e;exact .own id st (by rw[q1,p2]) p3 p1) (Ey (sl:=sl) h1 h2 h3)
  ·rename_i q1;split at h2
   ·rename_i st ho;obtain⟨p1,h2⟩:=BK h2;exact Ex (s:=.own id) (fun e=>by subst e;exact .own0 id q1 (fun st o e=>by rw[ho]at e;cases e;rfl) p1) (Ey (sl:=sl) h1 h2 h3)
   ·rename_i ho;obtain⟨p1,h2⟩:=BK h2;exact Ex (s:=.own id) (fun e=>by subst e;exact .own0 id q1 (fun st o e=>by rw[ho]at e;cases e) p1) (Ey (sl:=sl) h1 h2 h3)
   ·cases h2
  ·cases h2
 |(j,.vec id) :: sl,a,a',h1,h2,h3=>by
  simp only[chS]at h2;split at h2
  ·rename_i id' st q1;obtain⟨p1,h2⟩:=BK h2;obtain⟨p2,h2⟩:=BK h2;obtain⟨p3,h2⟩:=BK h2;have p2:=AN.1 p2;exact Ex (s:=.vec id) (fun e=>by subst e;exact .vec id st (by rw[q1,p2]) p3 p1) (Ey (sl:=sl) h1 h2 h3)
  ·cases h2
 |(j,.ptr id off) :: sl,a,a',h1,h2,h3=>by
  simp only[chS]at h2;split at h2
  ·rename_i id' st off' q1;obtain⟨p1,h2⟩:=BK h2;obtain⟨p2,h2⟩:=BK h2;obtain⟨p3,h2⟩:=BK h2;have p1:=AN.1 p1;have p2:=AN.1 p2;exact Ex (s:=.ptr id off) (fun e=>by subst e;exact .ptr id st off (by rw[q1,p1,p2]) p3) (Ey (sl:=sl) h1 h2 h3)
  ·cases h2
 |(j,.mp id) :: sl,a,a',h1,h2,h3=>by
  simp only[chS]at h2;split at h2
  ·rename_i id' st q1;obtain⟨p1,h2⟩:=BK h2;obtain⟨p3,h2⟩:=BK h2;have p1:=AN.1 p1;exact Ex (s:=.mp id) (fun e=>by subst e;exact .mp id st (by rw[q1,p1]) p3) (Ey (sl:=sl) h1 h2 h3)
  ·cases h2
inductive Ob1(T0 T1:Av)(oA:List (Nat×OH))(id:Nat):Option (Nat×TO)->Prop where
 |k0 (h:id∉T1.wo) (p:Nat×TO) (e:Aw T0.h id=some p):Ob1 T0 T1 oA id (some p)
 |k1 (h:id∉T1.wo) (e:Aw T0.h id=none):Ob1 T0 T1 oA id (some (T0.nx,.gone))
 |gone:Ob1 T0 T1 oA id (some (T0.nx,.gone))
 |box (st:Nat) (cs cs':List SV) (h:Aw T1.h id=some (st,.box cs)) (w:Ws (Ax cs) (Ax cs')):Ob1 T0 T1 oA id (some (T0.nx,.box cs'))
 |own (st:Nat) (c:CT) (m:List c.T) (h:Aw T1.h id=some (st,.own c m)):Ob1 T0 T1 oA id (some (T0.nx,.own c m))
 |own0 (c:CT) (h:∀st o,Aw T1.h id=some (st,o)->o=.gone):Ob1 T0 T1 oA id (some (T0.nx,.own c []))
 |map (st:Nat) (k v:CT) (m:List (k.T×v.T)) (h:Aw T1.h id=some (st,.map k v m)):Ob1 T0 T1 oA id (some (T0.nx,.map k v m))
 |vec (st:Nat) (c:CT) (m:List c.T) (h:Aw T1.h id=some (st,.vec c m)):Ob1 T0 T1 oA id (some (T0.nx,.vec c m))
theorem wzjn{s:OH}{oA ob:List (Nat×OH)}{y:Nat×TO}{L:List (Nat×Nat×TO)}(h1:j=i->Ob1 T0 T1 oA i (some y))(h2:(hasK i ob=false/\Aw L i=none)\/Ob1 T0 T1 oA i (Aw L i)) : (hasK i ((j,s) :: ob)=false/\Aw ((j,y) :: L) i=none)\/Ob1 T0 T1 oA i (Aw ((j,y) :: L) i):=by
 rw[CZ,Cr];by_cases h:j=i
 ·rw[Aj h,Aj h];exact .inr (h1 h)
 ·rw[Ag h,Ag h];exact h2
theorem wzia[TabOk]{oA:List (Nat×OH)}{i:Nat}:∀{ob:List (Nat×OH)} {b b':List SV},svO T1 ob=some b->chO T0 T1 oA ob=true->Rvs b b' -> ((hasK i ob=false/\Aw (rbO T0 ob b') i=none)\/Ob1 T0 T1 oA i (Aw (rbO T0 ob b') i))/\(DL i ob=true->∃c m,Aw (rbO T0 ob b') i=some (T0.nx,.own c m))/\(Jd i ob=true->∃c m,Aw (rbO T0 ob b') i=some (T0.nx,.vec c m))
 |[],b,b',_,_,_=>⟨.inl ⟨rfl,rfl⟩,(fun h=>by cases h),fun h=>by cases h⟩
 |(j,s) :: ob,b,b',h1,h2,h3=>by
  have key:∃y b2 b2',rbO T0 ((j,s) :: ob) b'=(j,y) :: rbO T0 ob b2'/\svO T1 ob=some b2/\Rvs b2 b2'/\chO T0 T1 oA ob=true/\(j=i->Ob1 T0 T1 oA i (some y))/\((∃c,s=.own c)->∃c m,y=(T0.nx,.own c m))/\((∃c,s=.vec c)->∃c m,y=(T0.nx,.vec c m)):=by
   cases s with
   |k =>
    have h2:Ac (memN j T1.wo) false (chO T0 T1 oA ob)=true:=h2;obtain⟨p1,h2⟩:=KT h2;have e0:rbO T0 ((j,.k) :: ob) b'=(match Aw T0.h j with | some p=>(j,p) :: rbO T0 ob b' | none=>(j,T0.nx,.gone) :: rbO T0 ob b'):=rfl;cases ho:Aw T0.h j with
    |none =>rw[ho]at e0;exact⟨_,_,_,e0,h1,h3,h2,fun e=>(by subst e;exact .k1 (NS p1) ho),fun⟨c,e⟩=>(by cases e),fun⟨c,e⟩=>(by cases e)⟩
    |some p =>rw[ho]at e0;exact⟨_,_,_,e0,h1,h3,h2,fun e=>(by subst e;exact .k0 (NS p1) p ho),fun⟨c,e⟩=>(by cases e),fun⟨c,e⟩=>(by cases e)⟩
   |gone=>exact⟨_,_,_,rfl,h1,h3,h2,fun e=>.gone,fun⟨c,e⟩=>(by cases e),fun⟨c,e⟩=>(by cases e)⟩
   |box c =>
    simp only[svO]at h1;split at h1
    ·rename_i st cs r q1 q2;split at h1
     ·rename_i x q3;cases h1;cases b' with
      |nil=>exact h3.elim
      |cons y b' =>
       have e0:rbO T0 ((j,.box c) :: ob) (y :: b')=(match y.cells with | some cs=>(j,T0.nx,.box cs) | none=>(j,T0.nx,.gone)) :: rbO T0 ob b':=rfl;cases hy:y.cells with
       |none =>rw[hy]at e0;exact⟨_,_,_,e0,q2,h3.2,h2,fun e=>.gone,fun⟨c,e⟩=>(by cases e),fun⟨c,e⟩=>(by cases e)⟩
       |some cs' =>rw[hy]at e0;refine⟨_,_,_,e0,q2,h3.2,h2,fun e=>?_,fun⟨c,e⟩=>(by cases e),fun⟨c,e⟩=>(by cases e)⟩;subst e;refine .box st cs cs' q1 ((IY q3).1.trans ?_);rw[<-IX];exact wzc6 h3.1.1 (qz6n c x (fun k v e=>by subst e;cases q3)) hy
     ·cases h1
    ·cases h1
   |own c =>
    simp only[svO]at h1;split at h1
    ·rename_i st c' m r q1 q2;cases h1;cases b' with
     |nil=>exact h3.elim
     |cons y b' =>have hy:=h3.1.2.1 c' m rfl;subst hy;exact⟨(T0.nx,.own c' m),_,_,rfl,q2,h3.2,h2,fun e=>(by subst e;exact .own st c' m q1),fun _=>⟨c',m,rfl⟩,fun⟨c,e⟩=>(by cases e)⟩
    ·rename_i st r q1 q2;cases h1;cases b' with
     |nil=>exact h3.elim
     |cons y b' =>have hy:=h3.1.2.1 c [] rfl;subst hy;exact⟨(T0.nx,.own c []),_,_,rfl,q2,h3.2,h2,fun e=>(by subst e;exact .own0 c (fun st o e=>by rw[q1]at e;cases e;rfl)),fun _=>⟨c,[],rfl⟩,fun⟨c,e⟩=>(by cases e)⟩
    ·rename_i r q1 q2;cases h1;cases b' with
     |nil=>exact h3.elim
     |cons y b' =>have hy:=h3.1.2.1 c [] rfl;subst hy;exact⟨(T0.nx,.own c []),_,_,rfl,q2,h3.2,h2,fun e=>(by subst e;exact .own0 c (fun st o e=>by rw[q1]at e;cases e)),fun _=>⟨c,[],rfl⟩,fun⟨c,e⟩=>(by cases e)⟩
    ·cases h1
   |vec c =>
    simp only[svO]at h1;split at h1
    ·rename_i st c' m r q1 q2;cases h1;cases b' with
     |nil=>exact h3.elim
     |cons y b' =>have hy:=h3.1.2.1 c' m rfl;subst hy;exact⟨(T0.nx,.vec c' m),_,_,rfl,q2,h3.2,h2,fun e=>(by subst e;exact .vec st c' m q1),fun⟨c,e⟩=>(by cases e),fun _=>⟨c',m,rfl⟩⟩
    ·cases h1
   |map kk vv =>
    simp only[svO]at h1;split at h1
    ·rename_i st k' v' m r q1 q2;cases h1;cases b' with
     |nil=>exact h3.elim
     |cons y b' =>have hy:=h3.1.2.2 k' v' m rfl;subst hy;exact⟨(T0.nx,.map k' v' m),_,_,rfl,q2,h3.2,h2,fun e=>(by subst e;exact .map st k' v' m q1),fun⟨c,e⟩=>(by cases e),fun⟨c,e⟩=>(by cases e)⟩
    ·cases h1
  obtain⟨y,b2,b2',k1,k2,k3,k4,k5,k6,k7⟩:=key;obtain⟨r1,r2,r3⟩:=wzia (i:=i) k2 k4 k3;rw[k1];refine⟨wzjn k5 r1,fun h=>?_,fun h=>?_⟩
  ·have h:Ac (Nat.beq j i) (match (generalizing:=false) s with | .own _=>true | _=>false) (DL i ob)=true:=h;rw[Cr];cases hj:Nat.beq j i
   ·rw[hj]at h;rw[Ag (Et.1 hj)];exact r2 h
   ·rw[hj]at h;rw[Aj (AN.1 hj)];obtain⟨c,m,e⟩:=k6 (by cases s<;>first|exact⟨_,rfl⟩|cases h);exact⟨c,m,by rw[e]⟩
  ·have h:Ac (Nat.beq j i) (match (generalizing:=false) s with | .vec _=>true | _=>false) (Jd i ob)=true:=h;rw[Cr];cases hj:Nat.beq j i
   ·rw[hj]at h;rw[Ag (Et.1 hj)];exact r3 h
   ·rw[hj]at h;rw[Aj (AN.1 hj)];obtain⟨c,m,e⟩:=k7 (by cases s<;>first|exact⟨_,rfl⟩|cases h);exact⟨c,m,by rw[e]⟩
theorem NT{l:List (Nat×OH)}:∀{h:List (Nat×Nat×TO)} {i:Nat},KL l h=true->hasK i l=false->Aw h i=none
 |[],i,_,_=>rfl
 |p :: r,i,h,k=>by have h:Ac (hasK p.1 l) (KL l r) false=true:=h;obtain⟨h1,h2⟩:=BK h;rw[Cr,Ag (fun e=>by rw[e,k]at h1;cases h1)];exact NT h2 k
theorem Ez{i:Nat}:∀{sl:List (Nat×SH)} {v:List SV},hasK i sl=false->Az (rbS T0 sl v) i=.v (.s .top)
 |[],v,_=>rfl
 |(j,s) :: sl,v,h=>by
  rw[CZ]at h;have hj:j≠i:=fun e=>by rw[Aj e]at h;cases h
  rw[Ag hj]at h;cases s with
  |k=>show Az ((j,_) :: rbS T0 sl v) i=_;rw[Bt,Ag hj];exact Ez h
  |v c =>
   cases v with
   |nil=>exact Ez (sl:=sl) (v:=[]) h
   |cons x v=>show Az ((j,_) :: rbS T0 sl v) i=_;rw[Bt,Ag hj];exact Ez h
  |c a =>show Az ((match ofA1 a with | some x=>(j,.v (.s x)) | none=>(j,.v (.s .top))) :: rbS T0 sl v) i=_;cases ofA1 a<;>(show Az ((j,_) :: rbS T0 sl v) i=_;rw[Bt,Ag hj];exact Ez h)
  |own id=>show Az ((j,_) :: rbS T0 sl v) i=_;rw[Bt,Ag hj];exact Ez h
  |vec id=>show Az ((j,_) :: rbS T0 sl v) i=_;rw[Bt,Ag hj];exact Ez h
  |ptr id off=>show Az ((j,_) :: rbS T0 sl v) i=_;rw[Bt,Ag hj];exact Ez h
  |mp id=>show Az ((j,_) :: rbS T0 sl v) i=_;rw[Bt,Ag hj];exact Ez h
theorem Fg{i:Nat}{w:List Nat}:∀{sl:List (Nat×SH)} {v:List SV},i∉setW sl w->i∉w/\(hasK i sl=true->Az (rbS T0 sl v) i=Az T0.t i)
 |[],v,h=>⟨h,fun e=>by cases e⟩
 |(j,.k) :: sl,v,h=>by
  obtain⟨h1,h2⟩:=Fg (sl:=sl) (v:=v) h;refine⟨h1,fun e=>?_⟩;rw[CZ]at e;by_cases hj:j=i
  ·subst hj;show Az ((j,Az T0.t j) :: rbS T0 sl v) j=_;rw[Bt,Aj rfl]
  ·rw[Ag hj]at e;have q:=h2 e;show Az ((j,Az T0.t j) :: rbS T0 sl v) i=_;rw[Bt,Ag hj];exact q
 |(j,.v c) :: sl,v,h=>by
  have h:i∉j :: setW sl w:=h;simp only[AV,DQ]at h;cases v with
  |nil =>obtain⟨h1,h2⟩:=Fg (sl:=sl) (v:=[]) h.2;refine⟨h1,fun e=>?_⟩;rw[CZ,Ag (fun e=>h.1 e.symm)]at e;exact h2 e
  |cons x v =>obtain⟨h1,h2⟩:=Fg (sl:=sl) (v:=v) h.2;refine⟨h1,fun e=>?_⟩;rw[CZ,Ag (fun e=>h.1 e.symm)]at e;have q:=h2 e;show Az ((j,_) :: rbS T0 sl v) i=_;rw[Bt,Ag (fun e=>h.1 e.symm)];exact q
 |(j,.c a) :: sl,v,h=>by have h:i∉j :: setW sl w:=h;simp only[AV,DQ]at h;obtain⟨h1,h2⟩:=Fg (sl:=sl) (v:=v) h.2;refine⟨h1,fun e=>?_⟩;rw[CZ,Ag (fun e=>h.1 e.symm)]at e;have q:=h2 e;show Az ((match ofA1 a with | some x=>(j,.v (.s x)) | none=>(j,.v (.s .top))) :: rbS T0 sl v) i=_;cases ofA1 a<;>(show Az ((j,_) :: rbS T0 sl v) i=_;rw[Bt,Ag (fun e=>h.1 e.symm)];exact q)
 |(j,.own id) :: sl,v,h=>by have h:i∉j :: setW sl w:=h;simp only[AV,DQ]at h;obtain⟨h1,h2⟩:=Fg (sl:=sl) (v:=v) h.2;refine⟨h1,fun e=>?_⟩;rw[CZ,Ag (fun e=>h.1 e.symm)]at e;have q:=h2 e;show Az ((j,_) :: rbS T0 sl v) i=_;rw[Bt,Ag (fun e=>h.1 e.symm)];exact q
 |(j,.vec id) :: sl,v,h=>by have h:i∉j :: setW sl w:=h;simp only[AV,DQ]at h;obtain⟨h1,h2⟩:=Fg (sl:=sl) (v:=v) h.2;refine⟨h1,fun e=>?_⟩;rw[CZ,Ag (fun e=>h.1 e.symm)]at e;have q:=h2 e;show Az ((j,_) :: rbS T0 sl v) i=_;rw[Bt,Ag (fun e=>h.1 e.symm)];exact q
 |(j,.ptr id off) :: sl,v,h=>by have h:i∉j :: setW sl w:=h;simp only[AV,DQ]at h;obtain⟨h1,h2⟩:=Fg (sl:=sl) (v:=v) h.2;refine⟨h1,fun e=>?_⟩;rw[CZ,Ag (fun e=>h.1 e.symm)]at e;have q:=h2 e;show Az ((j,_) :: rbS T0 sl v) i=_;rw[Bt,Ag (fun e=>h.1 e.symm)];exact q
 |(j,.mp id) :: sl,v,h=>by have h:i∉j :: setW sl w:=h;simp only[AV,DQ]at h;obtain⟨h1,h2⟩:=Fg (sl:=sl) (v:=v) h.2;refine⟨h1,fun e=>?_⟩;rw[CZ,Ag (fun e=>h.1 e.symm)]at e;have q:=h2 e;show Az ((j,_) :: rbS T0 sl v) i=_;rw[Bt,Ag (fun e=>h.1 e.symm)];exact q
theorem So{i:Nat}{sl:List (Nat×SH)}:∀{t:List (Nat×TV)} {w:List Nat},i∉FP sl t w->i∉w/\(hasK i sl=false->Az t i=.v (.s .top))
 |[],w,h=>⟨h,fun _=>rfl⟩
 |p :: l,w,h=>by
  have h:i∉Ac (hasK p.1 sl) (FP sl l w) (p.1 :: FP sl l w):=h;cases hp:hasK p.1 sl<;>rw[hp]at h
  ·have h:i∉p.1 :: FP sl l w:=h;simp only[AV,DQ]at h;obtain⟨h1,h2⟩:=So h.2;exact⟨h1,fun e=>by rw[Bt,Ag (fun e=>h.1 e.symm)];exact h2 e⟩
  ·obtain⟨h1,h2⟩:=So (t:=l) h;exact⟨h1,fun e=>by rw[Bt,Ag (fun e'=>by rw[e',e]at hp;cases hp)];exact h2 e⟩
theorem Gs{i:Nat}{w:List Nat}:∀{ob:List (Nat×OH)} {v:List SV},i∉Fs ob w->i∉w/\(hasK i ob=true->Aw (rbO T0 ob v) i=match Aw T0.h i with | some p=>some p | none=>some (T0.nx,.gone))
 |[],v,h=>⟨h,fun e=>by cases e⟩
 |(j,.k) :: ob,v,h=>by
  obtain⟨h1,h2⟩:=Gs (ob:=ob) (v:=v) h;refine⟨h1,fun e=>?_⟩;rw[CZ]at e;have e0:rbO T0 ((j,.k) :: ob) v=(match Aw T0.h j with | some p=>(j,p) :: rbO T0 ob v | none=>(j,T0.nx,.gone) :: rbO T0 ob v):=rfl;rw[e0];by_cases hj:j=i
  ·subst hj;cases Aw T0.h j<;>simp only[Cr,AX]
  ·rw[Ag hj]at e;have:=h2 e;cases Aw T0.h j<;>(simp only[Cr];rw[Ag hj];exact this)
 |(j,.gone) :: ob,v,h=>by have h:i∉j :: Fs ob w:=h;simp only[AV,DQ]at h;obtain⟨h1,h2⟩:=Gs (ob:=ob) (v:=v) h.2;refine⟨h1,fun e=>?_⟩;rw[CZ,Ag (fun e=>h.1 e.symm)]at e;show Aw ((j,_) :: rbO T0 ob v) i=_;rw[Cr,Ag (fun e=>h.1 e.symm)];exact h2 e
 |(j,.box c) :: ob,v,h=>by
  have h:i∉j :: Fs ob w:=h;simp only[AV,DQ]at h;refine⟨(Gs (ob:=ob) (v:=v) h.2).1,fun e=>?_⟩;rw[CZ,Ag (fun e=>h.1 e.symm)]at e;cases v with
  |nil=>show Aw ((j,_) :: rbO T0 ob []) i=_;rw[Cr,Ag (fun e=>h.1 e.symm)];exact(Gs (ob:=ob) (v:=[]) h.2).2 e
  |cons x v =>show Aw ((match x.cells with | some cs=>(j,T0.nx,.box cs) | none=>(j,T0.nx,.gone)) :: rbO T0 ob v) i=_;cases x.cells<;>(simp only[Cr];rw[Ag (fun e=>h.1 e.symm)];exact(Gs (ob:=ob) (v:=v) h.2).2 e)
 |(j,.own c) :: ob,v,h=>by
  have h:i∉j :: Fs ob w:=h;simp only[AV,DQ]at h;refine⟨(Gs (ob:=ob) (v:=v) h.2).1,fun e=>?_⟩;rw[CZ,Ag (fun e=>h.1 e.symm)]at e;cases v with
  |nil=>show Aw ((j,_) :: rbO T0 ob []) i=_;rw[Cr,Ag (fun e=>h.1 e.symm)];exact(Gs (ob:=ob) (v:=[]) h.2).2 e
  |cons x v=>cases x<;>(show Aw ((j,_) :: rbO T0 ob v) i=_;rw[Cr,Ag (fun e=>h.1 e.symm)];exact(Gs (ob:=ob) (v:=v) h.2).2 e)
 |(j,.vec c) :: ob,v,h=>by
  have h:i∉j :: Fs ob w:=h;simp only[AV,DQ]at h;refine⟨(Gs (ob:=ob) (v:=v) h.2).1,fun e=>?_⟩;rw[CZ,Ag (fun e=>h.1 e.symm)]at e;cases v with
  |nil=>show Aw ((j,_) :: rbO T0 ob []) i=_;rw[Cr,Ag (fun e=>h.1 e.symm)];exact(Gs (ob:=ob) (v:=[]) h.2).2 e
  |cons x v=>cases x<;>(show Aw ((j,_) :: rbO T0 ob v) i=_;rw[Cr,Ag (fun e=>h.1 e.symm)];exact(Gs (ob:=ob) (v:=v) h.2).2 e)
 |(j,.map _ _) :: ob,v,h=>by
  have h:i∉j :: Fs ob w:=h;simp only[AV,DQ]at h;refine⟨(Gs (ob:=ob) (v:=v) h.2).1,fun e=>?_⟩;rw[CZ,Ag (fun e=>h.1 e.symm)]at e;cases v with
  |nil=>show Aw ((j,_) :: rbO T0 ob []) i=_;rw[Cr,Ag (fun e=>h.1 e.symm)];exact(Gs (ob:=ob) (v:=[]) h.2).2 e
  |cons x v=>cases x<;>(show Aw ((j,_) :: rbO T0 ob v) i=_;rw[Cr,Ag (fun e=>h.1 e.symm)];exact(Gs (ob:=ob) (v:=v) h.2).2 e)
theorem Sp{i:Nat}:∀{ob:List (Nat×OH)} {v:List SV},hasK i ob=false->Aw (rbO T0 ob v) i=none
 |[],v,_=>rfl
 |(j,s) :: ob,v,h=>by
  rw[CZ]at h;have hj:j≠i:=fun e=>by rw[Aj e]at h;cases h
  rw[Ag hj]at h;have c:∀(y:Nat×TO) v,Aw ((j,y) :: rbO T0 ob v) i=none:=fun y v=>by rw[Cr,Ag hj];exact Sp h
  cases s with
  |k =>show Aw (match Aw T0.h j with | some p=>(j,p) :: rbO T0 ob v | none=>(j,T0.nx,.gone) :: rbO T0 ob v) i=_;cases Aw T0.h j<;>exact c _ _
  |gone=>exact c _ _
  |box d =>
   cases v with
   |nil=>exact c _ _
   |cons x v =>show Aw ((match x.cells with | some cs=>(j,T0.nx,.box cs) | none=>(j,T0.nx,.gone)) :: rbO T0 ob v) i=_;cases x.cells<;>exact c _ _
  |own d=>cases v with
   |nil=>exact c _ _
   |cons x v=>cases x<;>exact c _ _
  |vec d=>cases v with
   |nil=>exact c _ _
   |cons x v=>cases x<;>exact c _ _
  |map d d'=>cases v with
   |nil=>exact c _ _
   |cons x v=>cases x<;>exact c _ _
theorem FX{oA:List (Nat×OH)}{i:Nat}{w:List Nat}:∀{ob:List (Nat×OH)},i∉Fs ob w->hasK i ob=true->chO T0 T1 oA ob=true->i∉T1.wo
 |[],_,h,_=>by cases h
 |(j,.k) :: ob,h1,h2,h3=>by
  have h3:Ac (memN j T1.wo) false (chO T0 T1 oA ob)=true:=h3;obtain⟨p,h3⟩:=KT h3;rw[CZ]at h2;by_cases hj:j=i
  ·subst hj;exact NS p
  ·rw[Ag hj]at h2;exact FX (ob:=ob) h1 h2 h3
 |(j,.gone) :: ob,h1,h2,h3=>by have h1:i∉j :: Fs ob w:=h1;simp only[AV,DQ]at h1;rw[CZ,Ag (fun e=>h1.1 e.symm)]at h2;exact FX (ob:=ob) h1.2 h2 h3
 |(j,.box _) :: ob,h1,h2,h3=>by have h1:i∉j :: Fs ob w:=h1;simp only[AV,DQ]at h1;rw[CZ,Ag (fun e=>h1.1 e.symm)]at h2;exact FX (ob:=ob) h1.2 h2 h3
 |(j,.own _) :: ob,h1,h2,h3=>by have h1:i∉j :: Fs ob w:=h1;simp only[AV,DQ]at h1;rw[CZ,Ag (fun e=>h1.1 e.symm)]at h2;exact FX (ob:=ob) h1.2 h2 h3
 |(j,.vec _) :: ob,h1,h2,h3=>by have h1:i∉j :: Fs ob w:=h1;simp only[AV,DQ]at h1;rw[CZ,Ag (fun e=>h1.1 e.symm)]at h2;exact FX (ob:=ob) h1.2 h2 h3
 |(j,.map _ _) :: ob,h1,h2,h3=>by have h1:i∉j :: Fs ob w:=h1;simp only[AV,DQ]at h1;rw[CZ,Ag (fun e=>h1.1 e.symm)]at h2;exact FX (ob:=ob) h1.2 h2 h3
theorem FY:∀{sl:List (Nat×SH)} {a:List SV},svS T1 sl=some a->a.length=nV sl
 |[],a,h=>by cases h;rfl
 |(j,.v c) :: sl,a,h=>by
  simp only[svS]at h;split at h
  ·rename_i v r q1 q2;cases h;show r.length+1=nV sl+1;rw[FY q2]
  ·cases h
 |(j,.k) :: sl,a,h=>FY (sl:=sl) h
 |(j,.c _) :: sl,a,h=>FY (sl:=sl) h
 |(j,.own _) :: sl,a,h=>FY (sl:=sl) h
 |(j,.vec _) :: sl,a,h=>FY (sl:=sl) h
 |(j,.ptr _ _) :: sl,a,h=>FY (sl:=sl) h
 |(j,.mp _) :: sl,a,h=>FY (sl:=sl) h
def phJ(U0 U1:Phi)(nx:Nat)(hh:Aq)(h:List (Nat×Nat×TO)):Phi:=⟨fun id s=>if s=nx then ghoR ⟨0,0,fun _=>[]⟩ (hh id).ep (match Aw h id with | some (_,o)=>o | none=>.gone) else U0 id s,U1.X,U1.ds,U0.c⟩
theorem qz9d{h:List (Nat×Nat×TO)}:Ext nx U0 (phJ U0 U1 nx hh h):=⟨fun id s hs=>by show(if s=nx then _ else U0 id s)=U0 id s;rw[Ag (by omega)],rfl⟩
theorem E0{h:List (Nat×Nat×TO)}:(phJ U0 U1 nx hh h id nx).ep=(hh id).ep:=by show(if nx=nx then _ else U0 id nx).ep=_;rw[Aj rfl,Sa]
theorem NU{h:List (Nat×Nat×TO)}{o:TO}(e:Aw h id=some (st,o)):phJ U0 U1 nx hh h id nx=ghoR ⟨0,0,fun _=>[]⟩ (hh id).ep o:=by show(if nx=nx then _ else U0 id nx)=_;rw[Aj rfl,e]
theorem Sq{T:Av}(h:curO T id st=true):∃o,Aw T.h id=some (st,o):=by
 unfold curO at h;split at h
 ·rename_i st' o e;rw[e,AN.1 h];exact⟨o,rfl⟩
 ·cases h
theorem wzq8{T:Av}(h:curW T id st=true):∃c l,Aw T.h id=some (st,.own c l):=by
 unfold curW at h;split at h
 ·rename_i st' c l e;rw[e,AN.1 h];exact⟨c,l,rfl⟩
 ·cases h
theorem wzsp{T:Av}{x:TV}(h:kpP T0 T x=true)(hx:TOk U0 T0 x){U:Phi}(he:Ext T0.nx U0 U){T':Av}(hn:T0.nx<=T'.nx):TOk U T' x:=by
 cases x with
 |v x =>refine⟨FQ hn hx.1,?_⟩;exact Jf he hx.1 hx.2
 |cnd a b c x=>cases h
structure Jn(U0:Phi)(T0:Av)(U1:Phi)(T1:Av)(U':Phi)(T':Av):Prop where
 inv:InvT U' T'
 log:Log U0 T0 U' T'
 X:U'.X=U1.X
 ds:U'.ds=U1.ds
 w:∀i,W (eT U1 (Az T1.t i)) (eT U' (Az T'.t i))
 wo:∀i,WO (hO U1 i (Aw T1.h i)) (hO U' i (Aw T'.h i))
 see:See TabT.E (em U1 T1) (em U' T')
theorem qz4y[TabOk](cO:InvT U0 T0)(hL:Log U0 (cl0 T0) U1 T1)(gz:InvT U1 T1){H:OutH}{r:Row H.cts}(hA:arrT T0 T1 H=some r) : ∃U',Jn U0 T0 U1 T1 U' (rebT T0 H r):=by
 unfold arrT at hA;split at hA
 ·rename_i a b ha hb;replace hA:=AJ hA;obtain⟨kp,hA⟩:=hA;replace hA:=AJ hA;obtain⟨dt,hA⟩:=hA;replace hA:=AJ hA;obtain⟨gU,hA⟩:=hA;replace hA:=AJ hA;obtain⟨mY,hA⟩:=hA;replace hA:=AJ hA;obtain⟨pf,hA⟩:=hA;replace hA:=AJ hA;obtain⟨pg,hA⟩:=hA;replace hA:=AJ hA;obtain⟨mZ,hA⟩:=hA;have iR:T1.rf=T0.rf:=AN.1 pg;obtain⟨a',b',hv,ra,rb,hl⟩:=(wzhu hA).split;have jQ:(rowW H.cts r).drop (nV H.sl)=b':=by rw[hv,<-FY ha,<-hl];simp
  have eT0:(rebT T0 H r).t=rbS T0 H.sl (a'++b'):=by rw[<-hv];rfl
  have eH0:(rebT T0 H r).h=rbO T0 H.ob b':=by rw[<-jQ];rfl
  have sl1:=fun i=>Ey (i:=i) (rest:=b') ha kp ra;have ob1:=fun i=>wzia (oA:=H.ob) (i:=i) hb dt rb;have eU:∀i,i∉T1.w->eT U1 (Az T1.t i)=eT U0 (Az T0.t i):=fun i hi=>(hL.sl i hi).2;have dC:∀i,i∉T1.wo->inR T0.b i=true->hO U1 i (Aw T1.h i)=hO U0 i (Aw T0.h i):=fun i hi e=>(hL.ob i hi).2 e;have fp:T0.nx<=(rebT T0 H r).nx:=HA _
  have fu:∀i p,Aw (rebT T0 H r).h i=some p->inR T0.b i=true:=fun i p e=>by
   rw[eH0]at e;refine Sn mZ ?_;cases hk:hasK i H.ob
   ·rw[Sp hk]at e;cases e
   ·rfl
  have dI:T1.b=T0.b:=hL.fr.b;have ph:U1.c=U0.c:=hL.ext.c;have mc:Fr (phJ U0 U1 T0.nx (em U1 T1).h (rbO T0 H.ob b')) (rebT T0 H r):=by refine⟨fu,fun i e=>gz.fr.rx i (by rw[dI];exact e),fun i e1 e2=>gz.fr.rz i (by rw[dI,iR];exact e1) (by rw[dI];exact e2),fun D hD=>by have:=gz.fr.dd D hD;rw[dI,iR]at this;exact this,fun e1 e2=>gz.fr.ry (by rw[dI];exact e1) (by rw[iR];exact e2),trivial,trivial⟩
  have aJ:Ext T0.nx U0 (phJ U0 U1 T0.nx (em U1 T1).h (rbO T0 H.ob b')):=qz9d;have st0:∀i st o,Aw T0.h i=some (st,o)->st<T0.nx:=fun i st o h=>(cO.ob _ _ _ h).1;have rf0:∀i st o,Aw T0.h i=some (st,o)->RfO U0 T0.nx o:=fun i st o h=>(cO.ob _ _ _ h).2.2
  have tok:∀i y,Sl1 T0 T1 H.ob i y->TOk (phJ U0 U1 T0.nx (em U1 T1).h (rbO T0 H.ob b')) (rebT T0 H r) y:=by
   intro i y h;cases h with
   |k h k=>exact wzsp k (cO.sl i) (U:=phJ U0 U1 T0.nx (em U1 T1).h (rbO T0 H.ob b')) qz9d fp
   |v=>exact⟨trivial,trivial⟩
   |own=>exact⟨Dc _,trivial⟩
   |own0=>exact⟨Dc _,trivial⟩
   |vec=>exact⟨Dc _,trivial⟩
   |ptr=>exact⟨Dc _,trivial⟩
   |mp=>exact⟨Dc _,trivial⟩
  have epO:∀i st o,Aw T1.h i=some (st,o)->((em U1 T1).h i).ep=(U1 i st).ep:=fun i st o h=>by rw[Hm h,N9]
  have wvec:∀id st,curO T1 id st=true->Jd id H.ob=true->W (.vec id (U1 id st).ep 0 (U1 id st).n) (.vec id (phJ U0 U1 T0.nx (em U1 T1).h (rbO T0 H.ob b') id T0.nx).ep 0 (phJ U0 U1 T0.nx (em U1 T1).h (rbO T0 H.ob b') id T0.nx).n):=by
   intro id st k o;obtain⟨o1,ho⟩:=Sq k;obtain⟨c',m,hr⟩:=(ob1 id).2.2 o;show W (.vec id (U1 id st).ep 0 (U1 id st).n) (.vec id (phJ U0 U1 T0.nx (em U1 T1).h (rbO T0 H.ob b') id T0.nx).ep 0 (phJ U0 U1 T0.nx (em U1 T1).h (rbO T0 H.ob b') id T0.nx).n)
   have hm:(phJ U0 U1 T0.nx (em U1 T1).h (rbO T0 H.ob b') id T0.nx).n=(U1 id st).n:=by
    rw[NU hr];show m.length=_;rcases(ob1 id).1 with ⟨_,q⟩|h
    ·rw[q]at hr;cases hr
    ·rw[hr]at h;generalize hp:some (T0.nx,TO.vec c' m)=p at h;cases h with
     |k0 h p e=>cases hp;exact absurd (st0 _ _ _ e) (Nat.lt_irrefl _)
     |k1 h e=>cases hp
     |gone=>cases hp
     |map _ _ _ _ _=>cases hp
     |box st cs cs' h w=>cases hp
     |own st c m h=>cases hp
     |own0 c h=>cases hp
     |vec st c m h=>cases hp;rw[ho]at h;cases h;exact(gz.ob _ _ _ ho).2.1.1.symm
   rw[hm,E0,epO _ _ _ ho];exact .refl _
  have wownE:∀id st,curW T1 id st=true->DL id H.ob=true->eP U1 (.own id st)=eP (phJ U0 U1 T0.nx (em U1 T1).h (rbO T0 H.ob b')) (.own id T0.nx):=by
   intro id st k o;obtain⟨c,l,ho⟩:=wzq8 k;obtain⟨c',m,hr⟩:=(ob1 id).2.1 o;show(match (U1 id st).n with | 0=>Aa.nils | n+1=>.vec id (U1 id st).ep 0 (n+1))=(match (phJ U0 U1 T0.nx (em U1 T1).h (rbO T0 H.ob b') id T0.nx).n with | 0=>.nils | n+1=>.vec id (phJ U0 U1 T0.nx (em U1 T1).h (rbO T0 H.ob b') id T0.nx).ep 0 (n+1));have hn:(U1 id st).n=l.length:=(gz.ob _ _ _ ho).2.1.1
   have hm:(phJ U0 U1 T0.nx (em U1 T1).h (rbO T0 H.ob b') id T0.nx).n=l.length:=by
    rw[NU hr];show m.length=l.length;rcases(ob1 id).1 with ⟨_,q⟩|h
    ·rw[q]at hr;cases hr
    ·rw[hr]at h;generalize hp:some (T0.nx,TO.own c' m)=p at h;cases h with
     |k0 h p e=>cases hp;exact absurd (st0 _ _ _ e) (Nat.lt_irrefl _)
     |k1 h e=>cases hp
     |gone=>cases hp
     |map _ _ _ _ _=>cases hp
     |box st cs cs' h w=>cases hp
     |own st c m h=>cases hp;rw[ho]at h;cases h;rfl
     |own0 c h=>cases h _ _ ho
     |vec st c m h=>cases hp
   rw[hn,hm,E0,epO _ _ _ ho]
  have wown:∀id st,curW T1 id st=true->DL id H.ob=true->W (eP U1 (.own id st)) (eP (phJ U0 U1 T0.nx (em U1 T1).h (rbO T0 H.ob b')) (.own id T0.nx)):=fun id st k o=>by rw[wownE id st k o];exact .refl _
  have wown0:∀id,(∀st o,Aw T1.h id=some (st,o)->o=.gone)->DL id H.ob=true->W Aa.nils (eP (phJ U0 U1 T0.nx (em U1 T1).h (rbO T0 H.ob b')) (.own id T0.nx)):=by
   intro id k o;obtain⟨c',m,hr⟩:=(ob1 id).2.1 o;show W Aa.nils (match (phJ U0 U1 T0.nx (em U1 T1).h (rbO T0 H.ob b') id T0.nx).n with | 0=>.nils | n+1=>.vec id (phJ U0 U1 T0.nx (em U1 T1).h (rbO T0 H.ob b') id T0.nx).ep 0 (n+1))
   have hm:(phJ U0 U1 T0.nx (em U1 T1).h (rbO T0 H.ob b') id T0.nx).n=0:=by
    rw[NU hr];show m.length=0;rcases(ob1 id).1 with ⟨_,q⟩|h
    ·rw[q]at hr;cases hr
    ·rw[hr]at h;generalize hp:some (T0.nx,TO.own c' m)=p at h;cases h with
     |k0 h p e=>cases hp;exact absurd (st0 _ _ _ e) (Nat.lt_irrefl _)
     |k1 h e=>cases hp
     |gone=>cases hp
     |map _ _ _ _ _=>cases hp
     |box st cs cs' h w=>cases hp
     |own st c m h=>cases k _ _ h
     |own0 c h=>cases hp;rfl
     |vec st c m h=>cases hp
   rw[hm];exact .refl _
  have objW:∀i,WO (hO U1 i (Aw T1.h i)) (hO (phJ U0 U1 T0.nx (em U1 T1).h (rbO T0 H.ob b')) i (Aw (rbO T0 H.ob b') i)):=by
   intro i;rcases(ob1 i).1 with ⟨h1,h2⟩|h
   ·rw[h2,NT gU h1];exact G9.2 trivial
   ·have hg:WO (hO U1 i (Aw T1.h i)) (hO (phJ U0 U1 T0.nx (em U1 T1).h (rbO T0 H.ob b')) i (some (T0.nx,.gone))):=by
     show WO _ (Ad.gone (phJ U0 U1 T0.nx (em U1 T1).h (rbO T0 H.ob b') i T0.nx).ep);rw[E0,yzc,em_h]
    generalize Aw (rbO T0 H.ob b') i=p0 at h |-;cases h with
    |k0 h p e =>obtain⟨st,o⟩:=p;rw[dC i h (cO.fr.ro _ _ e),e];show WO (eO U0 (U0 i st).ep o) (eO (phJ U0 U1 T0.nx (em U1 T1).h (rbO T0 H.ob b')) (phJ U0 U1 T0.nx (em U1 T1).h (rbO T0 H.ob b') i st).ep o);rw[aJ.s i st (st0 _ _ _ e),NM aJ (rf0 _ _ _ e)];exact G9.2 trivial
    |k1 h e=>exact hg
    |gone=>exact hg
    |box st cs cs' h w =>rw[h];show WO (.box (U1 i st).ep (Ax cs)) (.box (phJ U0 U1 T0.nx (em U1 T1).h (rbO T0 H.ob b') i T0.nx).ep (Ax cs'));rw[E0,epO _ _ _ h];exact vze.2 ⟨rfl,w⟩
    |own st c m h =>rw[h];show WO (eO U1 (U1 i st).ep (.own c m)) (eO (phJ U0 U1 T0.nx (em U1 T1).h (rbO T0 H.ob b')) (phJ U0 U1 T0.nx (em U1 T1).h (rbO T0 H.ob b') i T0.nx).ep (.own c m));rw[E0,epO _ _ _ h];exact G9.2 trivial
    |own0 c h=>exact hg
    |map st k v m h =>rw[h];show WO (.amap (U1 i st).ep (mEs k v m)) (.amap ((phJ U0 U1 T0.nx (em U1 T1).h (rbO T0 H.ob b')) i T0.nx).ep (mEs k v m));rw[E0,epO _ _ _ h];exact G9.2 trivial
    |vec st c m h =>rw[h];show WO (eO U1 (U1 i st).ep (.vec c m)) (eO (phJ U0 U1 T0.nx (em U1 T1).h (rbO T0 H.ob b')) (phJ U0 U1 T0.nx (em U1 T1).h (rbO T0 H.ob b') i T0.nx).ep (.vec c m));rw[E0,epO _ _ _ h];exact G9.2 trivial
  have fG:InvT (phJ U0 U1 T0.nx (em U1 T1).h (rbO T0 H.ob b')) (rebT T0 H r):=by
   refine⟨fun i=>?_,fun i hi=>?_,fun i st o ho=>?_,mc⟩
   ·rw[eT0];rcases sl1 i with ⟨h1,h2⟩|h
    ·rw[h2];exact⟨trivial,trivial⟩
    ·exact tok i _ h
   ·rw[eT0];exact Ez (wzgz hi pf)
   ·rw[eH0]at ho;have key:st=T0.nx->RfO (phJ U0 U1 T0.nx (em U1 T1).h (rbO T0 H.ob b')) (T0.nx+1) o->st<(rebT T0 H r).nx/\OkO (phJ U0 U1 T0.nx (em U1 T1).h (rbO T0 H.ob b') i st) o/\RfO (phJ U0 U1 T0.nx (em U1 T1).h (rbO T0 H.ob b')) (rebT T0 H r).nx o:=fun e hr=>by subst e;exact⟨Dc _,by rw[NU ho];exact qzyq,hr⟩
    rcases(ob1 i).1 with ⟨h1,h2⟩|h
    ·rw[h2]at ho;cases ho
    ·rw[ho]at h;generalize hp:some (st,o)=p at h;cases h with
     |k0 h p e =>cases hp;have h1:=st0 _ _ _ e;exact⟨Gi h1 fp,Sb aJ h1 (cO.ob _ _ _ e).2.1,qzm2 aJ fp (cO.ob _ _ _ e).2.2⟩
     |k1 h e=>cases hp;exact key rfl trivial
     |gone=>cases hp;exact key rfl trivial
     |box st cs cs' h w=>cases hp;exact key rfl trivial
     |own st c m h=>cases hp;exact key rfl trivial
     |own0 c h=>cases hp;exact key rfl trivial
     |vec st c m h=>cases hp;exact key rfl trivial
     |map _ _ _ _ _=>cases hp;exact key rfl trivial
  have nc:∀i,inR T0.b i=true->U1.X i=U0.X i:=hL.fr.rg
  have nf:Aw T0.h 1899≠none->hasK 1899 H.ob=true:=fun h=>by
   cases hk:hasK 1899 H.ob
   ·exact absurd (NT mY hk) h
   ·rfl
  have slW:∀i,W (eT U1 (Az T1.t i)) (eT (phJ U0 U1 T0.nx (em U1 T1).h (rbO T0 H.ob b')) (Az (rebT T0 H r).t i)):=fun i=>by
   rw[eT0];rcases sl1 i with ⟨h1,h2⟩|h
   ·rw[h2];exact .top _
   ·generalize Az (rbS T0 H.sl (a'++b')) i=y at h;cases h with
    |k h k=>rw[eU i h,Jg aJ (NL (cO.sl i))];exact .refl _
    |v x0 x h w=>rw[h];exact w
    |own id st h k o=>rw[h];exact wown id st k o
    |own0 id h k o=>rw[h];exact wown0 id k o
    |vec id st h k o=>rw[h];exact wvec id st k o
    |ptr id st off h k =>obtain⟨o1,ho⟩:=Sq k;rw[h];show W (.ptr id (U1 id st).ep off) (.ptr id (phJ U0 U1 T0.nx (em U1 T1).h (rbO T0 H.ob b') id T0.nx).ep off);rw[E0,epO _ _ _ ho];exact .refl _
    |mp id st h k =>obtain⟨o1,ho⟩:=Sq k;rw[h];show W (.mp id (U1 id st).ep) (.mp id ((phJ U0 U1 T0.nx (em U1 T1).h (rbO T0 H.ob b')) id T0.nx).ep);rw[E0,epO _ _ _ ho];exact .refl _
  have obW:∀i,WO (hO U1 i (Aw T1.h i)) (hO (phJ U0 U1 T0.nx (em U1 T1).h (rbO T0 H.ob b')) i (Aw (rebT T0 H r).h i)):=fun i=>by rw[eH0];exact objW i
  refine⟨_,fG,⟨rfl,fp,aJ,fun i hi=>?_,fun i hi=>?_,⟨rfl,AA _,fun _=>rfl,fun h=>(Gs (T0:=T0) (v:=b') (show 1899∉Fs H.ob T0.wo from h)).1,fun h=>?_,nc,fun _ e=>hL.fr.eq iR (e.imp id fun e=>⟨FX (T0:=T0) (T1:=T1) (show 1899∉Fs H.ob T0.wo from e.1) (nf e.2) dt,e.2⟩)⟩⟩,rfl,rfl,slW,obW,wzbg fG rfl hL.n.symm slW obW⟩
  ·have hi:i∉setW H.sl (FP H.sl T0.t T0.w):=hi;obtain⟨h1,h2⟩:=Fg (T0:=T0) (v:=a'++b') hi;obtain⟨h3,h4⟩:=So h1;refine⟨h3,?_⟩;rw[eT0];cases hk:hasK i H.sl
   ·rw[Ez hk,h4 hk];rfl
   ·rw[h2 hk];exact Jg aJ (NL (cO.sl i))
  ·have hi:i∉Fs H.ob T0.wo:=hi;obtain⟨h1,h2⟩:=Gs (T0:=T0) (v:=b') hi;refine⟨h1,fun aQ=>?_⟩;rw[eH0];cases hk:hasK i H.ob
   ·rw[Sp hk,NT mY hk];exact nc i aQ
   ·rw[h2 hk];cases ho:Aw T0.h i with
    |some p =>obtain⟨st,o⟩:=p;show eO (phJ U0 U1 T0.nx (em U1 T1).h (rbO T0 H.ob b')) ((phJ U0 U1 T0.nx (em U1 T1).h (rbO T0 H.ob b')) i st).ep o=eO U0 (U0 i st).ep o;rw[aJ.s i st (st0 _ _ _ ho),NM aJ (rf0 _ _ _ ho)]
    |none =>show Ad.gone (phJ U0 U1 T0.nx (em U1 T1).h (rbO T0 H.ob b') i T0.nx).ep=U0.X i;rw[E0,em_h];have:=FX (T0:=T0) (T1:=T1) hi hk dt;rw[dC i this aQ,ho];obtain⟨e,he⟩:=cO.fr.rx i (Sn mZ hk);show Ad.gone (U0.X i).ep=U0.X i;rw[he];rfl
  ·rw[eH0];rcases(ob1 1899).1 with ⟨h1,_⟩|h'
   ·rw[nf h]at h1;cases h1
   ·generalize Aw (rbO T0 H.ob b') 1899=p at h';cases h'<;>(intro e;cases e)
 ·cases hA
theorem NV[TabOk](cO:InvT U0 T0)(hL:Log U0 (cl0 T0) U1 T1)(gz:InvT U1 T1){H:OutH}{r:Row H.cts}(hA:arrT T0 T1 H=some r) : ∃U',InvT U' (rebT T0 H r)/\Log U0 T0 U' (rebT T0 H r)/\See TabT.E (em U1 T1) (em U' (rebT T0 H r)):=by obtain⟨U',J⟩:=qz4y cO hL gz hA;exact⟨U',J.inv,J.log,J.see⟩
end
end
section
variable [Tab]
variable {ρ:Option Nat}{U:Phi}{T:Av}
def FinT(K:Exit->Av->Option α)(r:α)(U:Phi)(T:Av)(e:Exit)(S:Au):Prop := ∃U' T',K e T'=some r/\InvT U' T'/\Log U T U' T'/\T'.gs=[]/\See TabT.E S (em U' T')
theorem FinT.step{K:Exit->Av->Option α}{r:α}{U1:Phi}{T1:Av}{e:Exit}(L:Log U T U1 T1)(h:FinT K r U1 T1 e S):FinT K r U T e S:=by obtain⟨U',T',k1,k2,k3,k4,k5⟩:=h;exact⟨U',T',k1,k2,L.trans k3,k4,k5⟩
theorem qzts(hI:InvT U T)(hg:T.gs=[]):InvT U (cl0 T):=by
 refine⟨fun i=>?_,hI.hi,hI.ob,hI.fr.ofh rfl rfl rfl rfl rfl rfl⟩;have hx:=hI.sl i;show TOk U (cl0 T) (Az T.t i);revert hx;cases Az T.t i with
 |v x=>exact fun h=>h
 |cnd a b c x =>rintro⟨_,_,h,_⟩;rw[hg]at h;cases h
theorem Sr{T1:Av}:∀{l:List OutH} {e:Exit} {y:OutT l},injT T l e T1=some y->∃H r,arrT T T1 H=some r/\isE H.e e=true/\∀{α:Type} (T':Av) (K:Exit->Av->Option α),aftT T' K l y=K e (rebT T' H r)
 |[],e,y,h=>by cases h
 |[H],e,y,h=>by obtain⟨h1,h2⟩:=AJ (show Ac (isE H.e e) (arrT T T1 H) none=some y from h);refine⟨H,y,h2,h1,fun T' K=>?_⟩;show K H.e.ex (rebT T' H y)=_;rw[isE_ex h1]
 |H :: H' :: l,e,y,h=>by
  have h:Ac (isE H.e e) (match arrT T T1 H with | some r=>some (.inl r) | none=>none) (match injT T (H' :: l) e T1 with | some r=>some (.inr r) | none=>none)=some y:=h;cases he:isE H.e e
  ·rw[he]at h;have h:(match injT T (H' :: l) e T1 with | some r=>some (Sum.inr r) | none=>none)=some y:=h;split at h
   ·rename_i r hr;cases h;obtain⟨H1,r1,k1,k3,k2⟩:=Sr (l:=H' :: l) hr;exact⟨H1,r1,k1,k3,k2⟩
   ·cases h
  ·rw[he]at h;have h:(match arrT T T1 H with | some r=>some (Sum.inl r) | none=>none)=some y:=h;split at h
   ·rename_i r hr;cases h;refine⟨H,r,hr,he,fun T' K=>?_⟩;show K H.e.ex (rebT T' H r)=_;rw[isE_ex he]
   ·cases h
where
 isE_ex {o:OE} {e:Exit} (h:isE o e=true):o.ex=e:=by
  cases o<;>cases e<;>first
   |rfl
   |(cases h;done)
   |(rename_i i j;rw[show i=j from AN.1 h];rfl)
end
theorem wzkw{σ ω:Type}{body:σ->Option (σ⊕ω)}{N:Nat}{s:σ}{o:ω}(h:lpN body (N+1) s=some o):(∃s',body s=some (.inl s')/\lpN body N s'=some o)\/body s=some (.inr o):=by
 unfold lpN at h;split at h
 ·rename_i s' hb;exact .inl ⟨s',hb,h⟩
 ·rename_i o' hb;cases h;exact .inr hb
 ·cases h
section
theorem ATr.rw{args:List Aa}{r:Aa}(H:ATr E P f args h (fun v _=>W v r)):ATr E P f args h (fun v _=>v=r) :=
 fun g w vs hh hv=>(H g w vs hh hv).mono fun _ _ ⟨g',h',v,u,q,e,rv,rest⟩=>⟨g',h',r,u,rfl,e,rv.w q,rest⟩
theorem wzc8{rs:List ARes}{l:List Aa}(h:rs.map (ARes.val S)=l):HY S rs=match (generalizing:=false) l with | [x]=>x | l=>.tup l:=by
 subst h
 match rs with
 |[]=>rfl
 |[r]=>rfl
 |r :: s :: rs=>rfl
end
section
variable [Tab]
section
variable {ρ:Option Nat}{U:Phi}{T:Av}
theorem qz5r[TabOk]{c:AO}{J:Option (List OutH)}{inner:(Y:Type)->Av->(Exit->Av->Option Y)->Option Y}{K:Exit->Av->Option α}{r:α}(h:RS J T inner K=some r)(hI:InvT U T)(hg:T.gs=[])(hρ:T.rf<50->ρ=none)(k:∀{Y:Type} {T:Av} {K:Exit->Av->Option Y} {r:Y},inner Y T K=some r->InvT U T->T.gs=[]->(T.rf<50->ρ=none)->AW TabT.E ρ TabT.P c (FinT K r U T) (em U T)):AW TabT.E ρ TabT.P c (FinT K r U T) (em U T):=by
 cases J with
 |none=>exact k h hI hg hρ
 |some l =>obtain⟨y,h1,h2⟩:=NP (show bd (inner (OutT l) (cl0 T) (injT T l)) (aftT T K l)=some r from h);refine(k (T:=cl0 T) h1 (qzts hI hg) rfl hρ).mono ?_;rintro e S ⟨U1,T1,k1,k2,k3,k4,k5⟩;obtain⟨H,q,q1,_,q2⟩:=Sr k1;obtain⟨U',j1,j2,j3⟩:=NV hI k3 k2 q1;exact⟨U',_,by rw[<-q2 T K];exact h2,j1,j2,rfl,k5.trans j3⟩
theorem E1{T1:Av}{ob:List (Nat×OH)}:∀{sl:List (Nat×SH)},chS T T1 ob sl=true->chS (cl0 T) T1 ob sl=true
 |[],_=>rfl
 |(i,.k) :: sl,h=>by have h:Ac (memN i T1.w) false (Ac (kpP T T1 (Az T.t i)) (chS T T1 ob sl) false)=true:=h;obtain⟨p1,h⟩:=KT h;obtain⟨p2,h⟩:=BK h;show Ac (memN i T1.w) false (Ac (kpP (cl0 T) T1 (Az T.t i)) (chS (cl0 T) T1 ob sl) false)=true;rw[p1,show kpP (cl0 T) T1 (Az T.t i)=kpP T T1 (Az T.t i) from rfl,p2,E1 h];rfl
 |(i,.v c) :: sl,h=>E1 (sl:=sl) h
 |(i,.c a) :: sl,h=>by
  simp only[chS]at h |-;split at h
  ·obtain⟨p1,h⟩:=BK h;rw[p1,E1 h];rfl
  ·cases h
 |(i,.own id) :: sl,h=>by
  simp only[chS]at h |-;split at h
  ·obtain⟨p1,h⟩:=BK h;obtain⟨p2,h⟩:=BK h;obtain⟨p3,h⟩:=BK h;rw[p1,p2,p3,E1 h];rfl
  ·split at h;·obtain⟨p1,h⟩:=BK h;rw[p1,E1 h];rfl
   ·obtain⟨p1,h⟩:=BK h;rw[p1,E1 h];rfl
   ·cases h
  ·cases h
 |(i,.vec id) :: sl,h=>by
  simp only[chS]at h |-;split at h
  ·obtain⟨p1,h⟩:=BK h;obtain⟨p2,h⟩:=BK h;obtain⟨p3,h⟩:=BK h;rw[p1,p2,p3,E1 h];rfl
  ·cases h
 |(i,.ptr id off) :: sl,h=>by
  simp only[chS]at h |-;split at h
  ·obtain⟨p1,h⟩:=BK h;obtain⟨p2,h⟩:=BK h;obtain⟨p3,h⟩:=BK h;rw[p1,p2,p3,E1 h];rfl
  ·cases h
 |(i,.mp id) :: sl,h=>by
  simp only[chS]at h |-;split at h
  ·obtain⟨p1,h⟩:=BK h;obtain⟨p2,h⟩:=BK h;rw[p1,p2,E1 h];rfl
  ·cases h
theorem Ht{T1:Av}{oA:List (Nat×OH)}:∀{ob:List (Nat×OH)},chO T T1 oA ob=true->chO (cl0 T) T1 oA ob=true
 |[],_=>rfl
 |(i,.k) :: ob,h=>by have h:Ac (memN i T1.wo) false (chO T T1 oA ob)=true:=h;obtain⟨p1,h⟩:=KT h;show Ac (memN i T1.wo) false (chO (cl0 T) T1 oA ob)=true;rw[p1,Ht h];rfl
 |(i,.gone) :: ob,h=>Ht (ob:=ob) h
 |(i,.box _) :: ob,h=>Ht (ob:=ob) h
 |(i,.own _) :: ob,h=>Ht (ob:=ob) h
 |(i,.vec _) :: ob,h=>Ht (ob:=ob) h
 |(i,.map _ _) :: ob,h=>Ht (ob:=ob) h
theorem qz8y{T1:Av}{H:OutH}{r:Row H.cts}(h:arrT T T1 H=some r):arrT (cl0 T) T1 H=some r:=by
 unfold arrT at h |-;split at h
 ·rename_i a b ha hb;replace h:=AJ h;obtain⟨p1,h⟩:=h;replace h:=AJ h;obtain⟨p2,h⟩:=h;simp only[ha,hb,E1 p1,Ht p2,IQ];exact h
 ·cases h
theorem wzqr{rs:List ARes}(hI:InvT U T)(hg:T.gs=[]):∃U',InvT U' (frzR rs T)/\Log U T U' (frzR rs T)/\(frzR rs T).gs=[]/\See TabT.E (em U T) (em U' (frzR rs T)):=by obtain⟨U',h1,h2,h3,h4⟩:=KS (Fb T false true (rs.map fun r=>match r with | .t n=>.t n | .c n _ _=>.t n)++refI T rs) hI;exact⟨U',h1,h2,h3.trans hg,h4⟩
theorem Fh[TabOk]{H:List Fe}{ty:List (Nat×CT)}{rs:List ARes}:∀{c:AO} {α:Type} {h:HT} {T:Av} {K:Exit->Av->Option α} {r:α} {U:Phi} {ρ:Option Nat},Ce H ty rs c α h T K=some r->InvT U T->T.gs=[]->(T.rf<50->ρ=none)->AW TabT.E ρ TabT.P c (FinT K r U T) (em U T)
 |.skip,α,h,T,K,r,U,ρ,hc,hI,hg,hρ=>.skip ⟨U,T,hc,hI,.refl _ _,hg,.refl _⟩
 |.reg false ops pr,α,h,T0,K,r,U0,ρ,hc,cO,gw,hρ=>by have hc:regT H ty ops T0 (K .normal)=some r:=hc;exact .sreg (Sl (ops:=ops) hc cO (.of cO gw)).sreg
 |.reg true ops pr,α,h,T0,K,r,U0,ρ,hc,cO,gw,hρ=>by
  have hc:(fun T=>KK H ty ops T fun T' tr=>Ac (Fy ops pr tr) (K .normal (endT T')) none) (frzA T0 (drwF T0 [] ops))=some r:=hc;obtain⟨U,hI,l0,g0,s0⟩:=KS (drwF T0 [] ops) cO;generalize frzA T0 (drwF T0 [] ops)=T at *;have hg:T.gs=[]:=g0.trans gw;refine .see s0 (AW.mono (Q:=fun e S=>∃U' T',K e T'=some r/\InvT U' T'/\Log U T U' T'/\T'.gs=[]/\See TabT.E S (em U' T')) ?_ ?_);rotate_left
  ·rintro e S ⟨U',T',k1,k2,k3,k4,k5⟩;exact⟨U',T',k1,k2,l0.trans k3,k4,k5⟩
  obtain⟨U',T',tr,k1,k2,k3,k4⟩:=qzvq hc hI;obtain⟨p,k1⟩:=AJ k1;obtain⟨e1,e2,e3,e4⟩:=qzy9 k2 ((CW.of hI hg).log k3);exact .drawC (k4 _ ⟨p,U',_,k1,e1,k3.trans e2,e3,e4⟩)
 |.seq a b,α,h,T,K,r,U,ρ,hc,hI,hg,hρ=>by
  refine .seq ((Fh (c:=a) hc hI hg hρ).mono ?_);rintro e S ⟨U1,T1,k1,k2,k3,k4,k5⟩;cases e with
  |normal=>exact .see k5 ((Fh (c:=b) k1 k2 k4 fun e=>hρ (Tl k3.fr.le e)).mono fun e S' q=>q.step k3)
  |_=>exact⟨U1,T1,k1,k2,k3,k4,k5⟩
 |.cond c a b,α,h,T,K,r,U,ρ,hc,hI,hg,hρ=>by
  refine qz5r hc hI hg hρ ?_;intro Y T K r hi hI hg hρ;split at hi
  ·rename_i x hx;have hc:Ah TabT.E (em U T).t c=.bool x:=((FT hI).a _ _ hx).1;cases x with
   |false =>have aW:∃h',Ce H ty rs b Y h' T K=some r:=(by cases c<;>exact⟨_,hi⟩);obtain⟨h',aW⟩:=aW;exact .cond hc (fun e=>by cases e) (fun _=>Fh (c:=b) aW hI hg hρ)
   |true =>have aW:∃h',Ce H ty rs a Y h' T K=some r:=(by cases c<;>exact⟨_,hi⟩);obtain⟨h',aW⟩:=aW;exact .cond hc (fun _=>Fh (c:=a) aW hI hg hρ) (fun e=>by cases e)
  ·cases hi
 |.ret,α,h,T,K,r,U,ρ,hc,hI,hg,hρ=>by obtain⟨U',h1,h2,h3,h4⟩:=wzqr (rs:=rs) hI hg;exact .ret ⟨U',_,hc,h1,h2,h3,h4⟩
 |.exit i,α,h,T,K,r,U,ρ,hc,hI,hg,hρ=>.exit ⟨U,T,hc,hI,.refl _ _,hg,.refl _⟩
 |.scope c,α,h,T,K,r,U,ρ,hc,hI,hg,hρ=>by
  refine .scope ((Fh (c:=c) hc hI hg hρ).mono ?_);rintro e S ⟨U1,T1,k1,k2,k3,k4,k5⟩;cases e with
  |goto l=>cases k1
  |_=>exact⟨U1,T1,k1,k2,k3,k4,k5⟩
 |.label l,α,h,T,K,r,U,ρ,hc,hI,hg,hρ=>.label ⟨U,T,hc,hI,.refl _ _,hg,.refl _⟩
 |.any,α,h,T,K,r,U,ρ,hc,hI,hg,hρ=>by cases hc
 |.block i c,α,h,T,K,r,U,ρ,hc,hI,hg,hρ=>by
  refine qz5r hc hI hg hρ ?_;intro Y T K r hi hI hg hρ;refine .block ((Fh (c:=c) hi hI hg hρ).mono ?_);rintro e S ⟨U1,T1,k1,k2,k3,k4,k5⟩;cases e with
  |exit j =>
   have k1:Ac (Nat.beq j i) (K .normal T1) (K (.exit j) T1)=some r:=k1;show if j=i then _ else _;cases hj:Nat.beq j i<;>rw[hj]at k1
   ·rw[Ag (Et.1 hj)];exact⟨U1,T1,k1,k2,k3,k4,k5⟩
   ·rw[Aj (AN.1 hj)];exact⟨U1,T1,k1,k2,k3,k4,k5⟩
  |_=>exact⟨U1,T1,k1,k2,k3,k4,k5⟩
 |.loop c,α,.l fz hd J h,T0,K,r,U0,ρ,hc,cO,gw,hρ=>by
  obtain⟨U,hI,nh,hg,ia⟩:=KS fz cO;have hg:=hg.trans gw
  have hc:(fun T=>match arrT T (cl0 T) hd with
   | some r0=>bd (lp (fun r=>Ce H ty rs c (Row hd.cts⊕OutT J) h (rebT (cl0 T) hd r) fun e T'=>match e with
    |.normal=>match arrT T T' hd with
     |some r=>some (.inl r)
     |none=>none
    |e=>match injT T J e T' with
     |some r=>some (.inr r)
     | none=>none) r0) (aftT T K J)
   | none=>none) (frzA T0 fz)=some r:=hc
  refine .see ia (AW.mono ?_ fun e S q=>FinT.step nh q);replace hρ:(frzA T0 fz).rf<50->ρ=none:=fun e=>hρ (Tl nh.fr.le e);generalize frzA T0 fz=T at *
  have hc:(match arrT T (cl0 T) hd with
   | some r0=>bd (lp (fun r=>Ce H ty rs c (Row hd.cts⊕OutT J) h (rebT (cl0 T) hd r) fun e T'=>match e with
    |.normal=>match arrT T T' hd with
     |some r=>some (.inl r)
     |none=>none
    |e=>match injT T J e T' with
     |some r=>some (.inr r)
     | none=>none) r0) (aftT T K J)
   | none=>none)=some r:=hc
  split at hc
  ·rename_i r0 gq;obtain⟨o,h1,h2⟩:=NP hc;rw[Il]at h1;have md:=qzts hI hg;obtain⟨U1,j1,j2,j3⟩:=NV md (.refl _ _) md (qz8y gq)
   refine .loop (fun x:Nat×Row hd.cts×Phi=>em x.2.2 (rebT (cl0 T) hd x.2.1)) (fun x=>x.1) (fun x=>lpN (fun r=>Ce H ty rs c (Row hd.cts⊕OutT J) h (rebT (cl0 T) hd r) fun e T'=>match e with
    |.normal=>match arrT T T' hd with
     |some r=>some (.inl r)
     |none=>none
    |e=>match injT T J e T' with
     |some r=>some (.inr r)
     | none=>none) x.1 x.2.1=some o/\InvT x.2.2 (rebT (cl0 T) hd x.2.1)/\Log U (cl0 T) x.2.2 (rebT (cl0 T) hd x.2.1)) (4611686018427387904,r0,U1) ⟨h1,j1,j2⟩ j3 ?_
   rintro⟨N,q,Ux⟩ ⟨hN,ni,nj⟩;cases N with
   |zero=>cases hN
   |succ N =>
    rcases wzkw hN with ⟨s',hb,hN⟩|hb
    ·refine(Fh (c:=c) hb ni rfl hρ).mono ?_;rintro e S ⟨U2,T2,k1,k2,k3,k4,k5⟩;cases e with
     |normal =>
      have k1:(match arrT T T2 hd with | some r=>some (Sum.inl r) | none=>none)=some (.inl s'):=k1;split at k1
      ·rename_i r' bu;cases k1;obtain⟨U3,l1,l2,l3⟩:=NV md (nj.trans k3) k2 (qz8y bu);exact⟨(N,s',U3),⟨hN,l1,l2⟩,Dc _,k5.trans l3⟩
      ·cases k1
     |_ =>exfalso;revert k1;show(match injT T J _ T2 with | some r=>some (Sum.inr r) | none=>none)=some (.inl s')->False;split<;>(intro k;cases k)
    ·refine(Fh (c:=c) hb ni rfl hρ).mono ?_;rintro e S ⟨U2,T2,k1,k2,k3,k4,k5⟩
     have fin:(match injT T J e T2 with | some r=>some (Sum.inr r) | none=>none)=some (@Sum.inr (Row hd.cts) _ o)->FinT K r U T e S:=by
      intro k1;split at k1
      ·rename_i q1 pi;cases k1;obtain⟨H1,r1,p1,_,p2⟩:=Sr pi;obtain⟨U3,l1,l2,l3⟩:=NV hI (nj.trans k3) k2 p1;exact⟨U3,_,by rw[<-p2 T K];exact h2,l1,l2,rfl,k5.trans l3⟩
      ·cases k1
     cases e with
     |normal =>exfalso;revert k1;show(match arrT T T2 hd with | some r=>some (Sum.inl r) | none=>none)=some (.inr o)->False;split<;>(intro k;cases k)
     |_=>exact fin k1
  ·cases hc
 |.loop c,α,.n,T,K,r,U,ρ,hc,hI,hg,hρ=>by cases hc
 |.loop c,α,.s _ _,T,K,r,U,ρ,hc,hI,hg,hρ=>by cases hc
 |.loop c,α,.c _ _ _,T,K,r,U,ρ,hc,hI,hg,hρ=>by cases hc
 |.loop c,α,.b _ _,T,K,r,U,ρ,hc,hI,hg,hρ=>by cases hc
theorem Ss(hI:InvT U T):∀{rs:List ARes} {l:List SV},resS T rs=some l->HX (em U T) rs/\rs.map (ARes.val (em U T))=Ax l
 |[],l,h=>by cases h;exact⟨trivial,rfl⟩
 |.t n :: rs,l,h=>by
  simp only[resS]at h;split at h
  ·rename_i v r h1 h2;cases h;obtain⟨k1,k2⟩:=Ss hI h2;refine⟨⟨trivial,k1⟩,?_⟩;show(em U T).t.getD n .top :: rs.map (ARes.val (em U T))=A6 v :: Ax r;rw[Ew hI,h1,k2];rfl
  ·cases h
 |.c n agg sz :: rs,l,h=>by
  simp only[resS]at h;split at h
  ·rename_i id st r h1 h2;split at h
   ·rename_i st' cs ho;replace h:=AJ h;obtain⟨p1,h⟩:=h;replace h:=AJ h;obtain⟨p2,h⟩:=h;replace h:=AJ h;obtain⟨p3,h⟩:=h;obtain rfl:=AN.1 p1;have p2:=AN.1 p2;cases h;obtain⟨k1,k2⟩:=Ss hI h2;have e1:(em U T).t.getD n .top=.ptr id (U id st).ep 0:=by rw[Ew hI,h1];rfl
    have e2:(em U T).h id=.box (U id st).ep (Ax cs):=Hm ho;have e3:D3 agg sz ((em U T).t.getD n .top) (em U T).h=⟨(U id st).ep=(U id st).ep/\0+sz<=(Ax cs).length/\(agg=false->sz=1),[id],ldv agg sz (Ax cs) 0,none⟩:=(by simp only[D3,e1,e2]);refine⟨⟨?_,k1⟩,?_⟩
    ·show(D3 agg sz ((em U T).t.getD n .top) (em U T).h).ok;rw[e3];exact⟨rfl,by rw[Gr];omega,NF p3⟩
    ·show(D3 agg sz ((em U T).t.getD n .top) (em U T).h).v :: rs.map (ARes.val (em U T))=A6 (ldS agg sz cs 0) :: Ax r;rw[e3,k2,NC]
   ·cases h
  ·cases h
theorem qz0w:∀(c:CT) (l:List CT) (r:RowC c.T l),Hd c l [] r=Hc c l r
 |c,[],r=>rfl
 |c,d :: l,r=>by show _ :: Hd d l [] r.2=_ :: Hc d l r.2;rw[qz0w d l];rfl
theorem wzk6:∀(l:List CT) (r:Row l),prmS l [] r=rowW l r
 |[],r=>rfl
 |c :: l,r=>qz0w c l r
theorem wzpg[TabOk]{H:List Fe}{cs:List CT}{l:List SV}{y:Row cs}(h:FN H cs [] l=some y):W (match Ax l with | [x]=>x | l=>.tup l) (A6 (retT cs y)):=by
 have hw:Ws (Ax l) (Ax (rowW cs y)):=by have:=KF h;rw[wzk6]at this;exact this
 match cs,y,hw with
 |[],y,hw =>
  cases l with
  |nil=>exact .refl _
  |cons x l=>exact hw.elim
 |[c],y,hw =>
  match l,hw with
  |[],hw=>exact hw.elim
  |[x],hw=>exact hw.1
  |x :: x' :: l,hw=>exact hw.2.elim
 |c :: d :: cs,y,hw =>
  match l,hw with
  |[],hw=>exact hw.elim
  |[x],hw=>exact(show Ws [] (Ax (Hc d cs y.2)) from hw.2) |> fun h=>by cases cs<;>exact h.elim
  |x :: x' :: l,hw=>exact Pe.2 hw
theorem qz4b:∀(l:List SV) (i:Nat),eTm U (zipS i l)=zipA i (Ax l)
 |[],i=>rfl
 |x :: l,i=>by show(i,A6 x) :: eTm U (zipS (i+1) l)=(i,A6 x) :: zipA (i+1) (Ax l);rw[qz4b l]
theorem wznj:∀(l:List SV) (i j:Nat),∃v,Az (zipS i l) j=.v (.s v)
 |[],i,j=>⟨.top,rfl⟩
 |x :: l,i,j=>by
  show ∃v,Az ((i,.v (.s x)) :: zipS (i+1) l) j=.v (.s v);rw[Bt];split
  ·exact⟨x,rfl⟩
  ·exact wznj l (i+1) j
theorem wzfx:∀(l:List SV) (i j:Nat),i+l.length<=j->Az (zipS i l) j=.v (.s .top)
 |[],i,j,_=>rfl
 |x :: l,i,j,h=>by have h:i+(l.length+1)<=j:=h;show Az ((i,.v (.s x)) :: zipS (i+1) l) j=_;rw[Bt,Ag (by simp only;omega)];exact wzfx l (i+1) j (by omega)
theorem qz1c(c:CT):∀(l:List CT) (p:List Bool) (r:RowC c.T l),(Hd c l p r).length=l.length+1
 |[],p,r=>rfl
 |d :: l,p,r=>by show _+1=_;rw[qz1c d l p.tail r.2];rfl
theorem St:∀(l:List CT) (p:List Bool) (r:Row l),(prmS l p r).length=l.length
 |[],p,r=>rfl
 |c :: l,p,r=>qz1c c l p r
def UZ:Phi:=⟨fun _ _=>⟨0,0,fun _=>[]⟩,h0,[],()⟩
theorem wzi8{a:List CT}{p:List Bool}{x:Row a}(hl:a.length<=n):InvT UZ (iniT n a p x):=by
 have aE:(prmS a p x).length=a.length:=St _ _ _;refine⟨fun i=>?_,fun i hi=>?_,fun id st o ho=>(by cases ho),⟨fun id p ho=>(by cases ho),fun i _=>⟨0,rfl⟩,fun i _ _=>⟨0,rfl⟩,fun D hD=>(by cases hD),fun _ _ i _ _=>⟨0,rfl⟩,trivial,trivial⟩⟩
 ·obtain⟨v,hv⟩:=wznj (prmS a p x) 0 i;show TOk _ _ (Az (zipS 0 (prmS a p x)) i);rw[hv];exact⟨trivial,trivial⟩
 ·have hi:n<=i:=hi;exact wzfx _ _ _ (by omega)
theorem wzo0{a:List CT}{p:List Bool}{x:Row a}(hl:a.length<=n):em UZ (iniT n a p x)=⟨Ax (prmS a p x)++List.replicate (n-a.length) .top,h0,[]⟩:=by have aE:(prmS a p x).length=a.length:=St _ _ _;rw[Ib,Gr,aE,show a.length+(n-a.length)=n by omega,<-qz4b (U:=UZ)];rfl
theorem wzot[TabOk]{H:List Fe}(hE:∀i,AE (TabT.E i)){ty:List (Nat×CT)}{rs:List ARes}{ac:AO}{h:HT}{C:Fc}{fn:Func}{c:Code}(hf:TabT.P.funcs[C.f]?=some fn) (hb:fn.body=some c) (hr:D7 TabT.P fn.results.toList rs=true) (hc:AH TabT.P c ac=true) (hn:fn.ntmps=n) (hl:C.a.length<=n) (he:CY TabT.P C.f=true)(ht:∀x,funT H ty rs n ac h C x=C.F x):Ap C:=by
 refine⟨he,fun x y hy=>?_⟩;have hT:=ht x;rw[hy]at hT;have aE:(prmS C.a C.p x).length=C.a.length:=St _ _ _
 have hw:AW TabT.E none TabT.P ac (Post TabT.E rs (fun v _=>W v (A6 (retT C.r y)))) (em UZ (iniT n C.a C.p x)):=by
  refine(Fh (c:=ac) hT (wzi8 hl) rfl fun _=>rfl).mono ?_;rintro e S ⟨U',T',k1,k2,k3,k4,k5⟩;cases e with
  |ret =>
   have k1:(match resS T' rs with | some l=>FN H C.r [] l | none=>none)=some y:=k1;split at k1
   ·rename_i l hl;obtain⟨q1,q2⟩:=Ss k2 hl;refine⟨em U' T',k5,q1,fun i=>.gone ((em U' T').h i).ep,fun i=>.inl rfl,fun D _=>⟨_,rfl⟩,?_⟩;rw[wzc8 q2];exact wzpg k1
   ·cases k1
  |_=>cases k1
 rw[wzo0 hl]at hw;have hp:Pure TabT.E TabT.P C.f (Ax (prmS C.a C.p x)) (A6 (retT C.r y)):=ATr.rw (ATr.of hf hb hr hc (n-C.a.length) (by rw[hn,Gr,aE]) hw);exact hp.still hE (He _) (qz89 _)
end
end
def cV1:Value->Aa
 |.int k n=>.int k n
 |.bool a=>.bool a
 |.string s=>.str s.data.toList
 |.slice none _ _=>.nils
 |.pointer none=>.nilp
 |.nilFunc=>.nilfn
 |.map none=>.nilmp
 |_=>.top
def cVs:List Value->List Aa
 |[]=>[]
 |v :: l=>cV1 v :: cVs l
def cV:Value->Aa
 |.agg cs=>.agg (cVs cs.toList)
 |.tuple cs=>.tup (cVs cs.toList)
 |v=>cV1 v
def cG:Operand->Ae
 |.tmp n=>.t n
 |.const v=>.c (cV v)
 |.global i=>.g i
 |.func f=>.c (.fn f 0 [])
def cGs:List Operand->List Ae
 |[]=>[]
 |x :: l=>cG x :: cGs l
def cGo:Option Operand->Option Ae
 |some x=>some (cG x)
 |none=>none
def oN:Option Nat->Nat
 |some n=>n
 |none=>0
section
variable (P:Program)
def cSz(t:TypeId):Nat:=oN (szOf P t)
def cAg(t:TypeId):Bool:=match D4 P t with
 |some b=>b
 |none=>false
def cZ(t:TypeId):List Aa:=match D5 P t with
 |some z=>cVs z
 |none=>[]
def cLd(t:TypeId):Nat:=Ac (cAg P t) (cSz P t) 1
def cPl(f:Nat->Option (Nat×Nat)):List (Nat×Operand)->List (Nat×Nat×Ae)
 |[]=>[]
 | (i,x) :: l=>(match f i with
  |some (o,s)=>(o,s,cG x)
  | none=>(0,0,cG x)) :: cPl f l
def wzb4:BinOp->Bool
 |.neq=>true
 |_=>false
def wzu6(s:Nat)(b:Builtin):List Operand->List TypeId->Ao
 |[x],[t]=>match b with
  |.len=>match P.underlying t with
   |some .string=>.len true (cG x)
   |_=>.len false (cG x)
  |.clear=>match P.underlying t with
   |some (.slice e)=>.clear (cZ P e) (cG x)
   |_=>.mv (.c .top)
  |_=>.mv (.c .top)
 |[x,y],[t,_]=>match b with
  |.max=>.max (cG x) (cG y)
  |.min=>.min (cG x) (cG y)
  |.append=>match P.underlying t with
   |some (.slice e)=>.append s (cSz P e) (oN (byOf P e)) (cG x) (cG y)
   |_=>.mv (.c .top)
  |.copy=>match P.underlying t with
   |some (.slice e)=>.copy (cSz P e) (cG x) (cG y)
   |_=>.mv (.c .top)
  |_=>.mv (.c .top)
 |_,_=>.mv (.c .top)
def cZv(agg:Bool)(z:List Aa):Aa:=Ac agg (.agg z) (z.getD 0 .top)
def cOp(fz:Bool)(s:Nat):Op->Ao
 |.move x=>.mv (cG x)
 |.assign x=>.mv (cG x)
 |.pick c x y=>.pick (cG c) (cG x) (cG y)
 |.binOp op t x y _=>match P.underlying t with
  | some (.struct _)=>.eqagg (match eqFields P 9 t with
   |some l=>l
   | none=>[]) (wzb4 op) (cG x) (cG y)
  |some (.slice _)=>.isnil (wzb4 op) (cG x)
  |some .bool=>.bin op true (cG x) (cG y)
  |_=>.bin op false (cG x) (cG y)
 |.unOp op _ x=>match op with
  |.not=>.not (cG x)
  |_=>.neg (cG x)
 |.alloc t=>.alloc s (cZ P t)
 |.box _ x=>.box s (cG x)
 |.load t x=>.load (cAg P t) (cLd P t) (cG x)
 |.store t x y=>.store (cSz P t) (cG x) (cG y)
 |.nilCheck x=>.nilck (cG x)
 |.fieldAddr t x f=>match JE P t f with
  |some (o,_)=>.faddr o (cG x)
  |none=>.mv (.c .top)
 |.indexAddr t x i=>match P.underlying t with
  |some (.slice e)=>.iaddrS (cSz P e) (cG x) (cG i)
  |_=>.mv (.c .top)
 |.index t x i=>.sidx (cG x) (cG i)
 |.extract x i=>.extract i (cG x)
 |.build t ps=>match P.underlying t with
  |some (.struct fs)=>match Gy P fs.toList with
   |some l=>.build (cZ P t) (cPl (fun i=>l[i]?) ps.toList)
   |none=>.mv (.c .top)
  |some (.array _ e)=>.build (cZ P t) (cPl (fun i=>some (i*cSz P e,cSz P e)) ps.toList)
  |_=>.mv (.c .top)
 |.buildSlice t n ps=>match P.underlying t with
  |some (.slice e)=>match D5 P e with
   |some z=>Ac fz (.fslice s (cSz P e) n (cVs (HL z (n*cSz P e))) (cPl (fun i=>some (i*cSz P e,cSz P e)) ps.toList)) (.bslice s (cSz P e) n (cVs (HL z (n*cSz P e))) (cPl (fun i=>some (i*cSz P e,cSz P e)) ps.toList))
   |none=>.mv (.c .top)
  |_=>.mv (.c .top)
 |.convert src dst x=>match P.underlying dst with
  |some (.int k)=>.conv k (cG x)
  |some (.slice _)=>.s2b s (cG x)
  |_=>.b2s (cG x)
 |.makeFunc f first caps=>match f with
  |.func f=>.mkfn f first.size (cGs (first.toList++caps.toList))
  |_=>.mv (.c .top)
 |.makeSlice t x _=>match P.underlying t with
  |some (.slice e)=>.mks s (cSz P e) (oN (byOf P e)) (cZ P e) (cG x)
  |_=>.mv (.c .top)
 |.makeMap _ _=>.mkmap s
 |.lookup t x k cok=>match P.underlying t with
  |some (.map kt et)=>.mlook (oN (CK P kt)) cok (cZv (cAg P et) (cZ P et)) (cG x) (cG k)
  |_=>.mv (.c .top)
 |.mapUpdate t m k v=>match P.underlying t with
  |some (.map kt _)=>.mupd (oN (CK P kt)) (cG m) (cG k) (cG v)
  |_=>.mv (.c .top)
 |.insert t m k v=>match P.underlying t with
  |some (.map kt _)=>.mupd (oN (CK P kt)) (cG m) (cG k) (cG v)
  |_=>.mv (.c .top)
 |.slice t x lo hi _=>match P.underlying t with
  |some (.slice e)=>.slice false (cSz P e) (cG x) (cGo lo) (cGo hi)
  |_=>.slice true 0 (cG x) (cGo lo) (cGo hi)
 |.call c=>match c.callee with
  |.value (.func f)=>.callf f (cGs c.args.toList)
  |.value x=>.callv (cG x) (cGs c.args.toList)
  |.builtin b=>wzu6 P s b c.args.toList c.argTypes.toList
  |_=>.mv (.c .top)
 |_=>.mv (.c .top)
def mkS:Ao->Nat
 |.alloc _ _ | .box _ _ | .bslice _ _ _ _ _ | .fslice _ _ _ _ _ | .mks _ _ _ _ _ | .s2b _ _ | .append _ _ _ _ _ | .mkmap _=>1
 |_=>0
def cGd(ops:Array Oper):Option (Nat×Bool)->Option (Nat×Bool)
 |some (j,want)=>match ops[j]? with
  |some q=>match q.dst with
   |some d=>some (d,want)
   |none=>none
  |none=>none
 |none=>none
def cUs:List Ae->List Nat->List Nat
 |[],r=>r
 |.t n :: l,r=>n :: cUs l r
 |_ :: l,r=>cUs l r
def cP2:List (Nat×Operand)->List Operand
 |[]=>[]
 |p :: l=>p.2 :: cP2 l
def cUse:List Oper->List Nat
 |[]=>[]
 |o :: l=>match o.op with
  |.call c=>match c.callee with
   |.value (.func _)=>cUs (cGs c.args.toList) (cUse l)
   |_=>cUse l
  |.build _ ps=>cUs (cGs (cP2 ps.toList)) (cUse l)
  |.buildSlice _ _ ps=>cUs (cGs (cP2 ps.toList)) (cUse l)
  |_=>cUse l
def cUst:List Oper->List Nat
 |[]=>[]
 |o :: l=>match o.op with
  |.store _ _ x=>cUs (cGs [x]) (cUst l)
  |_=>cUst l
def cFz(us:List Nat):Option Tmp->Bool
 |some d=>memN d us
 |none=>false
def kSm:List (Nat×Nat)->Nat->Nat
 |[],s=>s
 |p :: l,s=>Ac (Nat.beq p.1 s) p.2 (kSm l s)
variable (sm:List (Nat×Nat))
def cOps(us:List Nat)(ops:Array Oper)(s:Nat):List Oper->List Ak
 |[]=>[]
 |o :: l=>⟨o.dst,cOp P (cFz us o.dst) (kSm sm s) o.op,cGd ops o.guard⟩ :: cOps us ops (s+mkS (cOp P false s o.op)) l
def nOps:List Oper->Nat
 |[]=>0
 |o :: l=>mkS (cOp P false 0 o.op)+nOps l
def insN(i:Nat)(l:List Nat):List Nat:=Ac (memN i l) l (i :: l)
def uniN:List Nat->List Nat->List Nat
 |[],l=>l
 |i :: k,l=>insN i (uniN k l)
def cPr1(acc:List (List Nat)):List Edge->List Nat
 |[]=>[]
 |e :: l=>Ac (Region.binds .any e) (insN e.on (uniN (acc.getD e.on []) (cPr1 acc l))) (cPr1 acc l)
def cPr(acc:List (List Nat)):List Oper->List (List Nat)
 |[]=>acc
 |o :: l=>cPr (acc++[cPr1 acc o.after.toList]) l
def DM:Code->Nat
 |.region _ ops _=>nOps P ops.toList
 |.seq a b=>DM a+DM b
 |.cond _ a b=>DM a+DM b
 |.block _ a=>DM a
 |.loop a=>DM a
 |.scope a=>DM a
 |.rangeFunc _ _ a b=>DM a+DM b
 |_=>0
def Fi:Nat->Code->AO
 |s,.skip=>.skip
 |s,.region _ ops d=>Ac d (.reg true (cOps P sm (cUst ops.toList++cUse ops.toList) ops s ops.toList) (cPr [] ops.toList)) (.reg false (cOps P sm (cUse ops.toList) ops s ops.toList) [])
 |s,.seq a b=>.seq (Fi s a) (Fi (s+DM P a) b)
 |s,.cond c a b=>.cond (cG c) (Fi s a) (Fi (s+DM P a) b)
 |s,.block i a=>.block i (Fi s a)
 |s,.loop a=>.loop (Fi s a)
 |s,.exit i=>.exit i
 |s,.scope a=>.scope (Fi s a)
 |s,.label l=>.label l
 |s,_=>.ret
def cRs:List ResultVar->List ARes
 |[]=>[]
 |.tmp a :: l=>.t a :: cRs l
 |.cell a t :: l=>.c a (cAg P t) (cLd P t) :: cRs l
def cF(fn:Func):AO:=match fn.body with
 |some c=>Fi P sm 0 c
 |none=>.ret
def ckF(fn:Func)(n:Nat):Bool:=match fn.body with
 |some c=>Ac (AH P c (Fi P sm 0 c)) (Ac (D7 P fn.results.toList (cRs P fn.results.toList)) (Nat.ble n fn.ntmps) false) false
 |none=>false
end
theorem AK.cast{f':FuncId}{a a':List Aa}(H:AK E P f a v)(e:(f,a,v)=(f',a',v')):AK E P f' a' v':=by cases e;exact H
section
variable [Tab]
theorem Ap.still{C:Fc}(H:Ap C){x:Row C.a}{y:Row C.r}(h:C.F x=some y){a:List Aa}(e:(C.f,Ax (prmS C.a C.p x),A6 (retT C.r y))=(f,a,v)):AK TabT.E TabT.P f a v:=(H.ok x y h).cast e
theorem Zj[TabOk](hE:∀i,AE (TabT.E i))(H:List Fe)(sm:List (Nat×Nat))(ty:List (Nat×CT))(h:HT){C:Fc}{fn:Func}(hf:TabT.P.funcs[C.f]?=some fn)(he:CY TabT.P C.f=true)(hc:ckF TabT.P sm fn C.a.length=true) (ht:∀x,funT H ty (cRs TabT.P fn.results.toList) fn.ntmps (cF TabT.P sm fn) h C x=C.F x):Ap C:=by
 unfold ckF at hc;unfold cF at ht;split at hc
 ·rename_i c hb;rw[hb]at ht;obtain⟨h1,hc⟩:=BK hc;obtain⟨h2,hc⟩:=BK hc;exact wzot hE hf hb h2 h1 rfl (Lt hc) he ht
 ·cases hc
end
end Go.Am

